import PyProof.Rows.All
import Wide.All
import OpenK.AllK
import Wide.FinOn
import Lean
import PySem.Challenge.RW_nt0182_01
open PySem PySem.W PyProof.Rows
set_option Elab.async false
namespace Mine
noncomputable section
set_option maxRecDepth 100000
set_option linter.unusedVariables false
abbrev pw : Program := PySem.Challenge.pw_nt0182_01
noncomputable def stAt (i : Nat) : Stmt := match pw.main.body[i]? with | some s => s | none => default
noncomputable def inAt (i j : Nat) : Stmt := match stAt i with | .ClassDef _ _ _ b _ _ _ _ _ _ _ => (match b[j]? with | some s => s | none => default) | _ => default
noncomputable def fArgs (s : Stmt) : Arguments := match s with | .FunctionDef _ a _ _ _ _ _ _ _ _ => a | _ => default
noncomputable def fBody (s : Stmt) : List Stmt := match s with | .FunctionDef _ _ b _ _ _ _ _ _ _ => b | _ => default
noncomputable def fScope (s : Stmt) : Scope := match s with | .FunctionDef _ _ _ _ _ _ sc _ _ _ => sc | _ => default
noncomputable def ko2 (P : Params) : Obj := ⟨.none, none, (.dict #[⟨PyData.keyHash P (Str.ofString "type.__subclasses__.Exception.0"), (.str (Str.ofString "type.__subclasses__.Exception.0") 780), (.int 441 0)⟩, ⟨PyData.keyHash P (Str.ofString "type.__subclasses__.Exception.n"), (.str (Str.ofString "type.__subclasses__.Exception.n") 781), (.int 1 0)⟩] 2), #[]⟩
noncomputable def ko3 (P : Params) : Obj := ⟨(.type "dict"), none, (.dict #[⟨PyData.keyHash P (Str.ofString "__name__"), (.str (Str.ofString "__name__") 165), (.str (Str.ofString "law_nt0182_01") 1721)⟩, ⟨PyData.keyHash P (Str.ofString "__doc__"), (.str (Str.ofString "__doc__") 166), .none⟩, ⟨PyData.keyHash P (Str.ofString "__package__"), (.str (Str.ofString "__package__") 167), .none⟩, ⟨PyData.keyHash P (Str.ofString "__loader__"), (.str (Str.ofString "__loader__") 168), (.builtin "__main__.__loader__#opaque")⟩, ⟨PyData.keyHash P (Str.ofString "__spec__"), (.str (Str.ofString "__spec__") 169), .none⟩, ⟨PyData.keyHash P (Str.ofString "__annotations__"), (.str (Str.ofString "__annotations__") 170), (.ref 6)⟩, ⟨PyData.keyHash P (Str.ofString "__builtins__"), (.str (Str.ofString "__builtins__") 171), (.ref 4)⟩, ⟨PyData.keyHash P (Str.ofString "__file__"), (.str (Str.ofString "__file__") 173), (.str (Str.ofString "/claim/cut.py") 172)⟩, ⟨PyData.keyHash P (Str.ofString "__cached__"), (.str (Str.ofString "__cached__") 174), .none⟩, ⟨PyData.keyHash P (Str.ofString "_wall"), (.str (Str.ofString "_wall") 193), (.ref 21)⟩, ⟨PyData.keyHash P (Str.ofString "CONST"), (.str (Str.ofString "CONST") 197), (.int 0 196)⟩, ⟨PyData.keyHash P (Str.ofString "LOCAL"), (.str (Str.ofString "LOCAL") 199), (.int 1 198)⟩, ⟨PyData.keyHash P (Str.ofString "GLOBAL"), (.str (Str.ofString "GLOBAL") 201), (.int 2 200)⟩, ⟨PyData.keyHash P (Str.ofString "SET_LOCAL"), (.str (Str.ofString "SET_LOCAL") 203), (.int 3 202)⟩, ⟨PyData.keyHash P (Str.ofString "SET_GLOBAL"), (.str (Str.ofString "SET_GLOBAL") 205), (.int 4 204)⟩, ⟨PyData.keyHash P (Str.ofString "DEFINE"), (.str (Str.ofString "DEFINE") 207), (.int 5 206)⟩, ⟨PyData.keyHash P (Str.ofString "IF"), (.str (Str.ofString "IF") 209), (.int 6 208)⟩, ⟨PyData.keyHash P (Str.ofString "LAMBDA"), (.str (Str.ofString "LAMBDA") 211), (.int 7 210)⟩, ⟨PyData.keyHash P (Str.ofString "CALL"), (.str (Str.ofString "CALL") 213), (.int 8 212)⟩, ⟨PyData.keyHash P (Str.ofString "SEQ"), (.str (Str.ofString "SEQ") 215), (.int 9 214)⟩, ⟨PyData.keyHash P (Str.ofString "PRIM"), (.str (Str.ofString "PRIM") 217), (.int 10 216)⟩, ⟨PyData.keyHash P (Str.ofString "FIX"), (.str (Str.ofString "FIX") 219), (.int 11 218)⟩, ⟨PyData.keyHash P (Str.ofString "Node"), (.str (Str.ofString "Node") 257), (.ref 45)⟩, ⟨PyData.keyHash P (Str.ofString "Const"), (.str (Str.ofString "Const") 283), (.ref 66)⟩, ⟨PyData.keyHash P (Str.ofString "Local"), (.str (Str.ofString "Local") 309), (.ref 85)⟩, ⟨PyData.keyHash P (Str.ofString "Global"), (.str (Str.ofString "Global") 335), (.ref 104)⟩, ⟨PyData.keyHash P (Str.ofString "SetLocal"), (.str (Str.ofString "SetLocal") 378), (.ref 137)⟩, ⟨PyData.keyHash P (Str.ofString "SetGlobal"), (.str (Str.ofString "SetGlobal") 421), (.ref 170)⟩, ⟨PyData.keyHash P (Str.ofString "Define"), (.str (Str.ofString "Define") 464), (.ref 203)⟩, ⟨PyData.keyHash P (Str.ofString "If"), (.str (Str.ofString "If") 509), (.ref 236)⟩, ⟨PyData.keyHash P (Str.ofString "Lambda"), (.str (Str.ofString "Lambda") 571), (.ref 283)⟩, ⟨PyData.keyHash P (Str.ofString "Call"), (.str (Str.ofString "Call") 614), (.ref 316)⟩, ⟨PyData.keyHash P (Str.ofString "Seq"), (.str (Str.ofString "Seq") 655), (.ref 349)⟩, ⟨PyData.keyHash P (Str.ofString "Prim"), (.str (Str.ofString "Prim") 698), (.ref 382)⟩, ⟨PyData.keyHash P (Str.ofString "Fix"), (.str (Str.ofString "Fix") 743), (.ref 415)⟩, ⟨PyData.keyHash P (Str.ofString "binders_of"), (.str (Str.ofString "binders_of") 750), (.ref 424)⟩, ⟨PyData.keyHash P (Str.ofString "CoreError"), (.str (Str.ofString "CoreError") 783), (.ref 441)⟩, ⟨PyData.keyHash P (Str.ofString "PRIM_ROWS"), (.str (Str.ofString "PRIM_ROWS") 1574), (.ref 637)⟩, ⟨PyData.keyHash P (Str.ofString "how_many"), (.str (Str.ofString "how_many") 1580), (.ref 644)⟩, ⟨PyData.keyHash P (Str.ofString "least_of"), (.str (Str.ofString "least_of") 1587), (.ref 651)⟩, ⟨PyData.keyHash P (Str.ofString "most_of"), (.str (Str.ofString "most_of") 1594), (.ref 658)⟩, ⟨PyData.keyHash P (Str.ofString "ENTER"), (.str (Str.ofString "ENTER") 1598), (.int 0 1597)⟩, ⟨PyData.keyHash P (Str.ofString "LEAVE"), (.str (Str.ofString "LEAVE") 1600), (.int 1 1599)⟩, ⟨PyData.keyHash P (Str.ofString "Check"), (.str (Str.ofString "Check") 1664), (.ref 703)⟩, ⟨PyData.keyHash P (Str.ofString "need_operands"), (.str (Str.ofString "need_operands") 1673), (.ref 714)⟩, ⟨PyData.keyHash P (Str.ofString "need_fix"), (.str (Str.ofString "need_fix") 1681), (.ref 721)⟩, ⟨PyData.keyHash P (Str.ofString "look_at"), (.str (Str.ofString "look_at") 1690), (.ref 728)⟩, ⟨PyData.keyHash P (Str.ofString "look_through"), (.str (Str.ofString "look_through") 1704), (.ref 735)⟩, ⟨PyData.keyHash P (Str.ofString "check_core"), (.str (Str.ofString "check_core") 1711), (.ref 742)⟩, ⟨PyData.keyHash P (Str.ofString "check_program"), (.str (Str.ofString "check_program") 1720), (.ref 749)⟩, ⟨PyData.keyHash P (Str.ofString "_law_draw"), (.str (Str.ofString "_law_draw") 1731), (.ref 756)⟩, ⟨PyData.keyHash P (Str.ofString "_law_deck_of"), (.str (Str.ofString "_law_deck_of") 1737), (.ref 761)⟩, ⟨PyData.keyHash P (Str.ofString "_law_one"), (.str (Str.ofString "_law_one") 1745), (.ref 768)⟩, ⟨PyData.keyHash P (Str.ofString "_law_new"), (.str (Str.ofString "_law_new") 1753), (.ref 775)⟩, ⟨PyData.keyHash P (Str.ofString "_law_bind"), (.str (Str.ofString "_law_bind") 1763), (.ref 782)⟩, ⟨PyData.keyHash P (Str.ofString "_law_lam"), (.str (Str.ofString "_law_lam") 1769), (.ref 787)⟩, ⟨PyData.keyHash P (Str.ofString "_law_fix"), (.str (Str.ofString "_law_fix") 1775), (.ref 792)⟩, ⟨PyData.keyHash P (Str.ofString "_law_node_of"), (.str (Str.ofString "_law_node_of") 1781), (.ref 797)⟩, ⟨PyData.keyHash P (Str.ofString "_law_is_prim"), (.str (Str.ofString "_law_is_prim") 1790), (.ref 804)⟩, ⟨PyData.keyHash P (Str.ofString "_law_once"), (.str (Str.ofString "_law_once") 1799), (.ref 811)⟩, ⟨PyData.keyHash P (Str.ofString "_law_is_fine"), (.str (Str.ofString "_law_is_fine") 1805), (.ref 816)⟩, ⟨PyData.keyHash P (Str.ofString "_law_is_let_through"), (.str (Str.ofString "_law_is_let_through") 1813), (.ref 823)⟩, ⟨PyData.keyHash P (Str.ofString "law"), (.str (Str.ofString "law") 1819), (.ref 828)⟩] 63), #[]⟩
noncomputable def ko9 (P : Params) : Obj := ⟨(.type "code"), none, (.fields #[(.str (Str.ofString "<module>") 176), (.str (Str.ofString "<module>") 177), (.str (Str.ofString "/claim/cut.py") 178), (.int 1 0), (.int 0 0), (.int 0 0), (.int 0 0), (.int 0 0), (.ref 7), (.bool false), (.int 175 0), (.ref 8), .none, .none, .none, .none, (.int 179 0), (.int 1 0), (.str (Str.ofString "/claim/cut.py") 180)]), #[]⟩
noncomputable def ko13 (P : Params) : Obj := ⟨(.type "code"), none, (.fields #[(.str (Str.ofString "<module>") 182), (.str (Str.ofString "<module>") 183), (.str (Str.ofString "/claim/cut.py") 184), (.int 1 0), (.int 0 0), (.int 0 0), (.int 0 0), (.int 0 0), (.ref 11), (.bool false), (.int 181 0), (.ref 12), .none, .none, .none, .none, (.int 185 0), (.int 1 0), (.str (Str.ofString "/claim/cut.py") 186)]), #[]⟩
noncomputable def ko20 (P : Params) : Obj := ⟨(.type "code"), none, (.fields #[(.str (Str.ofString "_wall") 187), (.str (Str.ofString "_wall") 188), (.str (Str.ofString "/claim/cut.py") 189), (.int 1 0), (.int 1 0), (.int 0 0), (.int 0 0), (.int 3 0), (.ref 15), (.bool true), (.int 181 0), (.ref 16), .none, (.ref 17), (.ref 18), (.ref 19), (.int 191 0), (.int 1 0), (.str (Str.ofString "/claim/cut.py") 192)]), #[]⟩
noncomputable def ko21 (P : Params) : Obj := ⟨(.type "function"), none, (.func ⟨(Str.ofString "_wall"), (Str.ofString "_wall"), fArgs (stAt 0), .stmts (fBody (stAt 0)), fScope (stAt 0), 3, [], .none, .none, .none, (.str (Str.ofString "__main__") 164), none, (.ref 20), .none, 0⟩), #[]⟩
noncomputable def ko24 (P : Params) : Obj := ⟨(.type "dict"), none, (.dict #[⟨PyData.keyHash P (Str.ofString "__module__"), (.str (Str.ofString "__module__") 227), (.str (Str.ofString "scheme.core") 194)⟩, ⟨PyData.keyHash P (Str.ofString "__qualname__"), (.str (Str.ofString "__qualname__") 229), (.str (Str.ofString "Node") 228)⟩, ⟨PyData.keyHash P (Str.ofString "__firstlineno__"), (.str (Str.ofString "__firstlineno__") 231), (.int 17 230)⟩, ⟨PyData.keyHash P (Str.ofString "kind"), (.str (Str.ofString "kind") 234), (.int (-1) 233)⟩, ⟨PyData.keyHash P (Str.ofString "parts"), (.str (Str.ofString "parts") 241), (.ref 35)⟩, ⟨PyData.keyHash P (Str.ofString "with_parts"), (.str (Str.ofString "with_parts") 249), (.ref 42)⟩, ⟨PyData.keyHash P (Str.ofString "__static_attributes__"), (.str (Str.ofString "__static_attributes__") 250), (.ref 43)⟩] 7), #[]⟩
noncomputable def ko27 (P : Params) : Obj := ⟨(.type "code"), none, (.fields #[(.str (Str.ofString "Node") 222), (.str (Str.ofString "Node") 223), (.str (Str.ofString "/claim/cut.py") 224), (.int 17 0), (.int 0 0), (.int 0 0), (.int 0 0), (.int 0 0), (.ref 25), (.bool false), (.int 181 0), (.ref 26), .none, .none, .none, .none, (.int 225 0), (.int 17 0), (.str (Str.ofString "/claim/cut.py") 226)]), #[]⟩
noncomputable def ko34 (P : Params) : Obj := ⟨(.type "code"), none, (.fields #[(.str (Str.ofString "parts") 235), (.str (Str.ofString "Node.parts") 236), (.str (Str.ofString "/claim/cut.py") 237), (.int 20 0), (.int 1 0), (.int 0 0), (.int 0 0), (.int 3 0), (.ref 29), (.bool true), (.int 181 0), (.ref 30), .none, (.ref 31), (.ref 32), (.ref 33), (.int 239 0), (.int 20 0), (.str (Str.ofString "/claim/cut.py") 240)]), #[]⟩
noncomputable def ko35 (P : Params) : Obj := ⟨(.type "function"), none, (.func ⟨(Str.ofString "parts"), (Str.ofString "Node.parts"), fArgs (inAt 14 1), .stmts (fBody (inAt 14 1)), fScope (inAt 14 1), 3, [], .none, .none, .none, (.str (Str.ofString "scheme.core") 194), none, (.ref 34), .none, 0⟩), #[]⟩
noncomputable def ko41 (P : Params) : Obj := ⟨(.type "code"), none, (.fields #[(.str (Str.ofString "with_parts") 242), (.str (Str.ofString "Node.with_parts") 243), (.str (Str.ofString "/claim/cut.py") 244), (.int 23 0), (.int 2 0), (.int 0 0), (.int 0 0), (.int 3 0), (.ref 36), (.bool true), (.int 181 0), (.ref 37), .none, (.ref 38), (.ref 39), (.ref 40), (.int 247 0), (.int 23 0), (.str (Str.ofString "/claim/cut.py") 248)]), #[]⟩
noncomputable def ko42 (P : Params) : Obj := ⟨(.type "function"), none, (.func ⟨(Str.ofString "with_parts"), (Str.ofString "Node.with_parts"), fArgs (inAt 14 2), .stmts (fBody (inAt 14 2)), fScope (inAt 14 2), 3, [], .none, .none, .none, (.str (Str.ofString "scheme.core") 194), none, (.ref 41), .none, 0⟩), #[]⟩
noncomputable def ko44 (P : Params) : Obj := ⟨(.type "dict"), none, (.dict #[⟨PyData.keyHash P (Str.ofString "__module__"), (.str (Str.ofString "__module__") 227), (.str (Str.ofString "scheme.core") 194)⟩, ⟨PyData.keyHash P (Str.ofString "__firstlineno__"), (.str (Str.ofString "__firstlineno__") 231), (.int 17 230)⟩, ⟨PyData.keyHash P (Str.ofString "kind"), (.str (Str.ofString "kind") 234), (.int (-1) 233)⟩, ⟨PyData.keyHash P (Str.ofString "parts"), (.str (Str.ofString "parts") 241), (.ref 35)⟩, ⟨PyData.keyHash P (Str.ofString "with_parts"), (.str (Str.ofString "with_parts") 249), (.ref 42)⟩, ⟨PyData.keyHash P (Str.ofString "__static_attributes__"), (.str (Str.ofString "__static_attributes__") 250), (.ref 43)⟩, ⟨PyData.keyHash P (Str.ofString "__dict__"), (.str (Str.ofString "__dict__") 252), (.ref 46)⟩, ⟨PyData.keyHash P (Str.ofString "__weakref__"), (.str (Str.ofString "__weakref__") 254), (.ref 47)⟩, ⟨PyData.keyHash P (Str.ofString "__doc__"), (.str (Str.ofString "__doc__") 255), .none⟩] 4), #[]⟩
noncomputable def ko45 (P : Params) : Obj := ⟨(.type "type"), none, (.cls ⟨(Str.ofString "Node"), [(.type "object")], [(.ref 45), (.type "object")], 44, (Str.ofString "Node"), true, [], [(.ref 66), (.ref 85), (.ref 104), (.ref 137), (.ref 170), (.ref 203), (.ref 236), (.ref 283), (.ref 316), (.ref 349), (.ref 382), (.ref 415)], false, none, false⟩), #[none, none, (some (.str (Str.ofString "Node") 220)), (some (.str (Str.ofString "Node") 228)), (some (.builtin "object.__new__")), (some (.bool true))]⟩
noncomputable def ko52 (P : Params) : Obj := ⟨(.type "dict"), none, (.dict #[⟨PyData.keyHash P (Str.ofString "__module__"), (.str (Str.ofString "__module__") 265), (.str (Str.ofString "scheme.core") 194)⟩, ⟨PyData.keyHash P (Str.ofString "__qualname__"), (.str (Str.ofString "__qualname__") 267), (.str (Str.ofString "Const") 266)⟩, ⟨PyData.keyHash P (Str.ofString "__firstlineno__"), (.str (Str.ofString "__firstlineno__") 269), (.int 25 268)⟩, ⟨PyData.keyHash P (Str.ofString "kind"), (.str (Str.ofString "kind") 270), (.int 0 196)⟩, ⟨PyData.keyHash P (Str.ofString "__init__"), (.str (Str.ofString "__init__") 278), (.ref 63)⟩, ⟨PyData.keyHash P (Str.ofString "__static_attributes__"), (.str (Str.ofString "__static_attributes__") 280), (.ref 64)⟩] 6), #[]⟩
noncomputable def ko55 (P : Params) : Obj := ⟨(.type "code"), none, (.fields #[(.str (Str.ofString "Const") 260), (.str (Str.ofString "Const") 261), (.str (Str.ofString "/claim/cut.py") 262), (.int 25 0), (.int 0 0), (.int 0 0), (.int 0 0), (.int 0 0), (.ref 53), (.bool false), (.int 181 0), (.ref 54), .none, .none, .none, .none, (.int 263 0), (.int 25 0), (.str (Str.ofString "/claim/cut.py") 264)]), #[]⟩
noncomputable def ko62 (P : Params) : Obj := ⟨(.type "code"), none, (.fields #[(.str (Str.ofString "__init__") 271), (.str (Str.ofString "Const.__init__") 272), (.str (Str.ofString "/claim/cut.py") 273), (.int 28 0), (.int 2 0), (.int 0 0), (.int 0 0), (.int 3 0), (.ref 57), (.bool true), (.int 181 0), (.ref 58), .none, (.ref 59), (.ref 60), (.ref 61), (.int 276 0), (.int 28 0), (.str (Str.ofString "/claim/cut.py") 277)]), #[]⟩
noncomputable def ko63 (P : Params) : Obj := ⟨(.type "function"), none, (.func ⟨(Str.ofString "__init__"), (Str.ofString "Const.__init__"), fArgs (inAt 15 1), .stmts (fBody (inAt 15 1)), fScope (inAt 15 1), 3, [], .none, .none, .none, (.str (Str.ofString "scheme.core") 194), none, (.ref 62), .none, 0⟩), #[]⟩
noncomputable def ko65 (P : Params) : Obj := ⟨(.type "dict"), none, (.dict #[⟨PyData.keyHash P (Str.ofString "__module__"), (.str (Str.ofString "__module__") 265), (.str (Str.ofString "scheme.core") 194)⟩, ⟨PyData.keyHash P (Str.ofString "__firstlineno__"), (.str (Str.ofString "__firstlineno__") 269), (.int 25 268)⟩, ⟨PyData.keyHash P (Str.ofString "kind"), (.str (Str.ofString "kind") 270), (.int 0 196)⟩, ⟨PyData.keyHash P (Str.ofString "__init__"), (.str (Str.ofString "__init__") 278), (.ref 63)⟩, ⟨PyData.keyHash P (Str.ofString "__static_attributes__"), (.str (Str.ofString "__static_attributes__") 280), (.ref 64)⟩, ⟨PyData.keyHash P (Str.ofString "__doc__"), (.str (Str.ofString "__doc__") 281), .none⟩] 2), #[]⟩
noncomputable def ko66 (P : Params) : Obj := ⟨(.type "type"), none, (.cls ⟨(Str.ofString "Const"), [(.ref 45)], [(.ref 66), (.ref 45), (.type "object")], 65, (Str.ofString "Const"), true, [], [], false, none, false⟩), #[(some (.ref 50)), none, (some (.str (Str.ofString "Const") 258)), (some (.str (Str.ofString "Const") 266)), (some (.builtin "object.__new__")), (some (.bool true))]⟩
noncomputable def ko71 (P : Params) : Obj := ⟨(.type "dict"), none, (.dict #[⟨PyData.keyHash P (Str.ofString "__module__"), (.str (Str.ofString "__module__") 291), (.str (Str.ofString "scheme.core") 194)⟩, ⟨PyData.keyHash P (Str.ofString "__qualname__"), (.str (Str.ofString "__qualname__") 293), (.str (Str.ofString "Local") 292)⟩, ⟨PyData.keyHash P (Str.ofString "__firstlineno__"), (.str (Str.ofString "__firstlineno__") 295), (.int 30 294)⟩, ⟨PyData.keyHash P (Str.ofString "kind"), (.str (Str.ofString "kind") 296), (.int 1 198)⟩, ⟨PyData.keyHash P (Str.ofString "__init__"), (.str (Str.ofString "__init__") 304), (.ref 82)⟩, ⟨PyData.keyHash P (Str.ofString "__static_attributes__"), (.str (Str.ofString "__static_attributes__") 306), (.ref 83)⟩] 6), #[]⟩
noncomputable def ko74 (P : Params) : Obj := ⟨(.type "code"), none, (.fields #[(.str (Str.ofString "Local") 286), (.str (Str.ofString "Local") 287), (.str (Str.ofString "/claim/cut.py") 288), (.int 30 0), (.int 0 0), (.int 0 0), (.int 0 0), (.int 0 0), (.ref 72), (.bool false), (.int 181 0), (.ref 73), .none, .none, .none, .none, (.int 289 0), (.int 30 0), (.str (Str.ofString "/claim/cut.py") 290)]), #[]⟩
noncomputable def ko81 (P : Params) : Obj := ⟨(.type "code"), none, (.fields #[(.str (Str.ofString "__init__") 297), (.str (Str.ofString "Local.__init__") 298), (.str (Str.ofString "/claim/cut.py") 299), (.int 33 0), (.int 2 0), (.int 0 0), (.int 0 0), (.int 3 0), (.ref 76), (.bool true), (.int 181 0), (.ref 77), .none, (.ref 78), (.ref 79), (.ref 80), (.int 302 0), (.int 33 0), (.str (Str.ofString "/claim/cut.py") 303)]), #[]⟩
noncomputable def ko82 (P : Params) : Obj := ⟨(.type "function"), none, (.func ⟨(Str.ofString "__init__"), (Str.ofString "Local.__init__"), fArgs (inAt 16 1), .stmts (fBody (inAt 16 1)), fScope (inAt 16 1), 3, [], .none, .none, .none, (.str (Str.ofString "scheme.core") 194), none, (.ref 81), .none, 0⟩), #[]⟩
noncomputable def ko84 (P : Params) : Obj := ⟨(.type "dict"), none, (.dict #[⟨PyData.keyHash P (Str.ofString "__module__"), (.str (Str.ofString "__module__") 291), (.str (Str.ofString "scheme.core") 194)⟩, ⟨PyData.keyHash P (Str.ofString "__firstlineno__"), (.str (Str.ofString "__firstlineno__") 295), (.int 30 294)⟩, ⟨PyData.keyHash P (Str.ofString "kind"), (.str (Str.ofString "kind") 296), (.int 1 198)⟩, ⟨PyData.keyHash P (Str.ofString "__init__"), (.str (Str.ofString "__init__") 304), (.ref 82)⟩, ⟨PyData.keyHash P (Str.ofString "__static_attributes__"), (.str (Str.ofString "__static_attributes__") 306), (.ref 83)⟩, ⟨PyData.keyHash P (Str.ofString "__doc__"), (.str (Str.ofString "__doc__") 307), .none⟩] 2), #[]⟩
noncomputable def ko85 (P : Params) : Obj := ⟨(.type "type"), none, (.cls ⟨(Str.ofString "Local"), [(.ref 45)], [(.ref 85), (.ref 45), (.type "object")], 84, (Str.ofString "Local"), true, [], [], false, none, false⟩), #[(some (.ref 69)), none, (some (.str (Str.ofString "Local") 284)), (some (.str (Str.ofString "Local") 292)), (some (.builtin "object.__new__")), (some (.bool true))]⟩
noncomputable def ko90 (P : Params) : Obj := ⟨(.type "dict"), none, (.dict #[⟨PyData.keyHash P (Str.ofString "__module__"), (.str (Str.ofString "__module__") 317), (.str (Str.ofString "scheme.core") 194)⟩, ⟨PyData.keyHash P (Str.ofString "__qualname__"), (.str (Str.ofString "__qualname__") 319), (.str (Str.ofString "Global") 318)⟩, ⟨PyData.keyHash P (Str.ofString "__firstlineno__"), (.str (Str.ofString "__firstlineno__") 321), (.int 35 320)⟩, ⟨PyData.keyHash P (Str.ofString "kind"), (.str (Str.ofString "kind") 322), (.int 2 200)⟩, ⟨PyData.keyHash P (Str.ofString "__init__"), (.str (Str.ofString "__init__") 330), (.ref 101)⟩, ⟨PyData.keyHash P (Str.ofString "__static_attributes__"), (.str (Str.ofString "__static_attributes__") 332), (.ref 102)⟩] 6), #[]⟩
noncomputable def ko93 (P : Params) : Obj := ⟨(.type "code"), none, (.fields #[(.str (Str.ofString "Global") 312), (.str (Str.ofString "Global") 313), (.str (Str.ofString "/claim/cut.py") 314), (.int 35 0), (.int 0 0), (.int 0 0), (.int 0 0), (.int 0 0), (.ref 91), (.bool false), (.int 181 0), (.ref 92), .none, .none, .none, .none, (.int 315 0), (.int 35 0), (.str (Str.ofString "/claim/cut.py") 316)]), #[]⟩
noncomputable def ko100 (P : Params) : Obj := ⟨(.type "code"), none, (.fields #[(.str (Str.ofString "__init__") 323), (.str (Str.ofString "Global.__init__") 324), (.str (Str.ofString "/claim/cut.py") 325), (.int 38 0), (.int 2 0), (.int 0 0), (.int 0 0), (.int 3 0), (.ref 95), (.bool true), (.int 181 0), (.ref 96), .none, (.ref 97), (.ref 98), (.ref 99), (.int 328 0), (.int 38 0), (.str (Str.ofString "/claim/cut.py") 329)]), #[]⟩
noncomputable def ko101 (P : Params) : Obj := ⟨(.type "function"), none, (.func ⟨(Str.ofString "__init__"), (Str.ofString "Global.__init__"), fArgs (inAt 17 1), .stmts (fBody (inAt 17 1)), fScope (inAt 17 1), 3, [], .none, .none, .none, (.str (Str.ofString "scheme.core") 194), none, (.ref 100), .none, 0⟩), #[]⟩
noncomputable def ko103 (P : Params) : Obj := ⟨(.type "dict"), none, (.dict #[⟨PyData.keyHash P (Str.ofString "__module__"), (.str (Str.ofString "__module__") 317), (.str (Str.ofString "scheme.core") 194)⟩, ⟨PyData.keyHash P (Str.ofString "__firstlineno__"), (.str (Str.ofString "__firstlineno__") 321), (.int 35 320)⟩, ⟨PyData.keyHash P (Str.ofString "kind"), (.str (Str.ofString "kind") 322), (.int 2 200)⟩, ⟨PyData.keyHash P (Str.ofString "__init__"), (.str (Str.ofString "__init__") 330), (.ref 101)⟩, ⟨PyData.keyHash P (Str.ofString "__static_attributes__"), (.str (Str.ofString "__static_attributes__") 332), (.ref 102)⟩, ⟨PyData.keyHash P (Str.ofString "__doc__"), (.str (Str.ofString "__doc__") 333), .none⟩] 2), #[]⟩
noncomputable def ko104 (P : Params) : Obj := ⟨(.type "type"), none, (.cls ⟨(Str.ofString "Global"), [(.ref 45)], [(.ref 104), (.ref 45), (.type "object")], 103, (Str.ofString "Global"), true, [], [], false, none, false⟩), #[(some (.ref 88)), none, (some (.str (Str.ofString "Global") 310)), (some (.str (Str.ofString "Global") 318)), (some (.builtin "object.__new__")), (some (.bool true))]⟩
noncomputable def ko109 (P : Params) : Obj := ⟨(.type "dict"), none, (.dict #[⟨PyData.keyHash P (Str.ofString "__module__"), (.str (Str.ofString "__module__") 343), (.str (Str.ofString "scheme.core") 194)⟩, ⟨PyData.keyHash P (Str.ofString "__qualname__"), (.str (Str.ofString "__qualname__") 345), (.str (Str.ofString "SetLocal") 344)⟩, ⟨PyData.keyHash P (Str.ofString "__firstlineno__"), (.str (Str.ofString "__firstlineno__") 347), (.int 40 346)⟩, ⟨PyData.keyHash P (Str.ofString "kind"), (.str (Str.ofString "kind") 348), (.int 3 202)⟩, ⟨PyData.keyHash P (Str.ofString "__init__"), (.str (Str.ofString "__init__") 357), (.ref 120)⟩, ⟨PyData.keyHash P (Str.ofString "parts"), (.str (Str.ofString "parts") 364), (.ref 127)⟩, ⟨PyData.keyHash P (Str.ofString "with_parts"), (.str (Str.ofString "with_parts") 372), (.ref 134)⟩, ⟨PyData.keyHash P (Str.ofString "__static_attributes__"), (.str (Str.ofString "__static_attributes__") 375), (.ref 135)⟩] 8), #[]⟩
noncomputable def ko112 (P : Params) : Obj := ⟨(.type "code"), none, (.fields #[(.str (Str.ofString "SetLocal") 338), (.str (Str.ofString "SetLocal") 339), (.str (Str.ofString "/claim/cut.py") 340), (.int 40 0), (.int 0 0), (.int 0 0), (.int 0 0), (.int 0 0), (.ref 110), (.bool false), (.int 181 0), (.ref 111), .none, .none, .none, .none, (.int 341 0), (.int 40 0), (.str (Str.ofString "/claim/cut.py") 342)]), #[]⟩
noncomputable def ko119 (P : Params) : Obj := ⟨(.type "code"), none, (.fields #[(.str (Str.ofString "__init__") 349), (.str (Str.ofString "SetLocal.__init__") 350), (.str (Str.ofString "/claim/cut.py") 351), (.int 43 0), (.int 3 0), (.int 0 0), (.int 0 0), (.int 3 0), (.ref 114), (.bool true), (.int 181 0), (.ref 115), .none, (.ref 116), (.ref 117), (.ref 118), (.int 355 0), (.int 43 0), (.str (Str.ofString "/claim/cut.py") 356)]), #[]⟩
noncomputable def ko120 (P : Params) : Obj := ⟨(.type "function"), none, (.func ⟨(Str.ofString "__init__"), (Str.ofString "SetLocal.__init__"), fArgs (inAt 18 1), .stmts (fBody (inAt 18 1)), fScope (inAt 18 1), 3, [], .none, .none, .none, (.str (Str.ofString "scheme.core") 194), none, (.ref 119), .none, 0⟩), #[]⟩
noncomputable def ko126 (P : Params) : Obj := ⟨(.type "code"), none, (.fields #[(.str (Str.ofString "parts") 358), (.str (Str.ofString "SetLocal.parts") 359), (.str (Str.ofString "/claim/cut.py") 360), (.int 47 0), (.int 1 0), (.int 0 0), (.int 0 0), (.int 3 0), (.ref 121), (.bool true), (.int 181 0), (.ref 122), .none, (.ref 123), (.ref 124), (.ref 125), (.int 362 0), (.int 47 0), (.str (Str.ofString "/claim/cut.py") 363)]), #[]⟩
noncomputable def ko127 (P : Params) : Obj := ⟨(.type "function"), none, (.func ⟨(Str.ofString "parts"), (Str.ofString "SetLocal.parts"), fArgs (inAt 18 2), .stmts (fBody (inAt 18 2)), fScope (inAt 18 2), 3, [], .none, .none, .none, (.str (Str.ofString "scheme.core") 194), none, (.ref 126), .none, 0⟩), #[]⟩
noncomputable def ko133 (P : Params) : Obj := ⟨(.type "code"), none, (.fields #[(.str (Str.ofString "with_parts") 365), (.str (Str.ofString "SetLocal.with_parts") 366), (.str (Str.ofString "/claim/cut.py") 367), (.int 50 0), (.int 2 0), (.int 0 0), (.int 0 0), (.int 3 0), (.ref 128), (.bool true), (.int 181 0), (.ref 129), .none, (.ref 130), (.ref 131), (.ref 132), (.int 370 0), (.int 50 0), (.str (Str.ofString "/claim/cut.py") 371)]), #[]⟩
noncomputable def ko134 (P : Params) : Obj := ⟨(.type "function"), none, (.func ⟨(Str.ofString "with_parts"), (Str.ofString "SetLocal.with_parts"), fArgs (inAt 18 3), .stmts (fBody (inAt 18 3)), fScope (inAt 18 3), 3, [], .none, .none, .none, (.str (Str.ofString "scheme.core") 194), none, (.ref 133), .none, 0⟩), #[]⟩
noncomputable def ko136 (P : Params) : Obj := ⟨(.type "dict"), none, (.dict #[⟨PyData.keyHash P (Str.ofString "__module__"), (.str (Str.ofString "__module__") 343), (.str (Str.ofString "scheme.core") 194)⟩, ⟨PyData.keyHash P (Str.ofString "__firstlineno__"), (.str (Str.ofString "__firstlineno__") 347), (.int 40 346)⟩, ⟨PyData.keyHash P (Str.ofString "kind"), (.str (Str.ofString "kind") 348), (.int 3 202)⟩, ⟨PyData.keyHash P (Str.ofString "__init__"), (.str (Str.ofString "__init__") 357), (.ref 120)⟩, ⟨PyData.keyHash P (Str.ofString "parts"), (.str (Str.ofString "parts") 364), (.ref 127)⟩, ⟨PyData.keyHash P (Str.ofString "with_parts"), (.str (Str.ofString "with_parts") 372), (.ref 134)⟩, ⟨PyData.keyHash P (Str.ofString "__static_attributes__"), (.str (Str.ofString "__static_attributes__") 375), (.ref 135)⟩, ⟨PyData.keyHash P (Str.ofString "__doc__"), (.str (Str.ofString "__doc__") 376), .none⟩] 2), #[]⟩
noncomputable def ko137 (P : Params) : Obj := ⟨(.type "type"), none, (.cls ⟨(Str.ofString "SetLocal"), [(.ref 45)], [(.ref 137), (.ref 45), (.type "object")], 136, (Str.ofString "SetLocal"), true, [], [], false, none, false⟩), #[(some (.ref 107)), none, (some (.str (Str.ofString "SetLocal") 336)), (some (.str (Str.ofString "SetLocal") 344)), (some (.builtin "object.__new__")), (some (.bool true))]⟩
noncomputable def ko142 (P : Params) : Obj := ⟨(.type "dict"), none, (.dict #[⟨PyData.keyHash P (Str.ofString "__module__"), (.str (Str.ofString "__module__") 386), (.str (Str.ofString "scheme.core") 194)⟩, ⟨PyData.keyHash P (Str.ofString "__qualname__"), (.str (Str.ofString "__qualname__") 388), (.str (Str.ofString "SetGlobal") 387)⟩, ⟨PyData.keyHash P (Str.ofString "__firstlineno__"), (.str (Str.ofString "__firstlineno__") 390), (.int 52 389)⟩, ⟨PyData.keyHash P (Str.ofString "kind"), (.str (Str.ofString "kind") 391), (.int 4 204)⟩, ⟨PyData.keyHash P (Str.ofString "__init__"), (.str (Str.ofString "__init__") 400), (.ref 153)⟩, ⟨PyData.keyHash P (Str.ofString "parts"), (.str (Str.ofString "parts") 407), (.ref 160)⟩, ⟨PyData.keyHash P (Str.ofString "with_parts"), (.str (Str.ofString "with_parts") 415), (.ref 167)⟩, ⟨PyData.keyHash P (Str.ofString "__static_attributes__"), (.str (Str.ofString "__static_attributes__") 418), (.ref 168)⟩] 8), #[]⟩
noncomputable def ko145 (P : Params) : Obj := ⟨(.type "code"), none, (.fields #[(.str (Str.ofString "SetGlobal") 381), (.str (Str.ofString "SetGlobal") 382), (.str (Str.ofString "/claim/cut.py") 383), (.int 52 0), (.int 0 0), (.int 0 0), (.int 0 0), (.int 0 0), (.ref 143), (.bool false), (.int 181 0), (.ref 144), .none, .none, .none, .none, (.int 384 0), (.int 52 0), (.str (Str.ofString "/claim/cut.py") 385)]), #[]⟩
noncomputable def ko152 (P : Params) : Obj := ⟨(.type "code"), none, (.fields #[(.str (Str.ofString "__init__") 392), (.str (Str.ofString "SetGlobal.__init__") 393), (.str (Str.ofString "/claim/cut.py") 394), (.int 55 0), (.int 3 0), (.int 0 0), (.int 0 0), (.int 3 0), (.ref 147), (.bool true), (.int 181 0), (.ref 148), .none, (.ref 149), (.ref 150), (.ref 151), (.int 398 0), (.int 55 0), (.str (Str.ofString "/claim/cut.py") 399)]), #[]⟩
noncomputable def ko153 (P : Params) : Obj := ⟨(.type "function"), none, (.func ⟨(Str.ofString "__init__"), (Str.ofString "SetGlobal.__init__"), fArgs (inAt 19 1), .stmts (fBody (inAt 19 1)), fScope (inAt 19 1), 3, [], .none, .none, .none, (.str (Str.ofString "scheme.core") 194), none, (.ref 152), .none, 0⟩), #[]⟩
noncomputable def ko159 (P : Params) : Obj := ⟨(.type "code"), none, (.fields #[(.str (Str.ofString "parts") 401), (.str (Str.ofString "SetGlobal.parts") 402), (.str (Str.ofString "/claim/cut.py") 403), (.int 59 0), (.int 1 0), (.int 0 0), (.int 0 0), (.int 3 0), (.ref 154), (.bool true), (.int 181 0), (.ref 155), .none, (.ref 156), (.ref 157), (.ref 158), (.int 405 0), (.int 59 0), (.str (Str.ofString "/claim/cut.py") 406)]), #[]⟩
noncomputable def ko160 (P : Params) : Obj := ⟨(.type "function"), none, (.func ⟨(Str.ofString "parts"), (Str.ofString "SetGlobal.parts"), fArgs (inAt 19 2), .stmts (fBody (inAt 19 2)), fScope (inAt 19 2), 3, [], .none, .none, .none, (.str (Str.ofString "scheme.core") 194), none, (.ref 159), .none, 0⟩), #[]⟩
noncomputable def ko166 (P : Params) : Obj := ⟨(.type "code"), none, (.fields #[(.str (Str.ofString "with_parts") 408), (.str (Str.ofString "SetGlobal.with_parts") 409), (.str (Str.ofString "/claim/cut.py") 410), (.int 62 0), (.int 2 0), (.int 0 0), (.int 0 0), (.int 3 0), (.ref 161), (.bool true), (.int 181 0), (.ref 162), .none, (.ref 163), (.ref 164), (.ref 165), (.int 413 0), (.int 62 0), (.str (Str.ofString "/claim/cut.py") 414)]), #[]⟩
noncomputable def ko167 (P : Params) : Obj := ⟨(.type "function"), none, (.func ⟨(Str.ofString "with_parts"), (Str.ofString "SetGlobal.with_parts"), fArgs (inAt 19 3), .stmts (fBody (inAt 19 3)), fScope (inAt 19 3), 3, [], .none, .none, .none, (.str (Str.ofString "scheme.core") 194), none, (.ref 166), .none, 0⟩), #[]⟩
noncomputable def ko169 (P : Params) : Obj := ⟨(.type "dict"), none, (.dict #[⟨PyData.keyHash P (Str.ofString "__module__"), (.str (Str.ofString "__module__") 386), (.str (Str.ofString "scheme.core") 194)⟩, ⟨PyData.keyHash P (Str.ofString "__firstlineno__"), (.str (Str.ofString "__firstlineno__") 390), (.int 52 389)⟩, ⟨PyData.keyHash P (Str.ofString "kind"), (.str (Str.ofString "kind") 391), (.int 4 204)⟩, ⟨PyData.keyHash P (Str.ofString "__init__"), (.str (Str.ofString "__init__") 400), (.ref 153)⟩, ⟨PyData.keyHash P (Str.ofString "parts"), (.str (Str.ofString "parts") 407), (.ref 160)⟩, ⟨PyData.keyHash P (Str.ofString "with_parts"), (.str (Str.ofString "with_parts") 415), (.ref 167)⟩, ⟨PyData.keyHash P (Str.ofString "__static_attributes__"), (.str (Str.ofString "__static_attributes__") 418), (.ref 168)⟩, ⟨PyData.keyHash P (Str.ofString "__doc__"), (.str (Str.ofString "__doc__") 419), .none⟩] 2), #[]⟩
noncomputable def ko170 (P : Params) : Obj := ⟨(.type "type"), none, (.cls ⟨(Str.ofString "SetGlobal"), [(.ref 45)], [(.ref 170), (.ref 45), (.type "object")], 169, (Str.ofString "SetGlobal"), true, [], [], false, none, false⟩), #[(some (.ref 140)), none, (some (.str (Str.ofString "SetGlobal") 379)), (some (.str (Str.ofString "SetGlobal") 387)), (some (.builtin "object.__new__")), (some (.bool true))]⟩
noncomputable def ko175 (P : Params) : Obj := ⟨(.type "dict"), none, (.dict #[⟨PyData.keyHash P (Str.ofString "__module__"), (.str (Str.ofString "__module__") 429), (.str (Str.ofString "scheme.core") 194)⟩, ⟨PyData.keyHash P (Str.ofString "__qualname__"), (.str (Str.ofString "__qualname__") 431), (.str (Str.ofString "Define") 430)⟩, ⟨PyData.keyHash P (Str.ofString "__firstlineno__"), (.str (Str.ofString "__firstlineno__") 433), (.int 64 432)⟩, ⟨PyData.keyHash P (Str.ofString "kind"), (.str (Str.ofString "kind") 434), (.int 5 206)⟩, ⟨PyData.keyHash P (Str.ofString "__init__"), (.str (Str.ofString "__init__") 443), (.ref 186)⟩, ⟨PyData.keyHash P (Str.ofString "parts"), (.str (Str.ofString "parts") 450), (.ref 193)⟩, ⟨PyData.keyHash P (Str.ofString "with_parts"), (.str (Str.ofString "with_parts") 458), (.ref 200)⟩, ⟨PyData.keyHash P (Str.ofString "__static_attributes__"), (.str (Str.ofString "__static_attributes__") 461), (.ref 201)⟩] 8), #[]⟩
noncomputable def ko178 (P : Params) : Obj := ⟨(.type "code"), none, (.fields #[(.str (Str.ofString "Define") 424), (.str (Str.ofString "Define") 425), (.str (Str.ofString "/claim/cut.py") 426), (.int 64 0), (.int 0 0), (.int 0 0), (.int 0 0), (.int 0 0), (.ref 176), (.bool false), (.int 181 0), (.ref 177), .none, .none, .none, .none, (.int 427 0), (.int 64 0), (.str (Str.ofString "/claim/cut.py") 428)]), #[]⟩
noncomputable def ko185 (P : Params) : Obj := ⟨(.type "code"), none, (.fields #[(.str (Str.ofString "__init__") 435), (.str (Str.ofString "Define.__init__") 436), (.str (Str.ofString "/claim/cut.py") 437), (.int 67 0), (.int 3 0), (.int 0 0), (.int 0 0), (.int 3 0), (.ref 180), (.bool true), (.int 181 0), (.ref 181), .none, (.ref 182), (.ref 183), (.ref 184), (.int 441 0), (.int 67 0), (.str (Str.ofString "/claim/cut.py") 442)]), #[]⟩
noncomputable def ko186 (P : Params) : Obj := ⟨(.type "function"), none, (.func ⟨(Str.ofString "__init__"), (Str.ofString "Define.__init__"), fArgs (inAt 20 1), .stmts (fBody (inAt 20 1)), fScope (inAt 20 1), 3, [], .none, .none, .none, (.str (Str.ofString "scheme.core") 194), none, (.ref 185), .none, 0⟩), #[]⟩
noncomputable def ko192 (P : Params) : Obj := ⟨(.type "code"), none, (.fields #[(.str (Str.ofString "parts") 444), (.str (Str.ofString "Define.parts") 445), (.str (Str.ofString "/claim/cut.py") 446), (.int 71 0), (.int 1 0), (.int 0 0), (.int 0 0), (.int 3 0), (.ref 187), (.bool true), (.int 181 0), (.ref 188), .none, (.ref 189), (.ref 190), (.ref 191), (.int 448 0), (.int 71 0), (.str (Str.ofString "/claim/cut.py") 449)]), #[]⟩
noncomputable def ko193 (P : Params) : Obj := ⟨(.type "function"), none, (.func ⟨(Str.ofString "parts"), (Str.ofString "Define.parts"), fArgs (inAt 20 2), .stmts (fBody (inAt 20 2)), fScope (inAt 20 2), 3, [], .none, .none, .none, (.str (Str.ofString "scheme.core") 194), none, (.ref 192), .none, 0⟩), #[]⟩
noncomputable def ko199 (P : Params) : Obj := ⟨(.type "code"), none, (.fields #[(.str (Str.ofString "with_parts") 451), (.str (Str.ofString "Define.with_parts") 452), (.str (Str.ofString "/claim/cut.py") 453), (.int 74 0), (.int 2 0), (.int 0 0), (.int 0 0), (.int 3 0), (.ref 194), (.bool true), (.int 181 0), (.ref 195), .none, (.ref 196), (.ref 197), (.ref 198), (.int 456 0), (.int 74 0), (.str (Str.ofString "/claim/cut.py") 457)]), #[]⟩
noncomputable def ko200 (P : Params) : Obj := ⟨(.type "function"), none, (.func ⟨(Str.ofString "with_parts"), (Str.ofString "Define.with_parts"), fArgs (inAt 20 3), .stmts (fBody (inAt 20 3)), fScope (inAt 20 3), 3, [], .none, .none, .none, (.str (Str.ofString "scheme.core") 194), none, (.ref 199), .none, 0⟩), #[]⟩
noncomputable def ko202 (P : Params) : Obj := ⟨(.type "dict"), none, (.dict #[⟨PyData.keyHash P (Str.ofString "__module__"), (.str (Str.ofString "__module__") 429), (.str (Str.ofString "scheme.core") 194)⟩, ⟨PyData.keyHash P (Str.ofString "__firstlineno__"), (.str (Str.ofString "__firstlineno__") 433), (.int 64 432)⟩, ⟨PyData.keyHash P (Str.ofString "kind"), (.str (Str.ofString "kind") 434), (.int 5 206)⟩, ⟨PyData.keyHash P (Str.ofString "__init__"), (.str (Str.ofString "__init__") 443), (.ref 186)⟩, ⟨PyData.keyHash P (Str.ofString "parts"), (.str (Str.ofString "parts") 450), (.ref 193)⟩, ⟨PyData.keyHash P (Str.ofString "with_parts"), (.str (Str.ofString "with_parts") 458), (.ref 200)⟩, ⟨PyData.keyHash P (Str.ofString "__static_attributes__"), (.str (Str.ofString "__static_attributes__") 461), (.ref 201)⟩, ⟨PyData.keyHash P (Str.ofString "__doc__"), (.str (Str.ofString "__doc__") 462), .none⟩] 2), #[]⟩
noncomputable def ko203 (P : Params) : Obj := ⟨(.type "type"), none, (.cls ⟨(Str.ofString "Define"), [(.ref 45)], [(.ref 203), (.ref 45), (.type "object")], 202, (Str.ofString "Define"), true, [], [], false, none, false⟩), #[(some (.ref 173)), none, (some (.str (Str.ofString "Define") 422)), (some (.str (Str.ofString "Define") 430)), (some (.builtin "object.__new__")), (some (.bool true))]⟩
noncomputable def ko208 (P : Params) : Obj := ⟨(.type "dict"), none, (.dict #[⟨PyData.keyHash P (Str.ofString "__module__"), (.str (Str.ofString "__module__") 472), (.str (Str.ofString "scheme.core") 194)⟩, ⟨PyData.keyHash P (Str.ofString "__qualname__"), (.str (Str.ofString "__qualname__") 474), (.str (Str.ofString "If") 473)⟩, ⟨PyData.keyHash P (Str.ofString "__firstlineno__"), (.str (Str.ofString "__firstlineno__") 476), (.int 76 475)⟩, ⟨PyData.keyHash P (Str.ofString "kind"), (.str (Str.ofString "kind") 477), (.int 6 208)⟩, ⟨PyData.keyHash P (Str.ofString "__init__"), (.str (Str.ofString "__init__") 487), (.ref 219)⟩, ⟨PyData.keyHash P (Str.ofString "parts"), (.str (Str.ofString "parts") 494), (.ref 226)⟩, ⟨PyData.keyHash P (Str.ofString "with_parts"), (.str (Str.ofString "with_parts") 502), (.ref 233)⟩, ⟨PyData.keyHash P (Str.ofString "__static_attributes__"), (.str (Str.ofString "__static_attributes__") 506), (.ref 234)⟩] 8), #[]⟩
noncomputable def ko211 (P : Params) : Obj := ⟨(.type "code"), none, (.fields #[(.str (Str.ofString "If") 467), (.str (Str.ofString "If") 468), (.str (Str.ofString "/claim/cut.py") 469), (.int 76 0), (.int 0 0), (.int 0 0), (.int 0 0), (.int 0 0), (.ref 209), (.bool false), (.int 181 0), (.ref 210), .none, .none, .none, .none, (.int 470 0), (.int 76 0), (.str (Str.ofString "/claim/cut.py") 471)]), #[]⟩
noncomputable def ko218 (P : Params) : Obj := ⟨(.type "code"), none, (.fields #[(.str (Str.ofString "__init__") 478), (.str (Str.ofString "If.__init__") 479), (.str (Str.ofString "/claim/cut.py") 480), (.int 79 0), (.int 4 0), (.int 0 0), (.int 0 0), (.int 3 0), (.ref 213), (.bool true), (.int 181 0), (.ref 214), .none, (.ref 215), (.ref 216), (.ref 217), (.int 485 0), (.int 79 0), (.str (Str.ofString "/claim/cut.py") 486)]), #[]⟩
noncomputable def ko219 (P : Params) : Obj := ⟨(.type "function"), none, (.func ⟨(Str.ofString "__init__"), (Str.ofString "If.__init__"), fArgs (inAt 21 1), .stmts (fBody (inAt 21 1)), fScope (inAt 21 1), 3, [], .none, .none, .none, (.str (Str.ofString "scheme.core") 194), none, (.ref 218), .none, 0⟩), #[]⟩
noncomputable def ko225 (P : Params) : Obj := ⟨(.type "code"), none, (.fields #[(.str (Str.ofString "parts") 488), (.str (Str.ofString "If.parts") 489), (.str (Str.ofString "/claim/cut.py") 490), (.int 84 0), (.int 1 0), (.int 0 0), (.int 0 0), (.int 3 0), (.ref 220), (.bool true), (.int 181 0), (.ref 221), .none, (.ref 222), (.ref 223), (.ref 224), (.int 492 0), (.int 84 0), (.str (Str.ofString "/claim/cut.py") 493)]), #[]⟩
noncomputable def ko226 (P : Params) : Obj := ⟨(.type "function"), none, (.func ⟨(Str.ofString "parts"), (Str.ofString "If.parts"), fArgs (inAt 21 2), .stmts (fBody (inAt 21 2)), fScope (inAt 21 2), 3, [], .none, .none, .none, (.str (Str.ofString "scheme.core") 194), none, (.ref 225), .none, 0⟩), #[]⟩
noncomputable def ko232 (P : Params) : Obj := ⟨(.type "code"), none, (.fields #[(.str (Str.ofString "with_parts") 495), (.str (Str.ofString "If.with_parts") 496), (.str (Str.ofString "/claim/cut.py") 497), (.int 87 0), (.int 2 0), (.int 0 0), (.int 0 0), (.int 3 0), (.ref 227), (.bool true), (.int 181 0), (.ref 228), .none, (.ref 229), (.ref 230), (.ref 231), (.int 500 0), (.int 87 0), (.str (Str.ofString "/claim/cut.py") 501)]), #[]⟩
noncomputable def ko233 (P : Params) : Obj := ⟨(.type "function"), none, (.func ⟨(Str.ofString "with_parts"), (Str.ofString "If.with_parts"), fArgs (inAt 21 3), .stmts (fBody (inAt 21 3)), fScope (inAt 21 3), 3, [], .none, .none, .none, (.str (Str.ofString "scheme.core") 194), none, (.ref 232), .none, 0⟩), #[]⟩
noncomputable def ko235 (P : Params) : Obj := ⟨(.type "dict"), none, (.dict #[⟨PyData.keyHash P (Str.ofString "__module__"), (.str (Str.ofString "__module__") 472), (.str (Str.ofString "scheme.core") 194)⟩, ⟨PyData.keyHash P (Str.ofString "__firstlineno__"), (.str (Str.ofString "__firstlineno__") 476), (.int 76 475)⟩, ⟨PyData.keyHash P (Str.ofString "kind"), (.str (Str.ofString "kind") 477), (.int 6 208)⟩, ⟨PyData.keyHash P (Str.ofString "__init__"), (.str (Str.ofString "__init__") 487), (.ref 219)⟩, ⟨PyData.keyHash P (Str.ofString "parts"), (.str (Str.ofString "parts") 494), (.ref 226)⟩, ⟨PyData.keyHash P (Str.ofString "with_parts"), (.str (Str.ofString "with_parts") 502), (.ref 233)⟩, ⟨PyData.keyHash P (Str.ofString "__static_attributes__"), (.str (Str.ofString "__static_attributes__") 506), (.ref 234)⟩, ⟨PyData.keyHash P (Str.ofString "__doc__"), (.str (Str.ofString "__doc__") 507), .none⟩] 2), #[]⟩
noncomputable def ko236 (P : Params) : Obj := ⟨(.type "type"), none, (.cls ⟨(Str.ofString "If"), [(.ref 45)], [(.ref 236), (.ref 45), (.type "object")], 235, (Str.ofString "If"), true, [], [], false, none, false⟩), #[(some (.ref 206)), none, (some (.str (Str.ofString "If") 465)), (some (.str (Str.ofString "If") 473)), (some (.builtin "object.__new__")), (some (.bool true))]⟩
noncomputable def ko241 (P : Params) : Obj := ⟨(.type "dict"), none, (.dict #[⟨PyData.keyHash P (Str.ofString "__module__"), (.str (Str.ofString "__module__") 517), (.str (Str.ofString "scheme.core") 194)⟩, ⟨PyData.keyHash P (Str.ofString "__qualname__"), (.str (Str.ofString "__qualname__") 519), (.str (Str.ofString "Lambda") 518)⟩, ⟨PyData.keyHash P (Str.ofString "__firstlineno__"), (.str (Str.ofString "__firstlineno__") 521), (.int 89 520)⟩, ⟨PyData.keyHash P (Str.ofString "kind"), (.str (Str.ofString "kind") 522), (.int 7 210)⟩, ⟨PyData.keyHash P (Str.ofString "__init__"), (.str (Str.ofString "__init__") 533), (.ref 252)⟩, ⟨PyData.keyHash P (Str.ofString "parts"), (.str (Str.ofString "parts") 540), (.ref 259)⟩, ⟨PyData.keyHash P (Str.ofString "with_parts"), (.str (Str.ofString "with_parts") 548), (.ref 266)⟩, ⟨PyData.keyHash P (Str.ofString "binders"), (.str (Str.ofString "binders") 555), (.ref 273)⟩, ⟨PyData.keyHash P (Str.ofString "takes"), (.str (Str.ofString "takes") 563), (.ref 280)⟩, ⟨PyData.keyHash P (Str.ofString "__static_attributes__"), (.str (Str.ofString "__static_attributes__") 568), (.ref 281)⟩] 10), #[]⟩
noncomputable def ko244 (P : Params) : Obj := ⟨(.type "code"), none, (.fields #[(.str (Str.ofString "Lambda") 512), (.str (Str.ofString "Lambda") 513), (.str (Str.ofString "/claim/cut.py") 514), (.int 89 0), (.int 0 0), (.int 0 0), (.int 0 0), (.int 0 0), (.ref 242), (.bool false), (.int 181 0), (.ref 243), .none, .none, .none, .none, (.int 515 0), (.int 89 0), (.str (Str.ofString "/claim/cut.py") 516)]), #[]⟩
noncomputable def ko251 (P : Params) : Obj := ⟨(.type "code"), none, (.fields #[(.str (Str.ofString "__init__") 523), (.str (Str.ofString "Lambda.__init__") 524), (.str (Str.ofString "/claim/cut.py") 525), (.int 92 0), (.int 5 0), (.int 0 0), (.int 0 0), (.int 3 0), (.ref 246), (.bool true), (.int 181 0), (.ref 247), .none, (.ref 248), (.ref 249), (.ref 250), (.int 531 0), (.int 92 0), (.str (Str.ofString "/claim/cut.py") 532)]), #[]⟩
noncomputable def ko252 (P : Params) : Obj := ⟨(.type "function"), none, (.func ⟨(Str.ofString "__init__"), (Str.ofString "Lambda.__init__"), fArgs (inAt 22 1), .stmts (fBody (inAt 22 1)), fScope (inAt 22 1), 3, [], .none, .none, .none, (.str (Str.ofString "scheme.core") 194), none, (.ref 251), .none, 0⟩), #[]⟩
noncomputable def ko258 (P : Params) : Obj := ⟨(.type "code"), none, (.fields #[(.str (Str.ofString "parts") 534), (.str (Str.ofString "Lambda.parts") 535), (.str (Str.ofString "/claim/cut.py") 536), (.int 98 0), (.int 1 0), (.int 0 0), (.int 0 0), (.int 3 0), (.ref 253), (.bool true), (.int 181 0), (.ref 254), .none, (.ref 255), (.ref 256), (.ref 257), (.int 538 0), (.int 98 0), (.str (Str.ofString "/claim/cut.py") 539)]), #[]⟩
noncomputable def ko259 (P : Params) : Obj := ⟨(.type "function"), none, (.func ⟨(Str.ofString "parts"), (Str.ofString "Lambda.parts"), fArgs (inAt 22 2), .stmts (fBody (inAt 22 2)), fScope (inAt 22 2), 3, [], .none, .none, .none, (.str (Str.ofString "scheme.core") 194), none, (.ref 258), .none, 0⟩), #[]⟩
noncomputable def ko265 (P : Params) : Obj := ⟨(.type "code"), none, (.fields #[(.str (Str.ofString "with_parts") 541), (.str (Str.ofString "Lambda.with_parts") 542), (.str (Str.ofString "/claim/cut.py") 543), (.int 101 0), (.int 2 0), (.int 0 0), (.int 0 0), (.int 3 0), (.ref 260), (.bool true), (.int 181 0), (.ref 261), .none, (.ref 262), (.ref 263), (.ref 264), (.int 546 0), (.int 101 0), (.str (Str.ofString "/claim/cut.py") 547)]), #[]⟩
noncomputable def ko266 (P : Params) : Obj := ⟨(.type "function"), none, (.func ⟨(Str.ofString "with_parts"), (Str.ofString "Lambda.with_parts"), fArgs (inAt 22 3), .stmts (fBody (inAt 22 3)), fScope (inAt 22 3), 3, [], .none, .none, .none, (.str (Str.ofString "scheme.core") 194), none, (.ref 265), .none, 0⟩), #[]⟩
noncomputable def ko272 (P : Params) : Obj := ⟨(.type "code"), none, (.fields #[(.str (Str.ofString "binders") 549), (.str (Str.ofString "Lambda.binders") 550), (.str (Str.ofString "/claim/cut.py") 551), (.int 104 0), (.int 1 0), (.int 0 0), (.int 0 0), (.int 3 0), (.ref 267), (.bool true), (.int 181 0), (.ref 268), .none, (.ref 269), (.ref 270), (.ref 271), (.int 553 0), (.int 104 0), (.str (Str.ofString "/claim/cut.py") 554)]), #[]⟩
noncomputable def ko273 (P : Params) : Obj := ⟨(.type "function"), none, (.func ⟨(Str.ofString "binders"), (Str.ofString "Lambda.binders"), fArgs (inAt 22 4), .stmts (fBody (inAt 22 4)), fScope (inAt 22 4), 3, [], .none, .none, .none, (.str (Str.ofString "scheme.core") 194), none, (.ref 272), .none, 0⟩), #[]⟩
noncomputable def ko279 (P : Params) : Obj := ⟨(.type "code"), none, (.fields #[(.str (Str.ofString "takes") 556), (.str (Str.ofString "Lambda.takes") 557), (.str (Str.ofString "/claim/cut.py") 558), (.int 107 0), (.int 2 0), (.int 0 0), (.int 0 0), (.int 3 0), (.ref 274), (.bool true), (.int 181 0), (.ref 275), .none, (.ref 276), (.ref 277), (.ref 278), (.int 561 0), (.int 107 0), (.str (Str.ofString "/claim/cut.py") 562)]), #[]⟩
noncomputable def ko280 (P : Params) : Obj := ⟨(.type "function"), none, (.func ⟨(Str.ofString "takes"), (Str.ofString "Lambda.takes"), fArgs (inAt 22 5), .stmts (fBody (inAt 22 5)), fScope (inAt 22 5), 3, [], .none, .none, .none, (.str (Str.ofString "scheme.core") 194), none, (.ref 279), .none, 0⟩), #[]⟩
noncomputable def ko282 (P : Params) : Obj := ⟨(.type "dict"), none, (.dict #[⟨PyData.keyHash P (Str.ofString "__module__"), (.str (Str.ofString "__module__") 517), (.str (Str.ofString "scheme.core") 194)⟩, ⟨PyData.keyHash P (Str.ofString "__firstlineno__"), (.str (Str.ofString "__firstlineno__") 521), (.int 89 520)⟩, ⟨PyData.keyHash P (Str.ofString "kind"), (.str (Str.ofString "kind") 522), (.int 7 210)⟩, ⟨PyData.keyHash P (Str.ofString "__init__"), (.str (Str.ofString "__init__") 533), (.ref 252)⟩, ⟨PyData.keyHash P (Str.ofString "parts"), (.str (Str.ofString "parts") 540), (.ref 259)⟩, ⟨PyData.keyHash P (Str.ofString "with_parts"), (.str (Str.ofString "with_parts") 548), (.ref 266)⟩, ⟨PyData.keyHash P (Str.ofString "binders"), (.str (Str.ofString "binders") 555), (.ref 273)⟩, ⟨PyData.keyHash P (Str.ofString "takes"), (.str (Str.ofString "takes") 563), (.ref 280)⟩, ⟨PyData.keyHash P (Str.ofString "__static_attributes__"), (.str (Str.ofString "__static_attributes__") 568), (.ref 281)⟩, ⟨PyData.keyHash P (Str.ofString "__doc__"), (.str (Str.ofString "__doc__") 569), .none⟩] 2), #[]⟩
noncomputable def ko283 (P : Params) : Obj := ⟨(.type "type"), none, (.cls ⟨(Str.ofString "Lambda"), [(.ref 45)], [(.ref 283), (.ref 45), (.type "object")], 282, (Str.ofString "Lambda"), true, [], [], false, none, false⟩), #[(some (.ref 239)), none, (some (.str (Str.ofString "Lambda") 510)), (some (.str (Str.ofString "Lambda") 518)), (some (.builtin "object.__new__")), (some (.bool true))]⟩
noncomputable def ko288 (P : Params) : Obj := ⟨(.type "dict"), none, (.dict #[⟨PyData.keyHash P (Str.ofString "__module__"), (.str (Str.ofString "__module__") 579), (.str (Str.ofString "scheme.core") 194)⟩, ⟨PyData.keyHash P (Str.ofString "__qualname__"), (.str (Str.ofString "__qualname__") 581), (.str (Str.ofString "Call") 580)⟩, ⟨PyData.keyHash P (Str.ofString "__firstlineno__"), (.str (Str.ofString "__firstlineno__") 583), (.int 109 582)⟩, ⟨PyData.keyHash P (Str.ofString "kind"), (.str (Str.ofString "kind") 584), (.int 8 212)⟩, ⟨PyData.keyHash P (Str.ofString "__init__"), (.str (Str.ofString "__init__") 593), (.ref 299)⟩, ⟨PyData.keyHash P (Str.ofString "parts"), (.str (Str.ofString "parts") 600), (.ref 306)⟩, ⟨PyData.keyHash P (Str.ofString "with_parts"), (.str (Str.ofString "with_parts") 608), (.ref 313)⟩, ⟨PyData.keyHash P (Str.ofString "__static_attributes__"), (.str (Str.ofString "__static_attributes__") 611), (.ref 314)⟩] 8), #[]⟩
noncomputable def ko291 (P : Params) : Obj := ⟨(.type "code"), none, (.fields #[(.str (Str.ofString "Call") 574), (.str (Str.ofString "Call") 575), (.str (Str.ofString "/claim/cut.py") 576), (.int 109 0), (.int 0 0), (.int 0 0), (.int 0 0), (.int 0 0), (.ref 289), (.bool false), (.int 181 0), (.ref 290), .none, .none, .none, .none, (.int 577 0), (.int 109 0), (.str (Str.ofString "/claim/cut.py") 578)]), #[]⟩
noncomputable def ko298 (P : Params) : Obj := ⟨(.type "code"), none, (.fields #[(.str (Str.ofString "__init__") 585), (.str (Str.ofString "Call.__init__") 586), (.str (Str.ofString "/claim/cut.py") 587), (.int 112 0), (.int 3 0), (.int 0 0), (.int 0 0), (.int 3 0), (.ref 293), (.bool true), (.int 181 0), (.ref 294), .none, (.ref 295), (.ref 296), (.ref 297), (.int 591 0), (.int 112 0), (.str (Str.ofString "/claim/cut.py") 592)]), #[]⟩
noncomputable def ko299 (P : Params) : Obj := ⟨(.type "function"), none, (.func ⟨(Str.ofString "__init__"), (Str.ofString "Call.__init__"), fArgs (inAt 23 1), .stmts (fBody (inAt 23 1)), fScope (inAt 23 1), 3, [], .none, .none, .none, (.str (Str.ofString "scheme.core") 194), none, (.ref 298), .none, 0⟩), #[]⟩
noncomputable def ko305 (P : Params) : Obj := ⟨(.type "code"), none, (.fields #[(.str (Str.ofString "parts") 594), (.str (Str.ofString "Call.parts") 595), (.str (Str.ofString "/claim/cut.py") 596), (.int 116 0), (.int 1 0), (.int 0 0), (.int 0 0), (.int 3 0), (.ref 300), (.bool true), (.int 181 0), (.ref 301), .none, (.ref 302), (.ref 303), (.ref 304), (.int 598 0), (.int 116 0), (.str (Str.ofString "/claim/cut.py") 599)]), #[]⟩
noncomputable def ko306 (P : Params) : Obj := ⟨(.type "function"), none, (.func ⟨(Str.ofString "parts"), (Str.ofString "Call.parts"), fArgs (inAt 23 2), .stmts (fBody (inAt 23 2)), fScope (inAt 23 2), 3, [], .none, .none, .none, (.str (Str.ofString "scheme.core") 194), none, (.ref 305), .none, 0⟩), #[]⟩
noncomputable def ko312 (P : Params) : Obj := ⟨(.type "code"), none, (.fields #[(.str (Str.ofString "with_parts") 601), (.str (Str.ofString "Call.with_parts") 602), (.str (Str.ofString "/claim/cut.py") 603), (.int 119 0), (.int 2 0), (.int 0 0), (.int 0 0), (.int 3 0), (.ref 307), (.bool true), (.int 181 0), (.ref 308), .none, (.ref 309), (.ref 310), (.ref 311), (.int 606 0), (.int 119 0), (.str (Str.ofString "/claim/cut.py") 607)]), #[]⟩
noncomputable def ko313 (P : Params) : Obj := ⟨(.type "function"), none, (.func ⟨(Str.ofString "with_parts"), (Str.ofString "Call.with_parts"), fArgs (inAt 23 3), .stmts (fBody (inAt 23 3)), fScope (inAt 23 3), 3, [], .none, .none, .none, (.str (Str.ofString "scheme.core") 194), none, (.ref 312), .none, 0⟩), #[]⟩
noncomputable def ko315 (P : Params) : Obj := ⟨(.type "dict"), none, (.dict #[⟨PyData.keyHash P (Str.ofString "__module__"), (.str (Str.ofString "__module__") 579), (.str (Str.ofString "scheme.core") 194)⟩, ⟨PyData.keyHash P (Str.ofString "__firstlineno__"), (.str (Str.ofString "__firstlineno__") 583), (.int 109 582)⟩, ⟨PyData.keyHash P (Str.ofString "kind"), (.str (Str.ofString "kind") 584), (.int 8 212)⟩, ⟨PyData.keyHash P (Str.ofString "__init__"), (.str (Str.ofString "__init__") 593), (.ref 299)⟩, ⟨PyData.keyHash P (Str.ofString "parts"), (.str (Str.ofString "parts") 600), (.ref 306)⟩, ⟨PyData.keyHash P (Str.ofString "with_parts"), (.str (Str.ofString "with_parts") 608), (.ref 313)⟩, ⟨PyData.keyHash P (Str.ofString "__static_attributes__"), (.str (Str.ofString "__static_attributes__") 611), (.ref 314)⟩, ⟨PyData.keyHash P (Str.ofString "__doc__"), (.str (Str.ofString "__doc__") 612), .none⟩] 2), #[]⟩
noncomputable def ko316 (P : Params) : Obj := ⟨(.type "type"), none, (.cls ⟨(Str.ofString "Call"), [(.ref 45)], [(.ref 316), (.ref 45), (.type "object")], 315, (Str.ofString "Call"), true, [], [], false, none, false⟩), #[(some (.ref 286)), none, (some (.str (Str.ofString "Call") 572)), (some (.str (Str.ofString "Call") 580)), (some (.builtin "object.__new__")), (some (.bool true))]⟩
noncomputable def ko321 (P : Params) : Obj := ⟨(.type "dict"), none, (.dict #[⟨PyData.keyHash P (Str.ofString "__module__"), (.str (Str.ofString "__module__") 622), (.str (Str.ofString "scheme.core") 194)⟩, ⟨PyData.keyHash P (Str.ofString "__qualname__"), (.str (Str.ofString "__qualname__") 624), (.str (Str.ofString "Seq") 623)⟩, ⟨PyData.keyHash P (Str.ofString "__firstlineno__"), (.str (Str.ofString "__firstlineno__") 626), (.int 121 625)⟩, ⟨PyData.keyHash P (Str.ofString "kind"), (.str (Str.ofString "kind") 627), (.int 9 214)⟩, ⟨PyData.keyHash P (Str.ofString "__init__"), (.str (Str.ofString "__init__") 635), (.ref 332)⟩, ⟨PyData.keyHash P (Str.ofString "parts"), (.str (Str.ofString "parts") 642), (.ref 339)⟩, ⟨PyData.keyHash P (Str.ofString "with_parts"), (.str (Str.ofString "with_parts") 650), (.ref 346)⟩, ⟨PyData.keyHash P (Str.ofString "__static_attributes__"), (.str (Str.ofString "__static_attributes__") 652), (.ref 347)⟩] 8), #[]⟩
noncomputable def ko324 (P : Params) : Obj := ⟨(.type "code"), none, (.fields #[(.str (Str.ofString "Seq") 617), (.str (Str.ofString "Seq") 618), (.str (Str.ofString "/claim/cut.py") 619), (.int 121 0), (.int 0 0), (.int 0 0), (.int 0 0), (.int 0 0), (.ref 322), (.bool false), (.int 181 0), (.ref 323), .none, .none, .none, .none, (.int 620 0), (.int 121 0), (.str (Str.ofString "/claim/cut.py") 621)]), #[]⟩
noncomputable def ko331 (P : Params) : Obj := ⟨(.type "code"), none, (.fields #[(.str (Str.ofString "__init__") 628), (.str (Str.ofString "Seq.__init__") 629), (.str (Str.ofString "/claim/cut.py") 630), (.int 124 0), (.int 2 0), (.int 0 0), (.int 0 0), (.int 3 0), (.ref 326), (.bool true), (.int 181 0), (.ref 327), .none, (.ref 328), (.ref 329), (.ref 330), (.int 633 0), (.int 124 0), (.str (Str.ofString "/claim/cut.py") 634)]), #[]⟩
noncomputable def ko332 (P : Params) : Obj := ⟨(.type "function"), none, (.func ⟨(Str.ofString "__init__"), (Str.ofString "Seq.__init__"), fArgs (inAt 24 1), .stmts (fBody (inAt 24 1)), fScope (inAt 24 1), 3, [], .none, .none, .none, (.str (Str.ofString "scheme.core") 194), none, (.ref 331), .none, 0⟩), #[]⟩
noncomputable def ko338 (P : Params) : Obj := ⟨(.type "code"), none, (.fields #[(.str (Str.ofString "parts") 636), (.str (Str.ofString "Seq.parts") 637), (.str (Str.ofString "/claim/cut.py") 638), (.int 127 0), (.int 1 0), (.int 0 0), (.int 0 0), (.int 3 0), (.ref 333), (.bool true), (.int 181 0), (.ref 334), .none, (.ref 335), (.ref 336), (.ref 337), (.int 640 0), (.int 127 0), (.str (Str.ofString "/claim/cut.py") 641)]), #[]⟩
noncomputable def ko339 (P : Params) : Obj := ⟨(.type "function"), none, (.func ⟨(Str.ofString "parts"), (Str.ofString "Seq.parts"), fArgs (inAt 24 2), .stmts (fBody (inAt 24 2)), fScope (inAt 24 2), 3, [], .none, .none, .none, (.str (Str.ofString "scheme.core") 194), none, (.ref 338), .none, 0⟩), #[]⟩
noncomputable def ko345 (P : Params) : Obj := ⟨(.type "code"), none, (.fields #[(.str (Str.ofString "with_parts") 643), (.str (Str.ofString "Seq.with_parts") 644), (.str (Str.ofString "/claim/cut.py") 645), (.int 130 0), (.int 2 0), (.int 0 0), (.int 0 0), (.int 3 0), (.ref 340), (.bool true), (.int 181 0), (.ref 341), .none, (.ref 342), (.ref 343), (.ref 344), (.int 648 0), (.int 130 0), (.str (Str.ofString "/claim/cut.py") 649)]), #[]⟩
noncomputable def ko346 (P : Params) : Obj := ⟨(.type "function"), none, (.func ⟨(Str.ofString "with_parts"), (Str.ofString "Seq.with_parts"), fArgs (inAt 24 3), .stmts (fBody (inAt 24 3)), fScope (inAt 24 3), 3, [], .none, .none, .none, (.str (Str.ofString "scheme.core") 194), none, (.ref 345), .none, 0⟩), #[]⟩
noncomputable def ko348 (P : Params) : Obj := ⟨(.type "dict"), none, (.dict #[⟨PyData.keyHash P (Str.ofString "__module__"), (.str (Str.ofString "__module__") 622), (.str (Str.ofString "scheme.core") 194)⟩, ⟨PyData.keyHash P (Str.ofString "__firstlineno__"), (.str (Str.ofString "__firstlineno__") 626), (.int 121 625)⟩, ⟨PyData.keyHash P (Str.ofString "kind"), (.str (Str.ofString "kind") 627), (.int 9 214)⟩, ⟨PyData.keyHash P (Str.ofString "__init__"), (.str (Str.ofString "__init__") 635), (.ref 332)⟩, ⟨PyData.keyHash P (Str.ofString "parts"), (.str (Str.ofString "parts") 642), (.ref 339)⟩, ⟨PyData.keyHash P (Str.ofString "with_parts"), (.str (Str.ofString "with_parts") 650), (.ref 346)⟩, ⟨PyData.keyHash P (Str.ofString "__static_attributes__"), (.str (Str.ofString "__static_attributes__") 652), (.ref 347)⟩, ⟨PyData.keyHash P (Str.ofString "__doc__"), (.str (Str.ofString "__doc__") 653), .none⟩] 2), #[]⟩
noncomputable def ko349 (P : Params) : Obj := ⟨(.type "type"), none, (.cls ⟨(Str.ofString "Seq"), [(.ref 45)], [(.ref 349), (.ref 45), (.type "object")], 348, (Str.ofString "Seq"), true, [], [], false, none, false⟩), #[(some (.ref 319)), none, (some (.str (Str.ofString "Seq") 615)), (some (.str (Str.ofString "Seq") 623)), (some (.builtin "object.__new__")), (some (.bool true))]⟩
noncomputable def ko354 (P : Params) : Obj := ⟨(.type "dict"), none, (.dict #[⟨PyData.keyHash P (Str.ofString "__module__"), (.str (Str.ofString "__module__") 663), (.str (Str.ofString "scheme.core") 194)⟩, ⟨PyData.keyHash P (Str.ofString "__qualname__"), (.str (Str.ofString "__qualname__") 665), (.str (Str.ofString "Prim") 664)⟩, ⟨PyData.keyHash P (Str.ofString "__firstlineno__"), (.str (Str.ofString "__firstlineno__") 667), (.int 132 666)⟩, ⟨PyData.keyHash P (Str.ofString "kind"), (.str (Str.ofString "kind") 668), (.int 10 216)⟩, ⟨PyData.keyHash P (Str.ofString "__init__"), (.str (Str.ofString "__init__") 677), (.ref 365)⟩, ⟨PyData.keyHash P (Str.ofString "parts"), (.str (Str.ofString "parts") 684), (.ref 372)⟩, ⟨PyData.keyHash P (Str.ofString "with_parts"), (.str (Str.ofString "with_parts") 692), (.ref 379)⟩, ⟨PyData.keyHash P (Str.ofString "__static_attributes__"), (.str (Str.ofString "__static_attributes__") 695), (.ref 380)⟩] 8), #[]⟩
noncomputable def ko357 (P : Params) : Obj := ⟨(.type "code"), none, (.fields #[(.str (Str.ofString "Prim") 658), (.str (Str.ofString "Prim") 659), (.str (Str.ofString "/claim/cut.py") 660), (.int 132 0), (.int 0 0), (.int 0 0), (.int 0 0), (.int 0 0), (.ref 355), (.bool false), (.int 181 0), (.ref 356), .none, .none, .none, .none, (.int 661 0), (.int 132 0), (.str (Str.ofString "/claim/cut.py") 662)]), #[]⟩
noncomputable def ko364 (P : Params) : Obj := ⟨(.type "code"), none, (.fields #[(.str (Str.ofString "__init__") 669), (.str (Str.ofString "Prim.__init__") 670), (.str (Str.ofString "/claim/cut.py") 671), (.int 135 0), (.int 3 0), (.int 0 0), (.int 0 0), (.int 3 0), (.ref 359), (.bool true), (.int 181 0), (.ref 360), .none, (.ref 361), (.ref 362), (.ref 363), (.int 675 0), (.int 135 0), (.str (Str.ofString "/claim/cut.py") 676)]), #[]⟩
noncomputable def ko365 (P : Params) : Obj := ⟨(.type "function"), none, (.func ⟨(Str.ofString "__init__"), (Str.ofString "Prim.__init__"), fArgs (inAt 25 1), .stmts (fBody (inAt 25 1)), fScope (inAt 25 1), 3, [], .none, .none, .none, (.str (Str.ofString "scheme.core") 194), none, (.ref 364), .none, 0⟩), #[]⟩
noncomputable def ko371 (P : Params) : Obj := ⟨(.type "code"), none, (.fields #[(.str (Str.ofString "parts") 678), (.str (Str.ofString "Prim.parts") 679), (.str (Str.ofString "/claim/cut.py") 680), (.int 139 0), (.int 1 0), (.int 0 0), (.int 0 0), (.int 3 0), (.ref 366), (.bool true), (.int 181 0), (.ref 367), .none, (.ref 368), (.ref 369), (.ref 370), (.int 682 0), (.int 139 0), (.str (Str.ofString "/claim/cut.py") 683)]), #[]⟩
noncomputable def ko372 (P : Params) : Obj := ⟨(.type "function"), none, (.func ⟨(Str.ofString "parts"), (Str.ofString "Prim.parts"), fArgs (inAt 25 2), .stmts (fBody (inAt 25 2)), fScope (inAt 25 2), 3, [], .none, .none, .none, (.str (Str.ofString "scheme.core") 194), none, (.ref 371), .none, 0⟩), #[]⟩
noncomputable def ko378 (P : Params) : Obj := ⟨(.type "code"), none, (.fields #[(.str (Str.ofString "with_parts") 685), (.str (Str.ofString "Prim.with_parts") 686), (.str (Str.ofString "/claim/cut.py") 687), (.int 142 0), (.int 2 0), (.int 0 0), (.int 0 0), (.int 3 0), (.ref 373), (.bool true), (.int 181 0), (.ref 374), .none, (.ref 375), (.ref 376), (.ref 377), (.int 690 0), (.int 142 0), (.str (Str.ofString "/claim/cut.py") 691)]), #[]⟩
noncomputable def ko379 (P : Params) : Obj := ⟨(.type "function"), none, (.func ⟨(Str.ofString "with_parts"), (Str.ofString "Prim.with_parts"), fArgs (inAt 25 3), .stmts (fBody (inAt 25 3)), fScope (inAt 25 3), 3, [], .none, .none, .none, (.str (Str.ofString "scheme.core") 194), none, (.ref 378), .none, 0⟩), #[]⟩
noncomputable def ko381 (P : Params) : Obj := ⟨(.type "dict"), none, (.dict #[⟨PyData.keyHash P (Str.ofString "__module__"), (.str (Str.ofString "__module__") 663), (.str (Str.ofString "scheme.core") 194)⟩, ⟨PyData.keyHash P (Str.ofString "__firstlineno__"), (.str (Str.ofString "__firstlineno__") 667), (.int 132 666)⟩, ⟨PyData.keyHash P (Str.ofString "kind"), (.str (Str.ofString "kind") 668), (.int 10 216)⟩, ⟨PyData.keyHash P (Str.ofString "__init__"), (.str (Str.ofString "__init__") 677), (.ref 365)⟩, ⟨PyData.keyHash P (Str.ofString "parts"), (.str (Str.ofString "parts") 684), (.ref 372)⟩, ⟨PyData.keyHash P (Str.ofString "with_parts"), (.str (Str.ofString "with_parts") 692), (.ref 379)⟩, ⟨PyData.keyHash P (Str.ofString "__static_attributes__"), (.str (Str.ofString "__static_attributes__") 695), (.ref 380)⟩, ⟨PyData.keyHash P (Str.ofString "__doc__"), (.str (Str.ofString "__doc__") 696), .none⟩] 2), #[]⟩
noncomputable def ko382 (P : Params) : Obj := ⟨(.type "type"), none, (.cls ⟨(Str.ofString "Prim"), [(.ref 45)], [(.ref 382), (.ref 45), (.type "object")], 381, (Str.ofString "Prim"), true, [], [], false, none, false⟩), #[(some (.ref 352)), none, (some (.str (Str.ofString "Prim") 656)), (some (.str (Str.ofString "Prim") 664)), (some (.builtin "object.__new__")), (some (.bool true))]⟩
noncomputable def ko387 (P : Params) : Obj := ⟨(.type "dict"), none, (.dict #[⟨PyData.keyHash P (Str.ofString "__module__"), (.str (Str.ofString "__module__") 706), (.str (Str.ofString "scheme.core") 194)⟩, ⟨PyData.keyHash P (Str.ofString "__qualname__"), (.str (Str.ofString "__qualname__") 708), (.str (Str.ofString "Fix") 707)⟩, ⟨PyData.keyHash P (Str.ofString "__firstlineno__"), (.str (Str.ofString "__firstlineno__") 710), (.int 144 709)⟩, ⟨PyData.keyHash P (Str.ofString "kind"), (.str (Str.ofString "kind") 711), (.int 11 218)⟩, ⟨PyData.keyHash P (Str.ofString "__init__"), (.str (Str.ofString "__init__") 721), (.ref 398)⟩, ⟨PyData.keyHash P (Str.ofString "parts"), (.str (Str.ofString "parts") 728), (.ref 405)⟩, ⟨PyData.keyHash P (Str.ofString "with_parts"), (.str (Str.ofString "with_parts") 736), (.ref 412)⟩, ⟨PyData.keyHash P (Str.ofString "__static_attributes__"), (.str (Str.ofString "__static_attributes__") 740), (.ref 413)⟩] 8), #[]⟩
noncomputable def ko390 (P : Params) : Obj := ⟨(.type "code"), none, (.fields #[(.str (Str.ofString "Fix") 701), (.str (Str.ofString "Fix") 702), (.str (Str.ofString "/claim/cut.py") 703), (.int 144 0), (.int 0 0), (.int 0 0), (.int 0 0), (.int 0 0), (.ref 388), (.bool false), (.int 181 0), (.ref 389), .none, .none, .none, .none, (.int 704 0), (.int 144 0), (.str (Str.ofString "/claim/cut.py") 705)]), #[]⟩
noncomputable def ko397 (P : Params) : Obj := ⟨(.type "code"), none, (.fields #[(.str (Str.ofString "__init__") 712), (.str (Str.ofString "Fix.__init__") 713), (.str (Str.ofString "/claim/cut.py") 714), (.int 147 0), (.int 4 0), (.int 0 0), (.int 0 0), (.int 3 0), (.ref 392), (.bool true), (.int 181 0), (.ref 393), .none, (.ref 394), (.ref 395), (.ref 396), (.int 719 0), (.int 147 0), (.str (Str.ofString "/claim/cut.py") 720)]), #[]⟩
noncomputable def ko398 (P : Params) : Obj := ⟨(.type "function"), none, (.func ⟨(Str.ofString "__init__"), (Str.ofString "Fix.__init__"), fArgs (inAt 26 1), .stmts (fBody (inAt 26 1)), fScope (inAt 26 1), 3, [], .none, .none, .none, (.str (Str.ofString "scheme.core") 194), none, (.ref 397), .none, 0⟩), #[]⟩
noncomputable def ko404 (P : Params) : Obj := ⟨(.type "code"), none, (.fields #[(.str (Str.ofString "parts") 722), (.str (Str.ofString "Fix.parts") 723), (.str (Str.ofString "/claim/cut.py") 724), (.int 152 0), (.int 1 0), (.int 0 0), (.int 0 0), (.int 3 0), (.ref 399), (.bool true), (.int 181 0), (.ref 400), .none, (.ref 401), (.ref 402), (.ref 403), (.int 726 0), (.int 152 0), (.str (Str.ofString "/claim/cut.py") 727)]), #[]⟩
noncomputable def ko405 (P : Params) : Obj := ⟨(.type "function"), none, (.func ⟨(Str.ofString "parts"), (Str.ofString "Fix.parts"), fArgs (inAt 26 2), .stmts (fBody (inAt 26 2)), fScope (inAt 26 2), 3, [], .none, .none, .none, (.str (Str.ofString "scheme.core") 194), none, (.ref 404), .none, 0⟩), #[]⟩
noncomputable def ko411 (P : Params) : Obj := ⟨(.type "code"), none, (.fields #[(.str (Str.ofString "with_parts") 729), (.str (Str.ofString "Fix.with_parts") 730), (.str (Str.ofString "/claim/cut.py") 731), (.int 155 0), (.int 2 0), (.int 0 0), (.int 0 0), (.int 3 0), (.ref 406), (.bool true), (.int 181 0), (.ref 407), .none, (.ref 408), (.ref 409), (.ref 410), (.int 734 0), (.int 155 0), (.str (Str.ofString "/claim/cut.py") 735)]), #[]⟩
noncomputable def ko412 (P : Params) : Obj := ⟨(.type "function"), none, (.func ⟨(Str.ofString "with_parts"), (Str.ofString "Fix.with_parts"), fArgs (inAt 26 3), .stmts (fBody (inAt 26 3)), fScope (inAt 26 3), 3, [], .none, .none, .none, (.str (Str.ofString "scheme.core") 194), none, (.ref 411), .none, 0⟩), #[]⟩
noncomputable def ko414 (P : Params) : Obj := ⟨(.type "dict"), none, (.dict #[⟨PyData.keyHash P (Str.ofString "__module__"), (.str (Str.ofString "__module__") 706), (.str (Str.ofString "scheme.core") 194)⟩, ⟨PyData.keyHash P (Str.ofString "__firstlineno__"), (.str (Str.ofString "__firstlineno__") 710), (.int 144 709)⟩, ⟨PyData.keyHash P (Str.ofString "kind"), (.str (Str.ofString "kind") 711), (.int 11 218)⟩, ⟨PyData.keyHash P (Str.ofString "__init__"), (.str (Str.ofString "__init__") 721), (.ref 398)⟩, ⟨PyData.keyHash P (Str.ofString "parts"), (.str (Str.ofString "parts") 728), (.ref 405)⟩, ⟨PyData.keyHash P (Str.ofString "with_parts"), (.str (Str.ofString "with_parts") 736), (.ref 412)⟩, ⟨PyData.keyHash P (Str.ofString "__static_attributes__"), (.str (Str.ofString "__static_attributes__") 740), (.ref 413)⟩, ⟨PyData.keyHash P (Str.ofString "__doc__"), (.str (Str.ofString "__doc__") 741), .none⟩] 2), #[]⟩
noncomputable def ko415 (P : Params) : Obj := ⟨(.type "type"), none, (.cls ⟨(Str.ofString "Fix"), [(.ref 45)], [(.ref 415), (.ref 45), (.type "object")], 414, (Str.ofString "Fix"), true, [], [], false, none, false⟩), #[(some (.ref 385)), none, (some (.str (Str.ofString "Fix") 699)), (some (.str (Str.ofString "Fix") 707)), (some (.builtin "object.__new__")), (some (.bool true))]⟩
noncomputable def ko423 (P : Params) : Obj := ⟨(.type "code"), none, (.fields #[(.str (Str.ofString "binders_of") 744), (.str (Str.ofString "binders_of") 745), (.str (Str.ofString "/claim/cut.py") 746), (.int 157 0), (.int 1 0), (.int 0 0), (.int 0 0), (.int 3 0), (.ref 418), (.bool true), (.int 181 0), (.ref 419), .none, (.ref 420), (.ref 421), (.ref 422), (.int 748 0), (.int 157 0), (.str (Str.ofString "/claim/cut.py") 749)]), #[]⟩
noncomputable def ko424 (P : Params) : Obj := ⟨(.type "function"), none, (.func ⟨(Str.ofString "binders_of"), (Str.ofString "binders_of"), fArgs (stAt 27), .stmts (fBody (stAt 27)), fScope (stAt 27), 3, [], .none, .none, .none, (.str (Str.ofString "scheme.core") 194), none, (.ref 423), .none, 0⟩), #[]⟩
noncomputable def ko427 (P : Params) : Obj := ⟨(.type "dict"), none, (.dict #[⟨PyData.keyHash P (Str.ofString "__module__"), (.str (Str.ofString "__module__") 760), (.str (Str.ofString "scheme.errors") 751)⟩, ⟨PyData.keyHash P (Str.ofString "__qualname__"), (.str (Str.ofString "__qualname__") 762), (.str (Str.ofString "CoreError") 761)⟩, ⟨PyData.keyHash P (Str.ofString "__firstlineno__"), (.str (Str.ofString "__firstlineno__") 764), (.int 162 763)⟩, ⟨PyData.keyHash P (Str.ofString "__init__"), (.str (Str.ofString "__init__") 773), (.ref 438)⟩, ⟨PyData.keyHash P (Str.ofString "__static_attributes__"), (.str (Str.ofString "__static_attributes__") 776), (.ref 439)⟩] 5), #[]⟩
noncomputable def ko430 (P : Params) : Obj := ⟨(.type "code"), none, (.fields #[(.str (Str.ofString "CoreError") 755), (.str (Str.ofString "CoreError") 756), (.str (Str.ofString "/claim/cut.py") 757), (.int 162 0), (.int 0 0), (.int 0 0), (.int 0 0), (.int 0 0), (.ref 428), (.bool false), (.int 181 0), (.ref 429), .none, .none, .none, .none, (.int 758 0), (.int 162 0), (.str (Str.ofString "/claim/cut.py") 759)]), #[]⟩
noncomputable def ko437 (P : Params) : Obj := ⟨(.type "code"), none, (.fields #[(.str (Str.ofString "__init__") 765), (.str (Str.ofString "CoreError.__init__") 766), (.str (Str.ofString "/claim/cut.py") 767), (.int 164 0), (.int 3 0), (.int 0 0), (.int 0 0), (.int 3 0), (.ref 432), (.bool true), (.int 181 0), (.ref 433), .none, (.ref 434), (.ref 435), (.ref 436), (.int 771 0), (.int 164 0), (.str (Str.ofString "/claim/cut.py") 772)]), #[]⟩
noncomputable def ko438 (P : Params) : Obj := ⟨(.type "function"), none, (.func ⟨(Str.ofString "__init__"), (Str.ofString "CoreError.__init__"), fArgs (inAt 29 0), .stmts (fBody (inAt 29 0)), fScope (inAt 29 0), 3, [], .none, .none, .none, (.str (Str.ofString "scheme.errors") 751), none, (.ref 437), .none, 0⟩), #[]⟩
noncomputable def ko440 (P : Params) : Obj := ⟨(.type "dict"), none, (.dict #[⟨PyData.keyHash P (Str.ofString "__module__"), (.str (Str.ofString "__module__") 760), (.str (Str.ofString "scheme.errors") 751)⟩, ⟨PyData.keyHash P (Str.ofString "__firstlineno__"), (.str (Str.ofString "__firstlineno__") 764), (.int 162 763)⟩, ⟨PyData.keyHash P (Str.ofString "__init__"), (.str (Str.ofString "__init__") 773), (.ref 438)⟩, ⟨PyData.keyHash P (Str.ofString "__static_attributes__"), (.str (Str.ofString "__static_attributes__") 776), (.ref 439)⟩, ⟨PyData.keyHash P (Str.ofString "__weakref__"), (.str (Str.ofString "__weakref__") 778), (.ref 442)⟩, ⟨PyData.keyHash P (Str.ofString "__doc__"), (.str (Str.ofString "__doc__") 779), .none⟩] 3), #[]⟩
noncomputable def ko441 (P : Params) : Obj := ⟨(.type "type"), none, (.cls ⟨(Str.ofString "CoreError"), [(.type "Exception")], [(.ref 441), (.type "Exception"), (.type "BaseException"), (.type "object")], 440, (Str.ofString "CoreError"), true, [], [], false, none, false⟩), #[(some (.ref 425)), none, (some (.str (Str.ofString "CoreError") 753)), (some (.str (Str.ofString "CoreError") 761)), (some (.builtin "Exception.__new__")), (some (.bool true))]⟩
noncomputable def ko643 (P : Params) : Obj := ⟨(.type "code"), none, (.fields #[(.str (Str.ofString "how_many") 1575), (.str (Str.ofString "how_many") 1576), (.str (Str.ofString "/claim/cut.py") 1577), (.int 169 0), (.int 0 0), (.int 0 0), (.int 0 0), (.int 3 0), (.ref 638), (.bool true), (.int 181 0), (.ref 639), .none, (.ref 640), (.ref 641), (.ref 642), (.int 1578 0), (.int 169 0), (.str (Str.ofString "/claim/cut.py") 1579)]), #[]⟩
noncomputable def ko644 (P : Params) : Obj := ⟨(.type "function"), none, (.func ⟨(Str.ofString "how_many"), (Str.ofString "how_many"), fArgs (stAt 32), .stmts (fBody (stAt 32)), fScope (stAt 32), 3, [], .none, .none, .none, (.str (Str.ofString "scheme.primnames") 784), none, (.ref 643), .none, 0⟩), #[]⟩
noncomputable def ko650 (P : Params) : Obj := ⟨(.type "code"), none, (.fields #[(.str (Str.ofString "least_of") 1581), (.str (Str.ofString "least_of") 1582), (.str (Str.ofString "/claim/cut.py") 1583), (.int 171 0), (.int 1 0), (.int 0 0), (.int 0 0), (.int 3 0), (.ref 645), (.bool true), (.int 181 0), (.ref 646), .none, (.ref 647), (.ref 648), (.ref 649), (.int 1585 0), (.int 171 0), (.str (Str.ofString "/claim/cut.py") 1586)]), #[]⟩
noncomputable def ko651 (P : Params) : Obj := ⟨(.type "function"), none, (.func ⟨(Str.ofString "least_of"), (Str.ofString "least_of"), fArgs (stAt 33), .stmts (fBody (stAt 33)), fScope (stAt 33), 3, [], .none, .none, .none, (.str (Str.ofString "scheme.primnames") 784), none, (.ref 650), .none, 0⟩), #[]⟩
noncomputable def ko657 (P : Params) : Obj := ⟨(.type "code"), none, (.fields #[(.str (Str.ofString "most_of") 1588), (.str (Str.ofString "most_of") 1589), (.str (Str.ofString "/claim/cut.py") 1590), (.int 173 0), (.int 1 0), (.int 0 0), (.int 0 0), (.int 3 0), (.ref 652), (.bool true), (.int 181 0), (.ref 653), .none, (.ref 654), (.ref 655), (.ref 656), (.int 1592 0), (.int 173 0), (.str (Str.ofString "/claim/cut.py") 1593)]), #[]⟩
noncomputable def ko658 (P : Params) : Obj := ⟨(.type "function"), none, (.func ⟨(Str.ofString "most_of"), (Str.ofString "most_of"), fArgs (stAt 34), .stmts (fBody (stAt 34)), fScope (stAt 34), 3, [], .none, .none, .none, (.str (Str.ofString "scheme.primnames") 784), none, (.ref 657), .none, 0⟩), #[]⟩
noncomputable def ko661 (P : Params) : Obj := ⟨(.type "dict"), none, (.dict #[⟨PyData.keyHash P (Str.ofString "__module__"), (.str (Str.ofString "__module__") 1608), (.str (Str.ofString "scheme.corecheck") 1595)⟩, ⟨PyData.keyHash P (Str.ofString "__qualname__"), (.str (Str.ofString "__qualname__") 1610), (.str (Str.ofString "Check") 1609)⟩, ⟨PyData.keyHash P (Str.ofString "__firstlineno__"), (.str (Str.ofString "__firstlineno__") 1612), (.int 178 1611)⟩, ⟨PyData.keyHash P (Str.ofString "__init__"), (.str (Str.ofString "__init__") 1619), (.ref 672)⟩, ⟨PyData.keyHash P (Str.ofString "bind"), (.str (Str.ofString "bind") 1627), (.ref 679)⟩, ⟨PyData.keyHash P (Str.ofString "begin"), (.str (Str.ofString "begin") 1636), (.ref 686)⟩, ⟨PyData.keyHash P (Str.ofString "end"), (.str (Str.ofString "end") 1645), (.ref 693)⟩, ⟨PyData.keyHash P (Str.ofString "need_open"), (.str (Str.ofString "need_open") 1653), (.ref 700)⟩, ⟨PyData.keyHash P (Str.ofString "__static_attributes__"), (.str (Str.ofString "__static_attributes__") 1657), (.ref 701)⟩] 9), #[]⟩
noncomputable def ko664 (P : Params) : Obj := ⟨(.type "code"), none, (.fields #[(.str (Str.ofString "Check") 1603), (.str (Str.ofString "Check") 1604), (.str (Str.ofString "/claim/cut.py") 1605), (.int 178 0), (.int 0 0), (.int 0 0), (.int 0 0), (.int 0 0), (.ref 662), (.bool false), (.int 181 0), (.ref 663), .none, .none, .none, .none, (.int 1606 0), (.int 178 0), (.str (Str.ofString "/claim/cut.py") 1607)]), #[]⟩
noncomputable def ko671 (P : Params) : Obj := ⟨(.type "code"), none, (.fields #[(.str (Str.ofString "__init__") 1613), (.str (Str.ofString "Check.__init__") 1614), (.str (Str.ofString "/claim/cut.py") 1615), (.int 180 0), (.int 1 0), (.int 0 0), (.int 0 0), (.int 3 0), (.ref 666), (.bool true), (.int 181 0), (.ref 667), .none, (.ref 668), (.ref 669), (.ref 670), (.int 1617 0), (.int 180 0), (.str (Str.ofString "/claim/cut.py") 1618)]), #[]⟩
noncomputable def ko672 (P : Params) : Obj := ⟨(.type "function"), none, (.func ⟨(Str.ofString "__init__"), (Str.ofString "Check.__init__"), fArgs (inAt 38 0), .stmts (fBody (inAt 38 0)), fScope (inAt 38 0), 3, [], .none, .none, .none, (.str (Str.ofString "scheme.corecheck") 1595), none, (.ref 671), .none, 0⟩), #[]⟩
noncomputable def ko678 (P : Params) : Obj := ⟨(.type "code"), none, (.fields #[(.str (Str.ofString "bind") 1620), (.str (Str.ofString "Check.bind") 1621), (.str (Str.ofString "/claim/cut.py") 1622), (.int 185 0), (.int 2 0), (.int 0 0), (.int 0 0), (.int 3 0), (.ref 673), (.bool true), (.int 181 0), (.ref 674), .none, (.ref 675), (.ref 676), (.ref 677), (.int 1625 0), (.int 185 0), (.str (Str.ofString "/claim/cut.py") 1626)]), #[]⟩
noncomputable def ko679 (P : Params) : Obj := ⟨(.type "function"), none, (.func ⟨(Str.ofString "bind"), (Str.ofString "Check.bind"), fArgs (inAt 38 1), .stmts (fBody (inAt 38 1)), fScope (inAt 38 1), 3, [], .none, .none, .none, (.str (Str.ofString "scheme.corecheck") 1595), none, (.ref 678), .none, 0⟩), #[]⟩
noncomputable def ko685 (P : Params) : Obj := ⟨(.type "code"), none, (.fields #[(.str (Str.ofString "begin") 1628), (.str (Str.ofString "Check.begin") 1629), (.str (Str.ofString "/claim/cut.py") 1630), (.int 193 0), (.int 2 0), (.int 0 0), (.int 0 0), (.int 3 0), (.ref 680), (.bool true), (.int 181 0), (.ref 681), .none, (.ref 682), (.ref 683), (.ref 684), (.int 1634 0), (.int 193 0), (.str (Str.ofString "/claim/cut.py") 1635)]), #[]⟩
noncomputable def ko686 (P : Params) : Obj := ⟨(.type "function"), none, (.func ⟨(Str.ofString "begin"), (Str.ofString "Check.begin"), fArgs (inAt 38 2), .stmts (fBody (inAt 38 2)), fScope (inAt 38 2), 3, [], .none, .none, .none, (.str (Str.ofString "scheme.corecheck") 1595), none, (.ref 685), .none, 0⟩), #[]⟩
noncomputable def ko692 (P : Params) : Obj := ⟨(.type "code"), none, (.fields #[(.str (Str.ofString "end") 1637), (.str (Str.ofString "Check.end") 1638), (.str (Str.ofString "/claim/cut.py") 1639), (.int 201 0), (.int 2 0), (.int 0 0), (.int 0 0), (.int 3 0), (.ref 687), (.bool true), (.int 181 0), (.ref 688), .none, (.ref 689), (.ref 690), (.ref 691), (.int 1643 0), (.int 201 0), (.str (Str.ofString "/claim/cut.py") 1644)]), #[]⟩
noncomputable def ko693 (P : Params) : Obj := ⟨(.type "function"), none, (.func ⟨(Str.ofString "end"), (Str.ofString "Check.end"), fArgs (inAt 38 3), .stmts (fBody (inAt 38 3)), fScope (inAt 38 3), 3, [], .none, .none, .none, (.str (Str.ofString "scheme.corecheck") 1595), none, (.ref 692), .none, 0⟩), #[]⟩
noncomputable def ko699 (P : Params) : Obj := ⟨(.type "code"), none, (.fields #[(.str (Str.ofString "need_open") 1646), (.str (Str.ofString "Check.need_open") 1647), (.str (Str.ofString "/claim/cut.py") 1648), (.int 205 0), (.int 2 0), (.int 0 0), (.int 0 0), (.int 3 0), (.ref 694), (.bool true), (.int 181 0), (.ref 695), .none, (.ref 696), (.ref 697), (.ref 698), (.int 1651 0), (.int 205 0), (.str (Str.ofString "/claim/cut.py") 1652)]), #[]⟩
noncomputable def ko700 (P : Params) : Obj := ⟨(.type "function"), none, (.func ⟨(Str.ofString "need_open"), (Str.ofString "Check.need_open"), fArgs (inAt 38 4), .stmts (fBody (inAt 38 4)), fScope (inAt 38 4), 3, [], .none, .none, .none, (.str (Str.ofString "scheme.corecheck") 1595), none, (.ref 699), .none, 0⟩), #[]⟩
noncomputable def ko702 (P : Params) : Obj := ⟨(.type "dict"), none, (.dict #[⟨PyData.keyHash P (Str.ofString "__module__"), (.str (Str.ofString "__module__") 1608), (.str (Str.ofString "scheme.corecheck") 1595)⟩, ⟨PyData.keyHash P (Str.ofString "__firstlineno__"), (.str (Str.ofString "__firstlineno__") 1612), (.int 178 1611)⟩, ⟨PyData.keyHash P (Str.ofString "__init__"), (.str (Str.ofString "__init__") 1619), (.ref 672)⟩, ⟨PyData.keyHash P (Str.ofString "bind"), (.str (Str.ofString "bind") 1627), (.ref 679)⟩, ⟨PyData.keyHash P (Str.ofString "begin"), (.str (Str.ofString "begin") 1636), (.ref 686)⟩, ⟨PyData.keyHash P (Str.ofString "end"), (.str (Str.ofString "end") 1645), (.ref 693)⟩, ⟨PyData.keyHash P (Str.ofString "need_open"), (.str (Str.ofString "need_open") 1653), (.ref 700)⟩, ⟨PyData.keyHash P (Str.ofString "__static_attributes__"), (.str (Str.ofString "__static_attributes__") 1657), (.ref 701)⟩, ⟨PyData.keyHash P (Str.ofString "__dict__"), (.str (Str.ofString "__dict__") 1659), (.ref 704)⟩, ⟨PyData.keyHash P (Str.ofString "__weakref__"), (.str (Str.ofString "__weakref__") 1661), (.ref 705)⟩, ⟨PyData.keyHash P (Str.ofString "__doc__"), (.str (Str.ofString "__doc__") 1662), .none⟩] 4), #[]⟩
noncomputable def ko703 (P : Params) : Obj := ⟨(.type "type"), none, (.cls ⟨(Str.ofString "Check"), [(.type "object")], [(.ref 703), (.type "object")], 702, (Str.ofString "Check"), true, [], [], false, none, false⟩), #[none, none, (some (.str (Str.ofString "Check") 1601)), (some (.str (Str.ofString "Check") 1609)), (some (.builtin "object.__new__")), (some (.bool true))]⟩
noncomputable def ko713 (P : Params) : Obj := ⟨(.type "code"), none, (.fields #[(.str (Str.ofString "need_operands") 1665), (.str (Str.ofString "need_operands") 1666), (.str (Str.ofString "/claim/cut.py") 1667), (.int 208 0), (.int 1 0), (.int 0 0), (.int 0 0), (.int 3 0), (.ref 708), (.bool true), (.int 181 0), (.ref 709), .none, (.ref 710), (.ref 711), (.ref 712), (.int 1671 0), (.int 208 0), (.str (Str.ofString "/claim/cut.py") 1672)]), #[]⟩
noncomputable def ko714 (P : Params) : Obj := ⟨(.type "function"), none, (.func ⟨(Str.ofString "need_operands"), (Str.ofString "need_operands"), fArgs (stAt 39), .stmts (fBody (stAt 39)), fScope (stAt 39), 3, [], .none, .none, .none, (.str (Str.ofString "scheme.corecheck") 1595), none, (.ref 713), .none, 0⟩), #[]⟩
noncomputable def ko720 (P : Params) : Obj := ⟨(.type "code"), none, (.fields #[(.str (Str.ofString "need_fix") 1674), (.str (Str.ofString "need_fix") 1675), (.str (Str.ofString "/claim/cut.py") 1676), (.int 215 0), (.int 1 0), (.int 0 0), (.int 0 0), (.int 3 0), (.ref 715), (.bool true), (.int 181 0), (.ref 716), .none, (.ref 717), (.ref 718), (.ref 719), (.int 1679 0), (.int 215 0), (.str (Str.ofString "/claim/cut.py") 1680)]), #[]⟩
noncomputable def ko721 (P : Params) : Obj := ⟨(.type "function"), none, (.func ⟨(Str.ofString "need_fix"), (Str.ofString "need_fix"), fArgs (stAt 40), .stmts (fBody (stAt 40)), fScope (stAt 40), 3, [], .none, .none, .none, (.str (Str.ofString "scheme.corecheck") 1595), none, (.ref 720), .none, 0⟩), #[]⟩
noncomputable def ko727 (P : Params) : Obj := ⟨(.type "code"), none, (.fields #[(.str (Str.ofString "look_at") 1682), (.str (Str.ofString "look_at") 1683), (.str (Str.ofString "/claim/cut.py") 1684), (.int 221 0), (.int 3 0), (.int 0 0), (.int 0 0), (.int 3 0), (.ref 722), (.bool true), (.int 181 0), (.ref 723), .none, (.ref 724), (.ref 725), (.ref 726), (.int 1688 0), (.int 221 0), (.str (Str.ofString "/claim/cut.py") 1689)]), #[]⟩
noncomputable def ko728 (P : Params) : Obj := ⟨(.type "function"), none, (.func ⟨(Str.ofString "look_at"), (Str.ofString "look_at"), fArgs (stAt 41), .stmts (fBody (stAt 41)), fScope (stAt 41), 3, [], .none, .none, .none, (.str (Str.ofString "scheme.corecheck") 1595), none, (.ref 727), .none, 0⟩), #[]⟩
noncomputable def ko734 (P : Params) : Obj := ⟨(.type "code"), none, (.fields #[(.str (Str.ofString "look_through") 1691), (.str (Str.ofString "look_through") 1692), (.str (Str.ofString "/claim/cut.py") 1693), (.int 241 0), (.int 2 0), (.int 0 0), (.int 0 0), (.int 3 0), (.ref 729), (.bool true), (.int 181 0), (.ref 730), .none, (.ref 731), (.ref 732), (.ref 733), (.int 1702 0), (.int 241 0), (.str (Str.ofString "/claim/cut.py") 1703)]), #[]⟩
noncomputable def ko735 (P : Params) : Obj := ⟨(.type "function"), none, (.func ⟨(Str.ofString "look_through"), (Str.ofString "look_through"), fArgs (stAt 42), .stmts (fBody (stAt 42)), fScope (stAt 42), 3, [], .none, .none, .none, (.str (Str.ofString "scheme.corecheck") 1595), none, (.ref 734), .none, 0⟩), #[]⟩
noncomputable def ko741 (P : Params) : Obj := ⟨(.type "code"), none, (.fields #[(.str (Str.ofString "check_core") 1705), (.str (Str.ofString "check_core") 1706), (.str (Str.ofString "/claim/cut.py") 1707), (.int 254 0), (.int 1 0), (.int 0 0), (.int 0 0), (.int 3 0), (.ref 736), (.bool true), (.int 181 0), (.ref 737), .none, (.ref 738), (.ref 739), (.ref 740), (.int 1709 0), (.int 254 0), (.str (Str.ofString "/claim/cut.py") 1710)]), #[]⟩
noncomputable def ko742 (P : Params) : Obj := ⟨(.type "function"), none, (.func ⟨(Str.ofString "check_core"), (Str.ofString "check_core"), fArgs (stAt 43), .stmts (fBody (stAt 43)), fScope (stAt 43), 3, [], .none, .none, .none, (.str (Str.ofString "scheme.corecheck") 1595), none, (.ref 741), .none, 0⟩), #[]⟩
noncomputable def ko748 (P : Params) : Obj := ⟨(.type "code"), none, (.fields #[(.str (Str.ofString "check_program") 1712), (.str (Str.ofString "check_program") 1713), (.str (Str.ofString "/claim/cut.py") 1714), (.int 256 0), (.int 1 0), (.int 0 0), (.int 0 0), (.int 3 0), (.ref 743), (.bool true), (.int 181 0), (.ref 744), .none, (.ref 745), (.ref 746), (.ref 747), (.int 1718 0), (.int 256 0), (.str (Str.ofString "/claim/cut.py") 1719)]), #[]⟩
noncomputable def ko749 (P : Params) : Obj := ⟨(.type "function"), none, (.func ⟨(Str.ofString "check_program"), (Str.ofString "check_program"), fArgs (stAt 44), .stmts (fBody (stAt 44)), fScope (stAt 44), 3, [], .none, .none, .none, (.str (Str.ofString "scheme.corecheck") 1595), none, (.ref 748), .none, 0⟩), #[]⟩
noncomputable def ko755 (P : Params) : Obj := ⟨(.type "code"), none, (.fields #[(.str (Str.ofString "_law_draw") 1723), (.str (Str.ofString "_law_draw") 1724), (.str (Str.ofString "/claim/cut.py") 1725), (.int 261 0), (.int 2 0), (.int 0 0), (.int 0 0), (.int 3 0), (.ref 750), (.bool true), (.int 181 0), (.ref 751), .none, (.ref 752), (.ref 753), (.ref 754), (.int 1729 0), (.int 261 0), (.str (Str.ofString "/claim/cut.py") 1730)]), #[]⟩
noncomputable def ko756 (P : Params) : Obj := ⟨(.type "function"), none, (.func ⟨(Str.ofString "_law_draw"), (Str.ofString "_law_draw"), fArgs (stAt 46), .stmts (fBody (stAt 46)), fScope (stAt 46), 3, [], .none, .none, .none, (.str (Str.ofString "law_nt0182_01") 1721), none, (.ref 755), .none, 0⟩), #[]⟩
noncomputable def ko760 (P : Params) : Obj := ⟨(.type "code"), none, (.fields #[(.str (Str.ofString "_law_deck_of") 1732), (.str (Str.ofString "_law_deck_of") 1733), (.str (Str.ofString "/claim/cut.py") 1734), (.int 269 0), (.int 1 0), (.int 0 0), (.int 0 0), (.int 3 0), (.ref 757), (.bool true), (.int 181 0), (.ref 758), .none, .none, .none, (.ref 759), (.int 1735 0), (.int 269 0), (.str (Str.ofString "/claim/cut.py") 1736)]), #[]⟩
noncomputable def ko761 (P : Params) : Obj := ⟨(.type "function"), none, (.func ⟨(Str.ofString "_law_deck_of"), (Str.ofString "_law_deck_of"), fArgs (stAt 47), .stmts (fBody (stAt 47)), fScope (stAt 47), 3, [], .none, .none, .none, (.str (Str.ofString "law_nt0182_01") 1721), none, (.ref 760), .none, 0⟩), #[]⟩
noncomputable def ko767 (P : Params) : Obj := ⟨(.type "code"), none, (.fields #[(.str (Str.ofString "_law_one") 1738), (.str (Str.ofString "_law_one") 1739), (.str (Str.ofString "/claim/cut.py") 1740), (.int 271 0), (.int 2 0), (.int 0 0), (.int 0 0), (.int 3 0), (.ref 762), (.bool true), (.int 181 0), (.ref 763), .none, (.ref 764), (.ref 765), (.ref 766), (.int 1743 0), (.int 271 0), (.str (Str.ofString "/claim/cut.py") 1744)]), #[]⟩
noncomputable def ko768 (P : Params) : Obj := ⟨(.type "function"), none, (.func ⟨(Str.ofString "_law_one"), (Str.ofString "_law_one"), fArgs (stAt 48), .stmts (fBody (stAt 48)), fScope (stAt 48), 3, [], .none, .none, .none, (.str (Str.ofString "law_nt0182_01") 1721), none, (.ref 767), .none, 0⟩), #[]⟩
noncomputable def ko774 (P : Params) : Obj := ⟨(.type "code"), none, (.fields #[(.str (Str.ofString "_law_new") 1746), (.str (Str.ofString "_law_new") 1747), (.str (Str.ofString "/claim/cut.py") 1748), (.int 273 0), (.int 2 0), (.int 0 0), (.int 0 0), (.int 3 0), (.ref 769), (.bool true), (.int 181 0), (.ref 770), .none, (.ref 771), (.ref 772), (.ref 773), (.int 1751 0), (.int 273 0), (.str (Str.ofString "/claim/cut.py") 1752)]), #[]⟩
noncomputable def ko775 (P : Params) : Obj := ⟨(.type "function"), none, (.func ⟨(Str.ofString "_law_new"), (Str.ofString "_law_new"), fArgs (stAt 49), .stmts (fBody (stAt 49)), fScope (stAt 49), 3, [], .none, .none, .none, (.str (Str.ofString "law_nt0182_01") 1721), none, (.ref 774), .none, 0⟩), #[]⟩
noncomputable def ko781 (P : Params) : Obj := ⟨(.type "code"), none, (.fields #[(.str (Str.ofString "_law_bind") 1754), (.str (Str.ofString "_law_bind") 1755), (.str (Str.ofString "/claim/cut.py") 1756), (.int 276 0), (.int 3 0), (.int 0 0), (.int 0 0), (.int 3 0), (.ref 776), (.bool true), (.int 181 0), (.ref 777), .none, (.ref 778), (.ref 779), (.ref 780), (.int 1761 0), (.int 276 0), (.str (Str.ofString "/claim/cut.py") 1762)]), #[]⟩
noncomputable def ko782 (P : Params) : Obj := ⟨(.type "function"), none, (.func ⟨(Str.ofString "_law_bind"), (Str.ofString "_law_bind"), fArgs (stAt 50), .stmts (fBody (stAt 50)), fScope (stAt 50), 3, [], .none, .none, .none, (.str (Str.ofString "law_nt0182_01") 1721), none, (.ref 781), .none, 0⟩), #[]⟩
noncomputable def ko786 (P : Params) : Obj := ⟨(.type "code"), none, (.fields #[(.str (Str.ofString "_law_lam") 1764), (.str (Str.ofString "_law_lam") 1765), (.str (Str.ofString "/claim/cut.py") 1766), (.int 281 0), (.int 4 0), (.int 0 0), (.int 0 0), (.int 3 0), (.ref 783), (.bool true), (.int 181 0), (.ref 784), .none, .none, .none, (.ref 785), (.int 1767 0), (.int 281 0), (.str (Str.ofString "/claim/cut.py") 1768)]), #[]⟩
noncomputable def ko787 (P : Params) : Obj := ⟨(.type "function"), none, (.func ⟨(Str.ofString "_law_lam"), (Str.ofString "_law_lam"), fArgs (stAt 51), .stmts (fBody (stAt 51)), fScope (stAt 51), 3, [], .none, .none, .none, (.str (Str.ofString "law_nt0182_01") 1721), none, (.ref 786), .none, 0⟩), #[]⟩
noncomputable def ko791 (P : Params) : Obj := ⟨(.type "code"), none, (.fields #[(.str (Str.ofString "_law_fix") 1770), (.str (Str.ofString "_law_fix") 1771), (.str (Str.ofString "/claim/cut.py") 1772), (.int 287 0), (.int 4 0), (.int 0 0), (.int 0 0), (.int 3 0), (.ref 788), (.bool true), (.int 181 0), (.ref 789), .none, .none, .none, (.ref 790), (.int 1773 0), (.int 287 0), (.str (Str.ofString "/claim/cut.py") 1774)]), #[]⟩
noncomputable def ko792 (P : Params) : Obj := ⟨(.type "function"), none, (.func ⟨(Str.ofString "_law_fix"), (Str.ofString "_law_fix"), fArgs (stAt 52), .stmts (fBody (stAt 52)), fScope (stAt 52), 3, [], .none, .none, .none, (.str (Str.ofString "law_nt0182_01") 1721), none, (.ref 791), .none, 0⟩), #[]⟩
noncomputable def ko796 (P : Params) : Obj := ⟨(.type "code"), none, (.fields #[(.str (Str.ofString "_law_node_of") 1776), (.str (Str.ofString "_law_node_of") 1777), (.str (Str.ofString "/claim/cut.py") 1778), (.int 296 0), (.int 4 0), (.int 0 0), (.int 0 0), (.int 3 0), (.ref 793), (.bool true), (.int 181 0), (.ref 794), .none, .none, .none, (.ref 795), (.int 1779 0), (.int 296 0), (.str (Str.ofString "/claim/cut.py") 1780)]), #[]⟩
noncomputable def ko797 (P : Params) : Obj := ⟨(.type "function"), none, (.func ⟨(Str.ofString "_law_node_of"), (Str.ofString "_law_node_of"), fArgs (stAt 53), .stmts (fBody (stAt 53)), fScope (stAt 53), 3, [], .none, .none, .none, (.str (Str.ofString "law_nt0182_01") 1721), none, (.ref 796), .none, 0⟩), #[]⟩
noncomputable def ko803 (P : Params) : Obj := ⟨(.type "code"), none, (.fields #[(.str (Str.ofString "_law_is_prim") 1782), (.str (Str.ofString "_law_is_prim") 1783), (.str (Str.ofString "/claim/cut.py") 1784), (.int 321 0), (.int 1 0), (.int 0 0), (.int 0 0), (.int 3 0), (.ref 798), (.bool true), (.int 181 0), (.ref 799), .none, (.ref 800), (.ref 801), (.ref 802), (.int 1788 0), (.int 321 0), (.str (Str.ofString "/claim/cut.py") 1789)]), #[]⟩
noncomputable def ko804 (P : Params) : Obj := ⟨(.type "function"), none, (.func ⟨(Str.ofString "_law_is_prim"), (Str.ofString "_law_is_prim"), fArgs (stAt 54), .stmts (fBody (stAt 54)), fScope (stAt 54), 3, [], .none, .none, .none, (.str (Str.ofString "law_nt0182_01") 1721), none, (.ref 803), .none, 0⟩), #[]⟩
noncomputable def ko810 (P : Params) : Obj := ⟨(.type "code"), none, (.fields #[(.str (Str.ofString "_law_once") 1791), (.str (Str.ofString "_law_once") 1792), (.str (Str.ofString "/claim/cut.py") 1793), (.int 326 0), (.int 2 0), (.int 0 0), (.int 0 0), (.int 3 0), (.ref 805), (.bool true), (.int 181 0), (.ref 806), .none, (.ref 807), (.ref 808), (.ref 809), (.int 1797 0), (.int 326 0), (.str (Str.ofString "/claim/cut.py") 1798)]), #[]⟩
noncomputable def ko811 (P : Params) : Obj := ⟨(.type "function"), none, (.func ⟨(Str.ofString "_law_once"), (Str.ofString "_law_once"), fArgs (stAt 55), .stmts (fBody (stAt 55)), fScope (stAt 55), 3, [], .none, .none, .none, (.str (Str.ofString "law_nt0182_01") 1721), none, (.ref 810), .none, 0⟩), #[]⟩
noncomputable def ko815 (P : Params) : Obj := ⟨(.type "code"), none, (.fields #[(.str (Str.ofString "_law_is_fine") 1800), (.str (Str.ofString "_law_is_fine") 1801), (.str (Str.ofString "/claim/cut.py") 1802), (.int 332 0), (.int 5 0), (.int 0 0), (.int 0 0), (.int 3 0), (.ref 812), (.bool true), (.int 181 0), (.ref 813), .none, .none, .none, (.ref 814), (.int 1803 0), (.int 332 0), (.str (Str.ofString "/claim/cut.py") 1804)]), #[]⟩
noncomputable def ko816 (P : Params) : Obj := ⟨(.type "function"), none, (.func ⟨(Str.ofString "_law_is_fine"), (Str.ofString "_law_is_fine"), fArgs (stAt 56), .stmts (fBody (stAt 56)), fScope (stAt 56), 3, [], .none, .none, .none, (.str (Str.ofString "law_nt0182_01") 1721), none, (.ref 815), .none, 0⟩), #[]⟩
noncomputable def ko822 (P : Params) : Obj := ⟨(.type "code"), none, (.fields #[(.str (Str.ofString "_law_is_let_through") 1806), (.str (Str.ofString "_law_is_let_through") 1807), (.str (Str.ofString "/claim/cut.py") 1808), (.int 353 0), (.int 2 0), (.int 0 0), (.int 0 0), (.int 3 0), (.ref 817), (.bool true), (.int 181 0), (.ref 818), .none, (.ref 819), (.ref 820), (.ref 821), (.int 1811 0), (.int 353 0), (.str (Str.ofString "/claim/cut.py") 1812)]), #[]⟩
noncomputable def ko823 (P : Params) : Obj := ⟨(.type "function"), none, (.func ⟨(Str.ofString "_law_is_let_through"), (Str.ofString "_law_is_let_through"), fArgs (stAt 57), .stmts (fBody (stAt 57)), fScope (stAt 57), 3, [], .none, .none, .none, (.str (Str.ofString "law_nt0182_01") 1721), none, (.ref 822), .none, 0⟩), #[]⟩
noncomputable def ko827 (P : Params) : Obj := ⟨(.type "code"), none, (.fields #[(.str (Str.ofString "law") 1814), (.str (Str.ofString "law") 1815), (.str (Str.ofString "/claim/cut.py") 1816), (.int 359 0), (.int 1 0), (.int 0 0), (.int 0 0), (.int 3 0), (.ref 824), (.bool true), (.int 181 0), (.ref 825), .none, .none, .none, (.ref 826), (.int 1817 0), (.int 359 0), (.str (Str.ofString "/claim/cut.py") 1818)]), #[]⟩
noncomputable def ko828 (P : Params) : Obj := ⟨(.type "function"), none, (.func ⟨(Str.ofString "law"), (Str.ofString "law"), fArgs (stAt 58), .stmts (fBody (stAt 58)), fScope (stAt 58), 3, [], .none, .none, .none, (.str (Str.ofString "law_nt0182_01") 1721), none, (.ref 827), .none, 0⟩), #[]⟩
noncomputable def KK (P : Params) : Frag := (nat_lit 2, ko2 P) :: (nat_lit 3, ko3 P) :: (nat_lit 9, ko9 P) :: (nat_lit 13, ko13 P) :: (nat_lit 20, ko20 P) :: (nat_lit 21, ko21 P) :: (nat_lit 24, ko24 P) :: (nat_lit 27, ko27 P) :: (nat_lit 34, ko34 P) :: (nat_lit 35, ko35 P) :: (nat_lit 41, ko41 P) :: (nat_lit 42, ko42 P) :: (nat_lit 44, ko44 P) :: (nat_lit 45, ko45 P) :: (nat_lit 52, ko52 P) :: (nat_lit 55, ko55 P) :: (nat_lit 62, ko62 P) :: (nat_lit 63, ko63 P) :: (nat_lit 65, ko65 P) :: (nat_lit 66, ko66 P) :: (nat_lit 71, ko71 P) :: (nat_lit 74, ko74 P) :: (nat_lit 81, ko81 P) :: (nat_lit 82, ko82 P) :: (nat_lit 84, ko84 P) :: (nat_lit 85, ko85 P) :: (nat_lit 90, ko90 P) :: (nat_lit 93, ko93 P) :: (nat_lit 100, ko100 P) :: (nat_lit 101, ko101 P) :: (nat_lit 103, ko103 P) :: (nat_lit 104, ko104 P) :: (nat_lit 109, ko109 P) :: (nat_lit 112, ko112 P) :: (nat_lit 119, ko119 P) :: (nat_lit 120, ko120 P) :: (nat_lit 126, ko126 P) :: (nat_lit 127, ko127 P) :: (nat_lit 133, ko133 P) :: (nat_lit 134, ko134 P) :: (nat_lit 136, ko136 P) :: (nat_lit 137, ko137 P) :: (nat_lit 142, ko142 P) :: (nat_lit 145, ko145 P) :: (nat_lit 152, ko152 P) :: (nat_lit 153, ko153 P) :: (nat_lit 159, ko159 P) :: (nat_lit 160, ko160 P) :: (nat_lit 166, ko166 P) :: (nat_lit 167, ko167 P) :: (nat_lit 169, ko169 P) :: (nat_lit 170, ko170 P) :: (nat_lit 175, ko175 P) :: (nat_lit 178, ko178 P) :: (nat_lit 185, ko185 P) :: (nat_lit 186, ko186 P) :: (nat_lit 192, ko192 P) :: (nat_lit 193, ko193 P) :: (nat_lit 199, ko199 P) :: (nat_lit 200, ko200 P) :: (nat_lit 202, ko202 P) :: (nat_lit 203, ko203 P) :: (nat_lit 208, ko208 P) :: (nat_lit 211, ko211 P) :: (nat_lit 218, ko218 P) :: (nat_lit 219, ko219 P) :: (nat_lit 225, ko225 P) :: (nat_lit 226, ko226 P) :: (nat_lit 232, ko232 P) :: (nat_lit 233, ko233 P) :: (nat_lit 235, ko235 P) :: (nat_lit 236, ko236 P) :: (nat_lit 241, ko241 P) :: (nat_lit 244, ko244 P) :: (nat_lit 251, ko251 P) :: (nat_lit 252, ko252 P) :: (nat_lit 258, ko258 P) :: (nat_lit 259, ko259 P) :: (nat_lit 265, ko265 P) :: (nat_lit 266, ko266 P) :: (nat_lit 272, ko272 P) :: (nat_lit 273, ko273 P) :: (nat_lit 279, ko279 P) :: (nat_lit 280, ko280 P) :: (nat_lit 282, ko282 P) :: (nat_lit 283, ko283 P) :: (nat_lit 288, ko288 P) :: (nat_lit 291, ko291 P) :: (nat_lit 298, ko298 P) :: (nat_lit 299, ko299 P) :: (nat_lit 305, ko305 P) :: (nat_lit 306, ko306 P) :: (nat_lit 312, ko312 P) :: (nat_lit 313, ko313 P) :: (nat_lit 315, ko315 P) :: (nat_lit 316, ko316 P) :: (nat_lit 321, ko321 P) :: (nat_lit 324, ko324 P) :: (nat_lit 331, ko331 P) :: (nat_lit 332, ko332 P) :: (nat_lit 338, ko338 P) :: (nat_lit 339, ko339 P) :: (nat_lit 345, ko345 P) :: (nat_lit 346, ko346 P) :: (nat_lit 348, ko348 P) :: (nat_lit 349, ko349 P) :: (nat_lit 354, ko354 P) :: (nat_lit 357, ko357 P) :: (nat_lit 364, ko364 P) :: (nat_lit 365, ko365 P) :: (nat_lit 371, ko371 P) :: (nat_lit 372, ko372 P) :: (nat_lit 378, ko378 P) :: (nat_lit 379, ko379 P) :: (nat_lit 381, ko381 P) :: (nat_lit 382, ko382 P) :: (nat_lit 387, ko387 P) :: (nat_lit 390, ko390 P) :: (nat_lit 397, ko397 P) :: (nat_lit 398, ko398 P) :: (nat_lit 404, ko404 P) :: (nat_lit 405, ko405 P) :: (nat_lit 411, ko411 P) :: (nat_lit 412, ko412 P) :: (nat_lit 414, ko414 P) :: (nat_lit 415, ko415 P) :: (nat_lit 423, ko423 P) :: (nat_lit 424, ko424 P) :: (nat_lit 427, ko427 P) :: (nat_lit 430, ko430 P) :: (nat_lit 437, ko437 P) :: (nat_lit 438, ko438 P) :: (nat_lit 440, ko440 P) :: (nat_lit 441, ko441 P) :: (nat_lit 643, ko643 P) :: (nat_lit 644, ko644 P) :: (nat_lit 650, ko650 P) :: (nat_lit 651, ko651 P) :: (nat_lit 657, ko657 P) :: (nat_lit 658, ko658 P) :: (nat_lit 661, ko661 P) :: (nat_lit 664, ko664 P) :: (nat_lit 671, ko671 P) :: (nat_lit 672, ko672 P) :: (nat_lit 678, ko678 P) :: (nat_lit 679, ko679 P) :: (nat_lit 685, ko685 P) :: (nat_lit 686, ko686 P) :: (nat_lit 692, ko692 P) :: (nat_lit 693, ko693 P) :: (nat_lit 699, ko699 P) :: (nat_lit 700, ko700 P) :: (nat_lit 702, ko702 P) :: (nat_lit 703, ko703 P) :: (nat_lit 713, ko713 P) :: (nat_lit 714, ko714 P) :: (nat_lit 720, ko720 P) :: (nat_lit 721, ko721 P) :: (nat_lit 727, ko727 P) :: (nat_lit 728, ko728 P) :: (nat_lit 734, ko734 P) :: (nat_lit 735, ko735 P) :: (nat_lit 741, ko741 P) :: (nat_lit 742, ko742 P) :: (nat_lit 748, ko748 P) :: (nat_lit 749, ko749 P) :: (nat_lit 755, ko755 P) :: (nat_lit 756, ko756 P) :: (nat_lit 760, ko760 P) :: (nat_lit 761, ko761 P) :: (nat_lit 767, ko767 P) :: (nat_lit 768, ko768 P) :: (nat_lit 774, ko774 P) :: (nat_lit 775, ko775 P) :: (nat_lit 781, ko781 P) :: (nat_lit 782, ko782 P) :: (nat_lit 786, ko786 P) :: (nat_lit 787, ko787 P) :: (nat_lit 791, ko791 P) :: (nat_lit 792, ko792 P) :: (nat_lit 796, ko796 P) :: (nat_lit 797, ko797 P) :: (nat_lit 803, ko803 P) :: (nat_lit 804, ko804 P) :: (nat_lit 810, ko810 P) :: (nat_lit 811, ko811 P) :: (nat_lit 815, ko815 P) :: (nat_lit 816, ko816 P) :: (nat_lit 822, ko822 P) :: (nat_lit 823, ko823 P) :: (nat_lit 827, ko827 P) :: (nat_lit 828, ko828 P) :: []
/-- the table's rows as the top lays them: a row's names and numbers are read off the text -/
noncomputable def primElts : List PySem.Expr := match stAt 31 with | .Assign _ (.Tuple es _ _) _ => es | _ => []
noncomputable def constVals : List PySem.Expr → Tok → List Value × Tok
  | [], t => ([], t)
  | e :: r, t => match e with
    | .Constant (.int i) _ _ => (.int i t :: (constVals r (t + 1)).1, (constVals r (t + 1)).2)
    | .Constant (.str s) _ _ => (.str s t :: (constVals r (t + 1)).1, (constVals r (t + 1)).2)
    | .UnaryOp .USub (.Constant (.int i) _ _) _ => (.int (-i) (t + 1) :: (constVals r (t + 2)).1, (constVals r (t + 2)).2)
    | _ => ([], t)
noncomputable def rowsVals : List PySem.Expr → Tok → List (List Value)
  | [], _ => []
  | e :: r, t => match e with
    | .Tuple es _ _ => (constVals es t).1 :: rowsVals r (constVals es t).2
    | _ => []
noncomputable def primVals (i : Nat) : List Value := match (rowsVals primElts 786)[i]? with | some l => l | none => []
noncomputable def primObj (i : Nat) : Obj := { cls := .type "tuple", data := .seq (primVals i).toArray }
noncomputable def primRows : Obj := { cls := .type "tuple", data := .seq ((List.range 192).map fun i => Value.ref (445 + i)).toArray }
noncomputable def KP : Frag := (637, primRows) :: (List.range 192).map fun i => (445 + i, primObj i)
noncomputable def KPA : List Addr := 637 :: (List.range 192).map fun i => 445 + i
theorem KPA_eq : KPA = KP.map (·.1) := by kernel_rfl
noncomputable def KA : List Addr := [nat_lit 2, nat_lit 3, nat_lit 9, nat_lit 13, nat_lit 20, nat_lit 21, nat_lit 24, nat_lit 27, nat_lit 34, nat_lit 35, nat_lit 41, nat_lit 42, nat_lit 44, nat_lit 45, nat_lit 52, nat_lit 55, nat_lit 62, nat_lit 63, nat_lit 65, nat_lit 66, nat_lit 71, nat_lit 74, nat_lit 81, nat_lit 82, nat_lit 84, nat_lit 85, nat_lit 90, nat_lit 93, nat_lit 100, nat_lit 101, nat_lit 103, nat_lit 104, nat_lit 109, nat_lit 112, nat_lit 119, nat_lit 120, nat_lit 126, nat_lit 127, nat_lit 133, nat_lit 134, nat_lit 136, nat_lit 137, nat_lit 142, nat_lit 145, nat_lit 152, nat_lit 153, nat_lit 159, nat_lit 160, nat_lit 166, nat_lit 167, nat_lit 169, nat_lit 170, nat_lit 175, nat_lit 178, nat_lit 185, nat_lit 186, nat_lit 192, nat_lit 193, nat_lit 199, nat_lit 200, nat_lit 202, nat_lit 203, nat_lit 208, nat_lit 211, nat_lit 218, nat_lit 219, nat_lit 225, nat_lit 226, nat_lit 232, nat_lit 233, nat_lit 235, nat_lit 236, nat_lit 241, nat_lit 244, nat_lit 251, nat_lit 252, nat_lit 258, nat_lit 259, nat_lit 265, nat_lit 266, nat_lit 272, nat_lit 273, nat_lit 279, nat_lit 280, nat_lit 282, nat_lit 283, nat_lit 288, nat_lit 291, nat_lit 298, nat_lit 299, nat_lit 305, nat_lit 306, nat_lit 312, nat_lit 313, nat_lit 315, nat_lit 316, nat_lit 321, nat_lit 324, nat_lit 331, nat_lit 332, nat_lit 338, nat_lit 339, nat_lit 345, nat_lit 346, nat_lit 348, nat_lit 349, nat_lit 354, nat_lit 357, nat_lit 364, nat_lit 365, nat_lit 371, nat_lit 372, nat_lit 378, nat_lit 379, nat_lit 381, nat_lit 382, nat_lit 387, nat_lit 390, nat_lit 397, nat_lit 398, nat_lit 404, nat_lit 405, nat_lit 411, nat_lit 412, nat_lit 414, nat_lit 415, nat_lit 423, nat_lit 424, nat_lit 427, nat_lit 430, nat_lit 437, nat_lit 438, nat_lit 440, nat_lit 441, nat_lit 643, nat_lit 644, nat_lit 650, nat_lit 651, nat_lit 657, nat_lit 658, nat_lit 661, nat_lit 664, nat_lit 671, nat_lit 672, nat_lit 678, nat_lit 679, nat_lit 685, nat_lit 686, nat_lit 692, nat_lit 693, nat_lit 699, nat_lit 700, nat_lit 702, nat_lit 703, nat_lit 713, nat_lit 714, nat_lit 720, nat_lit 721, nat_lit 727, nat_lit 728, nat_lit 734, nat_lit 735, nat_lit 741, nat_lit 742, nat_lit 748, nat_lit 749, nat_lit 755, nat_lit 756, nat_lit 760, nat_lit 761, nat_lit 767, nat_lit 768, nat_lit 774, nat_lit 775, nat_lit 781, nat_lit 782, nat_lit 786, nat_lit 787, nat_lit 791, nat_lit 792, nat_lit 796, nat_lit 797, nat_lit 803, nat_lit 804, nat_lit 810, nat_lit 811, nat_lit 815, nat_lit 816, nat_lit 822, nat_lit 823, nat_lit 827, nat_lit 828]
end
end Mine

open PySem PySem.W PyProof.Rows
set_option Elab.async false
namespace Mine
noncomputable section
set_option maxRecDepth 100000
set_option linter.unusedVariables false
noncomputable def KB : List Addr := KA ++ KPA
noncomputable def KQ (P : Params) : Frag := KK P ++ KP
theorem KB_eq (P : Params) : KB = (KQ P).map (·.1) := by kernel_rfl
theorem KA_eq (P : Params) : KA = (KK P).map (·.1) := by kernel_rfl
noncomputable def T0 (P : Params) : BT := (.node (PySem.W.boot_o_0 P) (.node (PySem.W.boot_o_1 P) (.node (PySem.W.boot_o_3 P) (.node (PySem.W.boot_o_7 P) .nil .nil) .nil) (.node (PySem.W.boot_o_5 P) (.node (PySem.W.boot_o_9 P) .nil .nil) .nil)) (.node (PySem.W.boot_o_2 P) (.node (PySem.W.boot_o_4 P) (.node (PySem.W.boot_o_8 P) .nil .nil) .nil) (.node (PySem.W.boot_o_6 P) (.node (PySem.W.boot_o_10 P) .nil .nil) .nil)))
noncomputable def S0 (w : World) (os : OsState) : SharedT := ⟨T0 w.params, 11, (boot_heap w.params).life, #[], boot_drawn, boot_toks, os⟩
theorem S0_abs (w : World) (os : OsState) : (S0 w os).abs = ⟨boot_heap w.params, #[], boot_drawn, boot_toks, os⟩ := by kernel_rfl
/-- the top's run over trees, its two steps handed in -/
noncomputable def goG (ok : Nat → Option Value → Thread → Bool) (st : SharedT → Thread → Option (SharedT × Thread)) (n₀ : Nat) (ann : Option Value) : Nat → SharedT → Thread → Option SharedT
  | 0, _, _ => none
  | n + 1, s, t => match through t with
    | true => some s
    | false => match ok n₀ ann t with
      | false => none
      | true => match st s t with
        | some (s', t') => goG ok st n₀ ann n s' t'
        | none => none
theorem goG_run {p : Program} {w : World} {n₀ : Nat} {ann : Option Value} : ∀ {n : Nat} {s s' : SharedT} {t : Thread}, goG stepOk (stepT (denote treeTable) p w) n₀ ann n s t = some s' → topRun treeTable p w n₀ ann n s.abs t = some s'.abs
  | 0, _, _, _, h => by cases h
  | n + 1, s, s', t, h => by
    unfold goG at h
    unfold topRun
    cases he : through t with
    | true => rw [he] at h; cases h; rfl
    | false =>
      rw [he] at h
      cases hk : stepOk n₀ ann t with
      | false => rw [hk] at h; cases h
      | true =>
        rw [hk] at h
        cases hs : stepT (denote treeTable) p w s t with
        | none => rw [hs] at h; cases h
        | some r => obtain ⟨s₂, t₂⟩ := r; rw [hs] at h; rw [stepT_spec hs]; exact goG_run h
noncomputable def qq : Program := { pw with main := { pw.main with body := pw.main.body.drop 58 } }
noncomputable def dl : DefRec := ((defOf qq (Str.ofString "law")).map (·.1)).getD ⟨default, default, default, default, default⟩
noncomputable def loose0 : List Str := pw.main.scope.names.map (·.1) |>.filter fun x => x != Str.ofString "law"
noncomputable def lookB (H₀ : Heap) (s : Shared) : Bool := staticsOk (importedModules pw.main.body) H₀ s.heap && namesBound pw s.heap && gensDone s && laidKept H₀ s.heap
abbrev fT := PySem.W.Fast.tw10156331382660048174
abbrev fOk := PySem.W.Fast.tw6613529449190102663
abbrev fDen := PySem.W.Fast.tw11892475500146522536
abbrev fTab := PySem.W.Fast.tw14364793385576792824
abbrev fSeen := PySem.W.Fast.tw4187177175401517315
noncomputable def ann0 (w : World) : Option Value := (boot_heap w.params).nsMap mainGlobals "__annotations__"
noncomputable def absLook (s : SharedT) (a : Addr) : Option Obj := (s.tree.get a).bind alive
theorem absLook_get {s : SharedT} {n : Nat} {as : List Addr} {K : Frag} (hn : s.n = n) (ha : as.all (fun a => Nat.blt a n) = true) (h : as.map (absLook s) = K.map fun p => some p.2) : as.map s.abs.heap.get? = K.map fun p => some p.2 := by
  rw [← h]
  refine List.map_congr_left fun a hm => ?_
  have lt : a < s.n := by rw [hn]; exact Nat.le_of_ble_eq_true (List.all_eq_true.mp ha a hm)
  have hs : absLook s a ∈ K.map fun p => some p.2 := h ▸ List.mem_map_of_mem hm
  obtain ⟨p, _, hp⟩ := List.mem_map.mp hs
  unfold absLook at hp ⊢
  cases g : s.tree.get a with
  | none => rw [g] at hp; cases hp
  | some o =>
    show (absHeap s.tree s.n s.life).get? a = _
    rw [abs_get lt g]; rfl
theorem left_of {p q : Program} {loose : List Str} {m₀ : Nat} {ann : World → Option Value} {H₀ : Params → Heap} {d₀ : Drawn} {k₀ M n : Nat} {S : World → OsState → SharedT} {as : List Addr} {K : Params → Frag}
    (open_ : ∀ w : World, (fencedOpening treeTable p w M).map (fun s => (s.heap, s.gens, s.drawn, s.toks)) = some (H₀ w.params, #[], d₀, k₀))
    (size : ∀ w : World, ((H₀ w.params).isNs mainGlobals && (#[] : Array GenState).size == 0, (H₀ w.params).objs.size, (H₀ w.params).nsMap mainGlobals "__annotations__") = (true, m₀, ann w))
    (abs : ∀ (w : World) (os : OsState), (S w os).abs = ⟨H₀ w.params, #[], d₀, k₀, os⟩) (ha : as.all (fun a => Nat.blt a n) = true)
    (run : ∀ (w : World) (os : OsState), (goG stepOk (stepT (denote treeTable) p w) m₀ (ann w) M (S w os) (topStub p)).map
      (fun s => (s.n, staticsOk (importedModules p.main.body) (H₀ w.params) s.abs.heap && namesBound p s.abs.heap && gensDone s.abs && laidKept (H₀ w.params) s.abs.heap, openSeen q loose (importedModules p.main.body) (fun _ => true) true s.abs, as.map (absLook s))) =
      some (n, true, openGood q loose, (K w.params).map fun p => some p.2)) :
    LeftO p q loose (fun _ => true) (fun s => as.map s.heap.get?) (fun w => (K w.params).map fun p => some p.2) M := fun w => by
  obtain ⟨⟨h, gs, d, k, os⟩, e, e'⟩ := Option.map_eq_some_iff.mp (open_ w)
  obtain ⟨rfl, rfl, rfl, rfl⟩ : h = H₀ w.params ∧ gs = #[] ∧ d = d₀ ∧ k = k₀ := by simpa using e'
  obtain ⟨z1, z2, z3⟩ : _ ∧ _ ∧ _ := by simpa only [Prod.mk.injEq] using size w
  obtain ⟨sT, r1, r2⟩ := Option.map_eq_some_iff.mp (run w os)
  obtain ⟨hn, l1, l2, l3⟩ : _ ∧ _ ∧ _ ∧ _ := by simpa only [Prod.mk.injEq] using r2
  have r := goG_run r1
  rw [abs] at r
  have t : topFrom treeTable p w M ⟨H₀ w.params, #[], d, k, os⟩ = some sT.abs := by
    unfold topFrom
    dsimp only
    rw [z1, z2, z3, r]
    show (match staticsOk (importedModules p.main.body) (H₀ w.params) sT.abs.heap && namesBound p sT.abs.heap && gensDone sT.abs && laidKept (H₀ w.params) sT.abs.heap with | true => _ | false => _) = _
    rw [l1]
  unfold openEnds
  rw [e]
  show (topFrom treeTable p w M _).map _ = _
  rw [t]
  exact congrArg some (Prod.ext l2 (absLook_get hn ha l3))
end
end Mine

open PySem PySem.W PyProof.Rows
set_option Elab.async false
namespace Mine
noncomputable section
set_option maxRecDepth 100000
set_option linter.unusedVariables false
set_option maxHeartbeats 0 in
theorem bigrun (w : World) (os : OsState) : (goG fOk (fT (fDen fTab) pw w) 11 (ann0 w) 14000 (S0 w os) (topStub pw)).map
      (fun s => (s.n, staticsOk (importedModules pw.main.body) (boot_heap w.params) s.abs.heap && namesBound pw s.abs.heap && gensDone s.abs && laidKept (boot_heap w.params) s.abs.heap, fSeen qq loose0 (importedModules pw.main.body) (fun _ => true) true s.abs, KB.map (absLook s))) =
    some (829, true, openGood qq loose0, (KQ w.params).map fun p => some p.2) := by
  kernel_rfl
end
end Mine

open PySem PySem.W PyProof.Rows
set_option Elab.async false
namespace Mine
noncomputable section
set_option maxRecDepth 100000
set_option linter.unusedVariables false
theorem turn {ok ok' : Nat → Option Value → Thread → Bool} {st st' : (Code → Sem Fin) → Program → World → SharedT → Thread → Option (SharedT × Thread)} {dn dn' : (String → Option Builtin) → Code → Sem Fin} {tb tb' : String → Option Builtin}
    {τ : Type} {sn sn' : Program → List Str → List Str → (Shared → Bool) → Bool → Shared → τ} (e1 : ok = ok') (e2 : st = st') (e3 : dn = dn') (e4 : tb = tb') (e5 : sn = sn') {p q : Program} {w : World} {m : Nat} {ann : Option Value} {M : Nat} {S : SharedT} {t : Thread} {loose mods : List Str} {X : Shared → Bool} {g : Bool} {α β γ : Type} {f : SharedT → α} {f1 : SharedT → β} {f2 : SharedT → γ} {r}
    (h : (goG ok' (st' (dn' tb') p w) m ann M S t).map (fun s => (f s, f1 s, sn' q loose mods X g s.abs, f2 s)) = r) : (goG ok (st (dn tb) p w) m ann M S t).map (fun s => (f s, f1 s, sn q loose mods X g s.abs, f2 s)) = r := by
  subst e1 e2 e3 e4 e5; exact h
theorem bigrun' (w : World) (os : OsState) : (goG stepOk (stepT (denote treeTable) pw w) 11 (ann0 w) 14000 (S0 w os) (topStub pw)).map
      (fun s => (s.n, staticsOk (importedModules pw.main.body) (boot_heap w.params) s.abs.heap && namesBound pw s.abs.heap && gensDone s.abs && laidKept (boot_heap w.params) s.abs.heap, openSeen qq loose0 (importedModules pw.main.body) (fun _ => true) true s.abs, KB.map (absLook s))) =
    some (829, true, openGood qq loose0, (KQ w.params).map fun p => some p.2) :=
  turn (sn := openSeen) (sn' := fSeen) PySem.W.Fast.te6613529449190102663 PySem.W.Fast.te10156331382660048174 PySem.W.Fast.te11892475500146522536 PySem.W.Fast.te14364793385576792824 PySem.W.Fast.te4187177175401517315 (bigrun w os)
theorem size0 (w : World) : ((boot_heap w.params).isNs mainGlobals && (#[] : Array GenState).size == 0, (boot_heap w.params).objs.size, (boot_heap w.params).nsMap mainGlobals "__annotations__") = (true, 11, ann0 w) := by
  kernel_rfl
theorem open0 (w : World) : (fencedOpening treeTable pw w 14000).map (fun s => (s.heap, s.gens, s.drawn, s.toks)) = some (boot_heap w.params, #[], boot_drawn, boot_toks) :=
  boot_open (p := pw) (N := 14000) (by kernel_rfl) (by kernel_rfl) (fun _ => by kernel_rfl) w
theorem left1 : LeftO pw qq loose0 (fun _ => true) (fun s => KB.map s.heap.get?) (fun w => (KQ w.params).map fun p => some p.2) 14000 :=
  left_of (n := 829) open0 size0 S0_abs (by kernel_rfl) bigrun'
end
end Mine

open PySem PySem.W PyProof.Rows
set_option Elab.async false
namespace Mine
noncomputable section
set_option maxRecDepth 100000
set_option linter.unusedVariables false
abbrev lw : OpenLaw := PySem.Challenge.rw_nt0182_01
theorem said1 : lw.wellSaid = true := by kernel_rfl
theorem hdef1 : defOf qq lw.row.name = some (dl, []) := by kernel_rfl
theorem hp1 : lw.row.prog.theDef lw.row.name = some (dl.params, dl.body, dl.scope) := by kernel_rfl
theorem hk1 : kwWritten? dl.params.kwonlyargs dl.params.kw_defaults = some [] := by kernel_rfl
theorem ok1 : (chainsOk qq && opensWell lw.row.prog && (frees lw.row.toRowW && lw.row.within.isEmpty)) = true := by kernel_rfl
theorem wit1 : lw.row.toRowW.promised := ⟨[.list []], by decide +kernel, by decide +kernel⟩
/-- both parts of the top's heap -/
def Tops (w : World) (h : Heap) : Prop := (KK w.params).In h ∧ KP.In h
theorem map_split {as bs : List Addr} {K L : Frag} {g : Addr → Option Obj} (ha : as.length = K.length) (h : (as ++ bs).map g = (K ++ L).map fun p => some p.2) : as.map g = K.map (fun p => some p.2) ∧ bs.map g = L.map fun p => some p.2 := by
  rw [List.map_append, List.map_append] at h
  exact List.append_inj h (by simpa using ha)
theorem KA_len (P : Params) : KA.length = (KK P).length := by kernel_rfl
theorem tops_of (w : World) (s : Shared) (e : KB.map s.heap.get? = (KQ w.params).map fun p => some p.2) : Tops w s.heap :=
  have z := map_split (KA_len w.params) e
  ⟨Frag.in_of (KA_eq w.params) z.1, Frag.in_of KPA_eq z.2⟩
abbrev WalkLaw : Prop := WalkO qq loose0 (fun _ _ => True) Tops lw.row.toRowW dl [] (fun f vs => PySem.call f vs)
theorem hd (call : WalkLaw) : lw.Holds := by
  refine holds_law said1 fun k1 => ?_
  exact holds_open (r := lw.row) (q := qq) (loose := loose0) (Xt := fun _ => true) (XP := fun _ _ => True) (YP := Tops) (d := dl) (kwd := []) (N := 14000)
    left1 tops_of (fun w h h' x k => ⟨x.1.keeps k, x.2.keeps k⟩) (fun _ _ => trivial) (fun _ _ _ _ _ => trivial) hdef1 hp1 hk1 (fun _ _ => recFacts_nil rfl) rfl k1 ok1
    ⟨rfl, rfl, rfl, rfl, rfl, by decide +kernel⟩ wit1 call
end
end Mine

open PySem PySem.W PyProof.Rows
set_option Elab.async false
namespace Mine
set_option maxRecDepth 100000
structure Prims (h : Heap) : Prop where
  at_ : KP.In h
/-- a contract of a called def: for the ledger `news` and the arguments `vs`, what comes back -/
def Spec (w : World) (f : Addr) (dm um : Nat) (vs : List Value) (news : List (Addr × Obj)) (R X : Value → List (Addr × Obj) → Prop) : Prop :=
  ∀ (dp un : Nat) (gd : Option (List Code)) (cn : Str) (cs : Scope) (a : Addr) (ccd : Value) (cl : List (Str × Addr)) (outer : List Env) (A₀ : Around) (base h₀ : Heap) (L : Addr) (m : Str → Option Value) (s : Shared)
    (Q E : Value → Shared → Prop) (p : Program) (loose : List Str) (mean : ExcName → Option Value) (mg mb : Str → Option Value),
    Below A₀ base outer h₀ → Fr h₀ L s.heap m → (KK w.params).In h₀ → Prims h₀ → News h₀ L s.heap news → Top p loose mean mg mb h₀ → cs.kind = .function → dp + dm < recursionLimit → un + um < cLine →
    (∀ r news' h' tk', Fr h₀ L h' m → News h₀ L h' news' → R r news' → Q r { s with heap := h', toks := tk' }) →
    (∀ e news' h' tk', Fr h₀ L h' m → News h₀ L h' news' → X e news' → E e { s with heap := h', toks := tk' }) →
    wpAny (model lw.row.prog w) (ktrTop dp un gd cn cs L a ccd cl outer) (call (.ref f) vs) Q E s
def NoX (_ : Value) (_ : List (Addr × Obj)) : Prop := False
end Mine

open PySem PySem.W PyProof.Rows
set_option Elab.async false
set_option linter.unusedVariables false
namespace Mine
set_option maxRecDepth 100000
/-! two places of one frame -/
theorem up12 {L : Nat} : L + 1 ≠ L + 2 := Nat.ne_of_lt (Nat.add_lt_add_left (by decide) L)
theorem up13 {L : Nat} : L + 1 ≠ L + 3 := Nat.ne_of_lt (Nat.add_lt_add_left (by decide) L)
theorem up14 {L : Nat} : L + 1 ≠ L + 4 := Nat.ne_of_lt (Nat.add_lt_add_left (by decide) L)
theorem up15 {L : Nat} : L + 1 ≠ L + 5 := Nat.ne_of_lt (Nat.add_lt_add_left (by decide) L)
/-! rooms: the depth and the units that a call leaves -/
theorem room1 {dp D d k lim : Nat} (h : dp + D < lim) (e : Nat.ble (d + k) D = true) : dp + d + k < lim := by
  have := Nat.le_of_ble_eq_true e
  omega
theorem room3 {dp X D d k lim : Nat} (h : dp + (X + D) < lim) (e : Nat.ble (d + k) D = true) : dp + d + (X + k) < lim := by
  have := Nat.le_of_ble_eq_true e
  omega
theorem room4 {dp X D d lim : Nat} (h : dp + (X + D) < lim) (e : Nat.ble d D = true) : dp + d + X < lim := by
  have := Nat.le_of_ble_eq_true e
  omega
theorem room5 {dp X D c lim : Nat} (h : dp + (X + D) < lim) (hx : c ≤ X) : dp + c < lim := by omega
theorem room6 {dp X c lim : Nat} (h : dp + X < lim) (hx : c ≤ X) : dp + c < lim := by omega
theorem room0 {dp D lim : Nat} (h : dp + D < lim) : dp < lim := Nat.lt_of_le_of_lt (Nat.le_add_right _ _) h
theorem room2 {dp D d lim : Nat} (h : dp + D < lim) (e : Nat.ble d D = true) : dp + d < lim := Nat.lt_of_le_of_lt (Nat.add_le_add_left (Nat.le_of_ble_eq_true e) _) h
/-! a body's end and its errors behind names: what a walk carries on is one letter -/
noncomputable def KAt (K : Flow → Shared → Prop) (f : Flow) (s : Shared) : Prop := K f s
structure KHyp (K Q : Flow → Shared → Prop) : Prop where
  out : ∀ f s, Q f s → K f s
theorem KAt.of {K Q : Flow → Shared → Prop} {f : Flow} {s : Shared} (h : KHyp K Q) (x : Q f s) : KAt K f s := h.out f s x
theorem enterQ {M : Model} {A : Around} {t : Sem Flow} {Q : Flow → Shared → Prop} {E : Value → Shared → Prop} {s : Shared} (h : ∀ K, KHyp K Q → wpAny M A t (KAt K) (fun _ _ => False) s) : wpAny M A t Q E s := wpAny_mono (h Q ⟨fun _ _ x => x⟩) (fun _ _ x => x) fun _ _ x => x.elim
theorem enterQE {M : Model} {A : Around} {t : Sem Flow} {Q : Flow → Shared → Prop} {E : Value → Shared → Prop} {s : Shared} (h : ∀ K, KHyp K Q → wpAny M A t (KAt K) E s) : wpAny M A t Q E s := h Q ⟨fun _ _ x => x⟩
theorem ints_cases {vs : List Value} {ns : List Int} (h : IntsAre vs ns) : (vs = [] ∧ ns = []) ∨ ∃ x t vs' ns', vs = .int x t :: vs' ∧ ns = x :: ns' ∧ IntsAre vs' ns' := by
  cases h with
  | nil => exact .inl ⟨rfl, rfl⟩
  | cons x t h => exact .inr ⟨x, t, _, _, rfl, rfl, h⟩
theorem newsSub {h₀ h : Heap} {L : Addr} {news news' : List (Addr × Obj)} (N : News h₀ L h news) (hs : ∀ p ∈ news', p ∈ news) : News h₀ L h news' := fun p hp => N p (hs p hp)
/-- an entry taken out of a ledger -/
inductive Pick (q : Addr × Obj) : List (Addr × Obj) → List (Addr × Obj) → Prop
  | head {r} : Pick q (q :: r) r
  | tail {p r r'} : Pick q r r' → Pick q (p :: r) (p :: r')
  | app {l r r'} : Pick q r r' → Pick q (l ++ r) (l ++ r')
theorem Pick.sub {q : Addr × Obj} {l r : List (Addr × Obj)} (h : Pick q l r) : ∀ p ∈ q :: r, p ∈ l := by
  induction h with
  | head => exact fun _ h => h
  | tail _ ih =>
    intro p hp
    rcases List.mem_cons.mp hp with rfl | hp
    · exact .tail _ (ih _ (.head _))
    · rcases List.mem_cons.mp hp with rfl | hp
      · exact .head _
      · exact .tail _ (ih _ (.tail _ hp))
  | app _ ih =>
    intro p hp
    rcases List.mem_cons.mp hp with rfl | hp
    · exact List.mem_append_right _ (ih _ (.head _))
    · rcases List.mem_append.mp hp with hp | hp
      · exact List.mem_append_left _ hp
      · exact List.mem_append_right _ (ih _ (.tail _ hp))
theorem Pick.front {h₀ h : Heap} {L : Addr} {q : Addr × Obj} {l r : List (Addr × Obj)} (P : Pick q l r) (N : News h₀ L h l) : News h₀ L h (q :: r) := newsSub N P.sub
theorem Pick.front2 {h₀ h : Heap} {L : Addr} {q q' : Addr × Obj} {l r r' : List (Addr × Obj)} (P : Pick q l r) (P' : Pick q' r r') (N : News h₀ L h l) : News h₀ L h (q :: q' :: r') :=
  newsSub N fun p hp => by
    rcases List.mem_cons.mp hp with rfl | hp
    · exact P.sub _ (.head _)
    · exact P.sub _ (.tail _ (P'.sub _ hp))
/-- what stands below an address -/
theorem ne_of_allLt {a : Addr} : ∀ {l : List (Addr × Obj)}, AllLt a l → ∀ p ∈ l, p.1 ≠ a
  | [], _, _, h => nomatch h
  | q :: r, h, p, hp => by
    rcases List.mem_cons.mp hp with rfl | hp
    · exact Nat.ne_of_lt h.1
    · exact ne_of_allLt h.2 p hp
theorem ne_of_below {a : Addr} {l : List (Addr × Obj)} (h : ∀ p ∈ l, p.1 < a) : ∀ p ∈ l, p.1 ≠ a := fun p hp => Nat.ne_of_lt (h p hp)
theorem Upd.app {d : Addr} {o o' : Obj} {x l l' : List (Addr × Obj)} (h : ∀ p ∈ x, p.1 ≠ d) (U : Upd d o o' l l') : Upd d o o' (x ++ l) (x ++ l') := by
  induction x with
  | nil => exact U
  | cons q x ih => exact .tail (h q (.head _)) (ih fun p hp => h p (.tail _ hp))
theorem allLt_mem {a : Addr} : ∀ {l : List (Addr × Obj)}, AllLt a l → ∀ p ∈ l, p.1 < a
  | [], _, _, h => nomatch h
  | q :: r, h, p, hp => by
    rcases List.mem_cons.mp hp with rfl | hp
    · exact h.1
    · exact allLt_mem h.2 p hp
theorem allLt_sub {a : Addr} {l l' : List (Addr × Obj)} (h : AllLt a l) (s : ∀ q ∈ l', q ∈ l) : AllLt a l' := allLt_of fun q hq => allLt_mem h q (s q hq)
/-- what a call has made lies apart from what stood -/
noncomputable def Above2 (d e : Addr) (l x : List (Addr × Obj)) : Prop := ∀ p ∈ x, (@Ne Nat p.1 d ∧ @Ne Nat p.1 e) ∧ ∀ q ∈ l, q.1 ≠ p.1
theorem Above2.nil {d e : Addr} {l : List (Addr × Obj)} : Above2 d e l [] := fun _ h => nomatch h
theorem Above2.app {d e : Addr} {l x y : List (Addr × Obj)} (h : Above2 d e l x) (k : Above2 d e l y) : Above2 d e l (x ++ y) := List.forall_mem_append.mpr ⟨h, k⟩
theorem Above2.sub {d e : Addr} {l l' x : List (Addr × Obj)} (h : Above2 d e l x) (s : ∀ q ∈ l', q ∈ l) : Above2 d e l' x := fun p hp => ⟨(h p hp).1, fun q hq => (h p hp).2 q (s q hq)⟩
theorem Above2.ne {d e a : Addr} {o : Obj} {l x : List (Addr × Obj)} (h : Above2 d e l x) (hm : (a, o) ∈ l) : ∀ p ∈ x, p.1 ≠ a := fun p hp => Ne.symm ((h p hp).2 _ hm)
theorem Above2.ne1 {d e : Addr} {l x : List (Addr × Obj)} (h : Above2 d e l x) : ∀ p ∈ x, p.1 ≠ d := fun p hp => (h p hp).1.1
theorem Above2.ne2 {d e : Addr} {l x : List (Addr × Obj)} (h : Above2 d e l x) : ∀ p ∈ x, p.1 ≠ e := fun p hp => (h p hp).1.2
theorem ne_sub {a : Addr} {l l' : List (Addr × Obj)} (h : ∀ p ∈ l, p.1 ≠ a) (s : ∀ p ∈ l', p ∈ l) : ∀ p ∈ l', p.1 ≠ a := fun p hp => h p (s p hp)
open Classical in
/-- a ledger's entries that lie apart from two cells and from what stood -/
noncomputable def Fresh (d e : Addr) (l news : List (Addr × Obj)) : List (Addr × Obj) := news.filter fun p => decide ((@Ne Nat p.1 d ∧ @Ne Nat p.1 e) ∧ ∀ q ∈ l, q.1 ≠ p.1)
theorem fresh_above {d e : Addr} {l news : List (Addr × Obj)} : Above2 d e l (Fresh d e l news) := fun p hp => by
  unfold Fresh at hp
  exact of_decide_eq_true (List.mem_filter.mp hp).2
theorem fresh_in {d e : Addr} {l news : List (Addr × Obj)} : ∀ p ∈ Fresh d e l news, p ∈ news := fun p hp => by
  unfold Fresh at hp
  exact (List.mem_filter.mp hp).1
theorem mem_fresh {d e a : Addr} {o : Obj} {l news : List (Addr × Obj)} (hm : (a, o) ∈ news) (h1 : @Ne Nat a d) (h2 : @Ne Nat a e) (h3 : ∀ q ∈ l, q.1 ≠ a) : (a, o) ∈ Fresh d e l news := by
  unfold Fresh
  exact List.mem_filter.mpr ⟨hm, decide_eq_true ⟨⟨h1, h2⟩, h3⟩⟩
theorem sub_fresh {d e : Addr} {l news x : List (Addr × Obj)} (hs : ∀ p ∈ x, p ∈ news) (h : Above2 d e l x) : ∀ p ∈ x, p ∈ Fresh d e l news := fun p hp => mem_fresh (hs p hp) (h p hp).1.1 (h p hp).1.2 (h p hp).2
/-- what a call has made, laid behind the written entries -/
inductive Mid (x : List (Addr × Obj)) : List (Addr × Obj) → List (Addr × Obj) → Prop
  | base {r} : Mid x r (x ++ r)
  | cons {p r r'} : Mid x r r' → Mid x (p :: r) (p :: r')
theorem Mid.sub {x l l' : List (Addr × Obj)} (M : Mid x l l') : ∀ p ∈ l', p ∈ x ++ l := by
  induction M with
  | base => exact fun _ h => h
  | cons _ ih =>
    intro p hp
    rcases List.mem_cons.mp hp with rfl | hp
    · exact List.mem_append_right _ (.head _)
    · rcases List.mem_append.mp (ih p hp) with hp | hp
      · exact List.mem_append_left _ hp
      · exact List.mem_append_right _ (.tail _ hp)
theorem Mid.news2 {x l l' : List (Addr × Obj)} {q q' : Addr × Obj} {h₀ h : Heap} {L : Addr} (M : Mid x l l') (N : News h₀ L h (q :: q' :: (x ++ l))) : News h₀ L h (q :: q' :: l') := newsSub N fun p hp => by
  rcases List.mem_cons.mp hp with rfl | hp
  · exact .head _
  · rcases List.mem_cons.mp hp with rfl | hp
    · exact .tail _ (.head _)
    · exact .tail _ (.tail _ (M.sub p hp))
section
variable {prog : Program} {w : World} {A : Around} {E : Value → Shared → Prop} {s : Shared} {h₀ : Heap} {L : Addr} {m : Str → Option Value} {news news' : List (Addr × Obj)}
theorem item_at {value slice : PySem.Expr} {l : Addr} {vs : List Value} {n : Nat} {k : Int} {u : Tok} {v : Value} {Q : Value → Shared → Prop}
    (N : News h₀ L s.heap news) (hm : (l, listOf vs.toArray n) ∈ news) (h0 : 0 ≤ k) (hhi : k < 2 ^ 63) (hx : vs[k.toNat]? = some v) (h : Q v s)
    (hs : subscripted slice false (.ref l) (.int k u) = operate [.ref l, .int k u] (getItem (.ref l) (.int k u)) := by with_unfolding_all rfl) :
    wpAny (model prog w) A (subscriptTail value slice (.ref l) (.int k u)) Q E s := by
  have hl : s.heap.IsList l vs.toArray := ⟨_, (N _ hm).1, rfl, _, rfl⟩
  exact tail_any hl.typeIs slot_list_getitem.lookup (wpAny_getItem_list hl h0 hhi (by simpa using hx) h) hs
theorem pop0 {D : Addr} {y : Value} {q : List Value} {n : Nat} {u : Tok} {Q : Value → Shared → Prop} (F : Fr h₀ L s.heap m) (N : News h₀ L s.heap news) (U : Upd D (listOf (y :: q).toArray n) (listOf q.toArray (n + 1)) news news') (hz : q.length < 1000000)
    (h : ∀ h', Fr h₀ L h' m → News h₀ L h' news' → Q y { s with heap := h' }) : wpAny (model prog w) A (call (.builtin "list.pop") [.ref D, .int 0 u]) Q E s :=
  kl_popAt (k := 0) (p := []) (y := y) (q := q) F N rfl (by simp [seqIndex?]) rfl U (by show (y :: q).length ≤ sizeLine; rw [sizeLine_eq, List.length_cons]; omega) h
end
theorem Prims.keeps {h h' : Heap} (x : Prims h) (k : ∀ b o, h.get? b = some o → h'.get? b = some o) : Prims h' := ⟨x.at_.keeps k⟩
theorem Spec.use {w : World} {f : Addr} {dm um : Nat} {vs : List Value} {news : List (Addr × Obj)} {R X : Value → List (Addr × Obj) → Prop} (S : Spec w f dm um vs news R X)
    {dp un : Nat} {gd : Option (List Code)} {cn : Str} {cs : Scope} {a : Addr} {ccd : Value} {cl : List (Str × Addr)} {outer : List Env} {A₀ : Around} {base h₀ : Heap} {L : Addr} {m : Str → Option Value} {s : Shared}
    {Q E : Value → Shared → Prop} {p : Program} {loose : List Str} {mean : ExcName → Option Value} {mg mb : Str → Option Value}
    (B : Below A₀ base outer h₀) (F : Fr h₀ L s.heap m) (K : (KK w.params).In h₀) (P : Prims h₀) (N : News h₀ L s.heap news) (T : Top p loose mean mg mb h₀) (hk : cs.kind = .function) (hd : dp + dm < recursionLimit) (hu : un + um < cLine)
    (ret : ∀ r news' h' tk', Fr h₀ L h' m → News h₀ L h' news' → R r news' → Q r { s with heap := h', toks := tk' })
    (err : ∀ e news' h' tk', Fr h₀ L h' m → News h₀ L h' news' → X e news' → E e { s with heap := h', toks := tk' }) :
    wpAny (model lw.row.prog w) (ktrTop dp un gd cn cs L a ccd cl outer) (call (.ref f) vs) Q E s := S _ _ _ _ _ _ _ _ _ _ _ _ _ _ _ _ _ _ _ _ _ _ B F K P N T hk hd hu ret err
/-- a comprehension's turns by an invariant over the ledger -/
theorem compRest_of {prog : Program} {w : World} {A : Around} {h₀ : Heap} {L : Addr} {m : Str → Option Value} {env : Env} {elt : PySem.Expr} {x : Str} {scope : Scope} {cl : List (Str × Addr)} {s : Shared} {S : List (Addr × Obj) → Prop} {P : Nat → Value → Prop}
    {Fin : List Value → List (Addr × Obj) → Prop} (J : Nat → List Value → List (Addr × Obj) → Prop) {n : Nat} {news₀ : List (Addr × Obj)} (init : J 0 [] news₀)
    (turn : ∀ i ys news, i < n → J i ys news → ∀ v I oI C oC D m₂ h tk (E' : Value → Shared → Prop), P i v → LCg.NsObj oC m₂ → m₂ x = some v → Fr h₀ L h m → News h₀ L h ((I, oI) :: (C, oC) :: (D, LCg.lst ys) :: news) → LCg.Off3 I C D news → ((@Ne Nat I C) ∧ (@Ne Nat I D) ∧ (@Ne Nat C D)) →
      wpAny (model prog w) A (eval elt (compEnvC scope cl C env)) (LCg.CompEnd h₀ L m { s with heap := h, toks := tk } I oI C oC D (LCg.lst ys) S (fun y news' => J (i + 1) (ys ++ [y]) news')) E' { s with heap := h, toks := tk })
    (fin : ∀ ys news, J n ys news → Fin ys news) : LCg.CompRest prog w A h₀ L m env elt x scope cl s S P Fin n 0 [] news₀ := by
  have all : ∀ k i ys news, i + k = n → J i ys news → LCg.CompRest prog w A h₀ L m env elt x scope cl s S P Fin k i ys news := by
    intro k
    induction k with
    | zero => intro i ys news hi hJ; exact .zero (fin _ _ (by rw [show n = i by omega]; exact hJ))
    | succ k ih =>
      intro i ys news hi hJ
      refine .succ fun v I oI C oC D m₂ h tk E' hP hC hx F N off ne => ?_
      refine wpAny_mono (turn i ys news (by omega) hJ v I oI C oC D m₂ h tk E' hP hC hx F N off ne) (fun y s₂ hE => ?_) fun _ _ e => e
      obtain ⟨h', tk', news', e, F', N', o', hS, hr⟩ := hE
      exact ⟨h', tk', news', e, F', N', o', hS, ih _ _ _ (by omega) hr⟩
  exact all n 0 [] news₀ (by omega) init
theorem off3_of {I C D : Addr} {l : List (Addr × Obj)} (h1 : ∀ p ∈ l, p.1 ≠ I) (h2 : ∀ p ∈ l, p.1 ≠ C) (h3 : ∀ p ∈ l, p.1 ≠ D) : LCg.Off3 I C D l := LCg.Off3.of fun p hp => ⟨h1 p hp, h2 p hp, h3 p hp⟩
theorem off3_ne {I C D : Addr} {l : List (Addr × Obj)} (h : LCg.Off3 I C D l) : (∀ p ∈ l, p.1 ≠ I) ∧ (∀ p ∈ l, p.1 ≠ C) ∧ (∀ p ∈ l, p.1 ≠ D) := ⟨fun p hp => (h.mem p hp).1, fun p hp => (h.mem p hp).2.1, fun p hp => (h.mem p hp).2.2⟩
theorem off1_ne {D : Addr} {l : List (Addr × Obj)} (h : LCg.Off1 D l) : ∀ p ∈ l, p.1 ≠ D := by
  induction l with
  | nil => exact fun _ h => nomatch h
  | cons q l ih => exact List.forall_mem_cons.mpr ⟨h.1, ih h.2⟩
theorem ints_snoc {vs : List Value} {ns : List Int} {k : Int} {t : Tok} (h : IntsAre vs ns) : IntsAre (vs ++ [.int k t]) (ns ++ [k]) := by
  induction h with
  | nil => exact .cons k t .nil
  | cons x t' _ ih => exact .cons x t' ih
theorem cells_cons {cm : Str → Option Value} {n : Str} {c : Addr} {r : List (Str × Addr)} {cells : List (Addr × Obj)} (x : CellsAre cm ((n, c) :: r) cells) : ∃ o cs, cells = (c, o) :: cs ∧ o.data = .cell (cm n) ∧ CellsAre cm r cs := by
  cases x with | cons h r => exact ⟨_, _, rfl, h, r⟩
theorem cells_nil {cm : Str → Option Value} {cells : List (Addr × Obj)} (x : CellsAre cm [] cells) : cells = [] := by
  cases x; rfl
theorem cells_five {cm : Str → Option Value} {n₁ n₂ n₃ n₄ n₅ : Str} {c₁ c₂ c₃ c₄ c₅ : Addr} {cells : List (Addr × Obj)} (x : CellsAre cm [(n₁, c₁), (n₂, c₂), (n₃, c₃), (n₄, c₄), (n₅, c₅)] cells) :
    ∃ o₁ o₂ o₃ o₄ o₅, cells = [(c₁, o₁), (c₂, o₂), (c₃, o₃), (c₄, o₄), (c₅, o₅)] ∧ o₁.data = .cell (cm n₁) ∧ o₂.data = .cell (cm n₂) ∧ o₃.data = .cell (cm n₃) ∧ o₄.data = .cell (cm n₄) ∧ o₅.data = .cell (cm n₅) := by
  obtain ⟨o₁, cs, rfl, h1, x⟩ := cells_cons x
  obtain ⟨o₂, cs, rfl, h2, x⟩ := cells_cons x
  obtain ⟨o₃, cs, rfl, h3, x⟩ := cells_cons x
  obtain ⟨o₄, cs, rfl, h4, x⟩ := cells_cons x
  obtain ⟨o₅, cs, rfl, h5, x⟩ := cells_cons x
  cases cells_nil x
  exact ⟨_, _, _, _, _, rfl, h1, h2, h3, h4, h5⟩
theorem cells_two {cm : Str → Option Value} {n₁ n₂ : Str} {c₁ c₂ : Addr} {cells : List (Addr × Obj)} (x : CellsAre cm [(n₁, c₁), (n₂, c₂)] cells) :
    ∃ o₁ o₂, cells = [(c₁, o₁), (c₂, o₂)] ∧ o₁.data = .cell (cm n₁) ∧ o₂.data = .cell (cm n₂) := by
  obtain ⟨o₁, cs, rfl, h1, x⟩ := cells_cons x
  obtain ⟨o₂, cs, rfl, h2, x⟩ := cells_cons x
  cases cells_nil x
  exact ⟨_, _, rfl, h1, h2⟩
theorem cells_three {cm : Str → Option Value} {n₁ n₂ n₃ : Str} {c₁ c₂ c₃ : Addr} {cells : List (Addr × Obj)} (x : CellsAre cm [(n₁, c₁), (n₂, c₂), (n₃, c₃)] cells) :
    ∃ o₁ o₂ o₃, cells = [(c₁, o₁), (c₂, o₂), (c₃, o₃)] ∧ o₁.data = .cell (cm n₁) ∧ o₂.data = .cell (cm n₂) ∧ o₃.data = .cell (cm n₃) := by
  obtain ⟨o₁, cs, rfl, h1, x⟩ := cells_cons x
  obtain ⟨o₂, cs, rfl, h2, x⟩ := cells_cons x
  obtain ⟨o₃, cs, rfl, h3, x⟩ := cells_cons x
  cases cells_nil x
  exact ⟨_, _, _, rfl, h1, h2, h3⟩
theorem cells_four {cm : Str → Option Value} {n₁ n₂ n₃ n₄ : Str} {c₁ c₂ c₃ c₄ : Addr} {cells : List (Addr × Obj)} (x : CellsAre cm [(n₁, c₁), (n₂, c₂), (n₃, c₃), (n₄, c₄)] cells) :
    ∃ o₁ o₂ o₃ o₄, cells = [(c₁, o₁), (c₂, o₂), (c₃, o₃), (c₄, o₄)] ∧ o₁.data = .cell (cm n₁) ∧ o₂.data = .cell (cm n₂) ∧ o₃.data = .cell (cm n₃) ∧ o₄.data = .cell (cm n₄) := by
  obtain ⟨o₁, cs, rfl, h1, x⟩ := cells_cons x
  obtain ⟨o₂, cs, rfl, h2, x⟩ := cells_cons x
  obtain ⟨o₃, cs, rfl, h3, x⟩ := cells_cons x
  obtain ⟨o₄, cs, rfl, h4, x⟩ := cells_cons x
  cases cells_nil x
  exact ⟨_, _, _, _, rfl, h1, h2, h3, h4⟩
theorem cellSome {o : Obj} {x : Option Value} {v : Value} (h : o.data = .cell x) (e : x = some v) : o.data = .cell (some v) := by rw [h, e]
/-- what stood when a frame with cells was laid -/
noncomputable def CellsOff (b : Addr) (l : List (Addr × Obj)) : Prop := ∀ p ∈ l, p.1 < b
theorem CellsOff.ne {a b : Addr} {l l' : List (Addr × Obj)} (h : CellsOff b l) (hb : @LE.le Nat _ b a) (s : ∀ p ∈ l', p ∈ l) : ∀ p ∈ l', p.1 ≠ a := fun p hp => Nat.ne_of_lt (Nat.lt_of_lt_of_le (h p (s p hp)) hb)
theorem AllLt.neL {a b : Addr} {o : Obj} {l : List (Addr × Obj)} (h : AllLt b l) (hm : (a, o) ∈ l) : @Ne Nat a b := ne_of_allLt h _ hm
theorem AllLt.neR {a b : Addr} {o : Obj} {l : List (Addr × Obj)} (h : AllLt b l) (hm : (a, o) ∈ l) : @Ne Nat b a := Ne.symm (ne_of_allLt h _ hm)
theorem AllLt.neS {a : Addr} {l l' : List (Addr × Obj)} (h : AllLt a l) (s : ∀ p ∈ l', p ∈ l) : ∀ p ∈ l', p.1 ≠ a := ne_sub (ne_of_allLt h) s
theorem Off1.neL {a b : Addr} {o : Obj} {l : List (Addr × Obj)} (h : LCg.Off1 b l) (hm : (a, o) ∈ l) : @Ne Nat a b := off1_ne h _ hm
theorem Off1.neR {a b : Addr} {o : Obj} {l : List (Addr × Obj)} (h : LCg.Off1 b l) (hm : (a, o) ∈ l) : @Ne Nat b a := Ne.symm (off1_ne h _ hm)
theorem Off1.neS {a : Addr} {l l' : List (Addr × Obj)} (h : LCg.Off1 a l) (s : ∀ p ∈ l', p ∈ l) : ∀ p ∈ l', p.1 ≠ a := ne_sub (off1_ne h) s
theorem CellsOff.neL {a b c : Addr} {o : Obj} {l : List (Addr × Obj)} (h : CellsOff c l) (hm : (a, o) ∈ l) (hb : @LE.le Nat _ c b) : @Ne Nat a b := Nat.ne_of_lt (Nat.lt_of_lt_of_le (h _ hm) hb)
theorem CellsOff.neR {a b c : Addr} {o : Obj} {l : List (Addr × Obj)} (h : CellsOff c l) (hm : (a, o) ∈ l) (hb : @LE.le Nat _ c b) : @Ne Nat b a := Ne.symm (CellsOff.neL h hm hb)
/-- inequalities of addresses, hid from omega -/
noncomputable def NeA (a b : Addr) : Prop := @Ne Nat a b
theorem NeA.out {a b : Addr} (h : NeA a b) : @Ne Nat a b := h
theorem NeA.sym {a b : Addr} (h : NeA a b) : @Ne Nat b a := Ne.symm h
/-- a comprehension's three objects -/
noncomputable def Off3p (I C D : Addr) (l : List (Addr × Obj)) : Prop := LCg.Off1 I l ∧ LCg.Off1 C l ∧ LCg.Off1 D l
theorem off1_of {D : Addr} : ∀ {l : List (Addr × Obj)}, (∀ p ∈ l, p.1 ≠ D) → LCg.Off1 D l
  | [], _ => trivial
  | _ :: _, h => ⟨h _ (.head _), off1_of fun p hp => h p (.tail _ hp)⟩
theorem off3_split {I C D : Addr} {l : List (Addr × Obj)} (h : LCg.Off3 I C D l) : LCg.Off1 I l ∧ LCg.Off1 C l ∧ LCg.Off1 D l := ⟨off1_of (off3_ne h).1, off1_of (off3_ne h).2.1, off1_of (off3_ne h).2.2⟩
theorem ne3_split {I C D : Addr} (h : (@Ne Nat I C) ∧ (@Ne Nat I D) ∧ (@Ne Nat C D)) : NeA I C ∧ NeA I D ∧ NeA C D := h
theorem off3_mk {I C D : Addr} {l : List (Addr × Obj)} (h1 : LCg.Off1 I l) (h2 : LCg.Off1 C l) (h3 : LCg.Off1 D l) : LCg.Off3 I C D l := off3_of (off1_ne h1) (off1_ne h2) (off1_ne h3)
section
variable {prog : Program} {w : World} {A : Around} {E : Value → Shared → Prop} {s : Shared} {h₀ : Heap} {L : Addr} {m : Str → Option Value} {news : List (Addr × Obj)} {Q : Value → Shared → Prop}
theorem is_list_at {l : Addr} {vs : List Value} {n : Nat} {h : Heap} (N : News h₀ L h news) (hm : (l, listOf vs.toArray n) ∈ news) : h.IsList l vs.toArray := ⟨_, (N _ hm).1, rfl, _, rfl⟩
theorem add_ints_at {a b : Addr} {vs ws : List Value} {ns ms : List Int} {n n2 : Nat} (F : Fr h₀ L s.heap m) (N : News h₀ L s.heap news) (ha : (a, listOf vs.toArray n) ∈ news) (hb : (b, listOf ws.toArray n2) ∈ news) (hi : IntsAre vs ns) (hj : IntsAre ws ms) (hz : ns.length + ms.length ≤ 100000)
    (h : ∀ D us h', Fr h₀ L h' m → News h₀ L h' ((D, listOf (List.toArray us) 0) :: news) → AllLt D news → IntsAre us (ns ++ ms) → Q (.ref D) { s with heap := h' }) : wpAny (model prog w) A (binaryOp .Add (.ref a) (.ref b)) Q E s :=
  kmk_add_ints F N (is_list_at N ha) (is_list_at N hb) hi hj (fun D us h' F' N' l => h D us h' F' N' (allLt_of l)) (by rw [sizeLine_eq]; omega)
end
local macro_rules | `(tactic| k_lt $h:ident) => `(tactic| replace $h := allLt_of $h)
local macro_rules | `(tactic| k_lt2 $h:ident) => `(tactic| (have l2n : NeA _ _ := Nat.ne_of_lt $h))
local macro_rules | `(tactic| k_mem) => `(tactic| first | (with_reducible exact List.mem_cons_self) | ((with_reducible refine' List.mem_cons_of_mem _ ?_); k_mem) | ((with_reducible refine' List.mem_append_right _ ?_); k_mem) | ((with_reducible refine' List.mem_append_left _ ?_); k_mem) | with_reducible assumption | exact List.Mem.head _ | assumption)
local macro_rules | `(tactic| k_upd) => `(tactic| (refine' Upd.app ?a9 ?b9; (case a9 => k_all); (case b9 => k_upd)))
local macro_rules | `(tactic| k_ne) => `(tactic| (refine neN ?_; (try dsimp only); k_extra "m:ne"))
local macro_rules | `(tactic| k_all) => `(tactic| first | with_reducible exact List.forall_mem_nil _ | ((with_reducible refine' List.forall_mem_cons.mpr ⟨?a9, ?b9⟩); (case a9 => k_ne); (case b9 => k_all)) | ((with_reducible refine' List.forall_mem_append.mpr ⟨?a9, ?b9⟩); (case a9 => k_all); (case b9 => k_all)) | k_extra "m:all")
local macro_rules | `(tactic| walk_at $s:str) => do { let k := Lean.Syntax.mkStrLit ("w:" ++ s.getString); `(tactic| k_extra $k) }
local macro_rules | `(tactic| walk_at "setAttr ref str") => `(tactic| k_extra "w:setAttr ref")
local macro_rules | `(tactic| ktr_units) => `(tactic| k_extra "m:units2")
local macro_rules | `(tactic| ktr_room) => `(tactic| k_extra "m:room2")
local macro_rules | `(tactic| units_room) => `(tactic| k_extra "m:units2")
local macro_rules | `(tactic| passes_own) => `(tactic| assumption)
theorem setup_02 : True := by
  k_with "w:subscriptTail Name Constant ref int" => (k_here; (with_reducible show wpAny _ _ (subscriptTail _ _ (Value.ref _) (Value.int _ _)) _ _ _); (with_unfolding_all refine' item_at ?k1 ?k2 ?k3 ?k4 ?k5 ?_ ?k6; (case k1 => k_asm); (case k2 => k_mem); (case k3 => decide); (case k4 => decide); (case k5 => rfl); (case k6 => with_unfolding_all rfl); k_whole))
  k_with "w:call builtin:list.pop" => (k_here; (with_reducible show wpAny _ _ (call (Value.builtin _) [Value.ref _, Value.int 0 _]) _ _ _); k_dflt (refine' pop0 ?qF7 ?qN7 ?qU7 ?qz7 ?_; (case qF7 => k_asm); (case qN7 => k_asm); (case qU7 => k_upd); (case qz7 => (have hLen9 := IntsAre.length (by assumption); simp only [List.length_cons] at *; omega)); k_whole); intro h' F' N'; (try k_sweep))
  k_with "m:enter" => ((case kA => exact rfl); (case kF => exact rfl); (case kK => assumption); (case k1 => k_asm); (case k2 => k_asm); (case k3 => k_asm); (case k4 => k_asm); (case k5 => k_asm); (case k6 => k_is); (case k7 => k_is); (case k8 => k_extra "m:room0"); (case k9 => exact BindsTo.of_eq rfl); (case c5 => decide); (case kB => exact locs rfl); (case c2 => exact rfl); (case c3 => exact rfl); (case c4 => exact rfl); k_whole; intro g' L' h' FG' F' N' B' X' T'; (have XP' := Prims.keeps (by assumption) (Fr.keep FG')); (try dsimp only); (try k_fold); (refine' enterQ ?_); intro Q9 hQ9; (show let A9 := _; wpAny _ A9 _ _ _ _); intro A9)
  k_with "m:pick" => first | exact Pick.head | (apply Pick.tail; k_extra "m:pick") | (apply Pick.app; k_extra "m:pick")
  k_with "m:use" => ((case qB7 => k_asm); (case qF7 => k_asm); (case qX7 => k_asm); (case qXP7 => k_asm); (case qT7 => k_asm); (case qK7 => first | exact rfl | assumption); (case qhd7 => k_extra "m:room"); (case qhu7 => k_extra "m:units"))
  k_with "m:noX" => exact fun _ _ _ _ _ _ h => False.elim h
  k_with "w:call builtin:len" => (k_here; (with_reducible show wpAny _ _ (call (Value.builtin "len") [Value.ref _]) _ _ _); k_dflt (refine' kst_len ?k1 ?k2 ?k3 ?k4 ?_; (case k1 => k_asm); (case k2 => k_mem); (case k3 => exact IntsAre.length (by assumption)); (case k4 => omega); k_whole))
  k_with "w:subscriptTail Name Call ref int" => (k_here; (with_reducible show wpAny _ _ (subscriptTail _ _ (Value.ref _) (Value.int _ _)) _ _ _); k_dflt (refine' ksa_sub ?k1 ?k2 ?k3 ?k4 ?k5 ?k6 ?_ ?k7; (case k1 => k_asm); (case k2 => k_mem); (case k3 => with_reducible assumption); (case k4 => omega); (case k5 => omega); (case k6 => omega); (case k7 => with_unfolding_all rfl); k_whole); intro _)
  k_with "w:subscriptTail Name Name ref int" => (k_here; (with_reducible show wpAny _ _ (subscriptTail _ _ (Value.ref _) (Value.int _ _)) _ _ _); k_dflt (refine' ksa_sub ?k1 ?k2 ?k3 ?k4 ?k5 ?k6 ?_ ?k7; (case k1 => k_asm); (case k2 => k_mem); (case k3 => with_reducible assumption); (case k4 => omega); (case k5 => omega); (case k6 => omega); (case k7 => with_unfolding_all rfl); k_whole); intro _)
  k_with "m:in" => first | assumption | exact List.Mem.head _ | (apply List.mem_cons_of_mem; k_extra "m:in") | (apply List.mem_append_right; k_extra "m:in") | (apply List.mem_append_left; k_extra "m:in")
  k_with "m:sub" => first | exact List.forall_mem_nil _ | exact fun _ h => h | (refine' List.forall_mem_cons.mpr ⟨?a9, ?b9⟩; (case a9 => first | k_mem | k_extra "m:in"); (case b9 => k_extra "m:sub")) | (refine' List.forall_mem_append.mpr ⟨?a9, ?b9⟩; (case a9 => k_extra "m:sub"); (case b9 => k_extra "m:sub")) | (intro p9 h9; k_extra "m:in")
  k_with "m:mid" => first | (apply Mid.cons; k_extra "m:mid") | exact Mid.base
  k_with "m:enterC" => ((case kA => exact rfl); (case kF => exact rfl); (case kK => assumption); (case k1 => k_asm); (case k2 => k_asm); (case k3 => k_asm); (case k4 => k_asm); (case k5 => k_asm); (case k6 => k_is); (case k7 => k_is); (case k8 => k_extra "m:room0"); (case k9 => exact BindsTo.of_eq rfl); (case kB => exact rfl); (case kD => decide +kernel); (case c2 => exact rfl); (case c3 => exact rfl); (case c4 => exact rfl); k_whole; intro g' L' h' tk' cells' FG' F' N' Y' B' X' T' l1; (have lC' : CellsOff _ _ := l1); clear l1; (have XP' := Prims.keeps (by assumption) (Fr.keep FG')); (k_extra "m:cells"); (try simp only [List.cons_append, List.nil_append] at N'); (try dsimp only); (try k_fold); (refine' enterQ ?_); intro Q9 hQ9; (show let A9 := _; wpAny _ A9 _ _ _ _); intro A9)
  k_with "m:X" => (refine' mem_fresh ?m9 ?a9 ?b9 ?c9; (case m9 => k_mem); (case a9 => k_ne); (case b9 => k_ne); (case c9 => k_all))
  k_with "m:Xs" => (refine' sub_fresh ?m9 ?a9; (case m9 => k_extra "m:sub"); (case a9 => (refine' Above2.sub ?h8 ?s8; (case h8 => with_reducible assumption); (case s8 => k_extra "m:sub"))))
  k_with "m:h" => with_reducible assumption
  k_with "m:ne" => first | with_reducible assumption | (refine' Ne.symm ?s9; (case s9 => with_reducible assumption)) | (refine' AllLt.neL ?h9 ?m9; (case h9 => k_extra "m:h"); (case m9 => k_mem)) | (refine' AllLt.neR ?h9 ?m9; (case h9 => k_extra "m:h"); (case m9 => k_mem)) | (refine' NeA.out ?h9; (case h9 => k_extra "m:h")) | (refine' NeA.sym ?h9; (case h9 => k_extra "m:h")) | (refine' Off1.neL ?h9 ?m9; (case h9 => k_extra "m:h"); (case m9 => k_mem)) | (refine' Off1.neR ?h9 ?m9; (case h9 => k_extra "m:h"); (case m9 => k_mem)) | (refine' CellsOff.neL ?h9 ?m9 ?b9; (case h9 => k_extra "m:h"); (case m9 => k_mem); (case b9 => k_extra "m:up")) | (refine' CellsOff.neR ?h9 ?m9 ?b9; (case h9 => k_extra "m:h"); (case m9 => k_mem); (case b9 => k_extra "m:up")) | exact up12 | exact up12.symm | exact up13 | exact up13.symm | exact up14 | exact up14.symm | exact up15 | exact up15.symm | omega
  k_with "m:all" => first | with_reducible assumption | (refine' AllLt.neS ?h9 ?s9; (case h9 => k_extra "m:h"); (case s9 => k_extra "m:sub")) | (refine' Off1.neS ?h9 ?s9; (case h9 => k_extra "m:h"); (case s9 => k_extra "m:sub")) | (refine' Above2.ne1 ?h9; (case h9 => k_extra "m:h")) | (refine' Above2.ne2 ?h9; (case h9 => k_extra "m:h")) | (refine' Above2.ne ?h9 ?m9; (case h9 => k_extra "m:h"); (case m9 => k_mem)) | (refine' CellsOff.ne ?h9 ?b9 ?s9; (case h9 => k_extra "m:h"); (case b9 => k_extra "m:up"); (case s9 => k_extra "m:sub")) | (refine' ne_of_below ?h9; (case h9 => k_extra "m:h"))
  k_with "w:FinE" => ((unfold LCg.FinE); intro D' h' tk' F' N' o1'; (try simp only [List.nil_append, List.cons_append] at N'); (try dsimp only))
  k_with "w:FinA" => ((unfold LCg.FinA); intro D' h' tk' F' N' o1'; (try simp only [List.nil_append, List.cons_append] at N'); (try dsimp only))
  k_with "w:binaryOp Add ref ref" => (k_here; (with_reducible show wpAny _ _ (binaryOp _ (Value.ref _) (Value.ref _)) _ _ _); k_dflt (refine' add_ints_at ?F ?N ?a ?b ?i ?j ?z ?_; (case F => k_asm); (case N => k_asm); (case a => k_mem); (case b => k_mem); (case i => first | with_reducible assumption | exact .nil | exact .cons _ _ .nil); (case j => first | with_reducible assumption | exact .nil | exact .cons _ _ .nil); (case z => (simp only [List.length_append, List.length_cons, List.length_nil]; omega))); intro D' ws' h' F' N' l1 hI'; (try k_sweep))
  k_with "m:cells" => (have hY := cells_five Y'; obtain ⟨o1', o2', o3', o4', o5', hE', d1', d2', d3', d4', d5'⟩ := hY; subst hE'; clear Y'; (try replace d1' := cellSome d1' rfl); (try replace d2' := cellSome d2' rfl); (try replace d3' := cellSome d3' rfl); (try replace d4' := cellSome d4' rfl); (try replace d5' := cellSome d5' rfl))
  k_with "m:cells" => (have hY := cells_four Y'; obtain ⟨o1', o2', o3', o4', hE', d1', d2', d3', d4'⟩ := hY; subst hE'; clear Y'; (try replace d1' := cellSome d1' rfl); (try replace d2' := cellSome d2' rfl); (try replace d3' := cellSome d3' rfl); (try replace d4' := cellSome d4' rfl))
  k_with "m:cells" => (have hY := cells_two Y'; obtain ⟨o1', o2', hE', d1', d2'⟩ := hY; subst hE'; clear Y'; (try replace d1' := cellSome d1' rfl); (try replace d2' := cellSome d2' rfl))
  k_with "m:cells" => (have hY := cells_three Y'; obtain ⟨o1', o2', o3', hE', d1', d2', d3'⟩ := hY; subst hE'; clear Y'; (try replace d1' := cellSome d1' rfl); (try replace d2' := cellSome d2' rfl); (try replace d3' := cellSome d3' rfl))
  k_with "w:KAt" => ((refine' KAt.of ?kh9 ?_; (case kh9 => assumption)); (try dsimp only))
  k_with "m:room" => ktr_room
  k_with "m:units" => ktr_units
  k_with "m:room0" => first | (refine' room0 ?rh9; (case rh9 => assumption)) | ktr_room
  k_with "m:units2" => first | (refine' room1 ?rh9 ?re9; (case rh9 => assumption); (case re9 => exact rfl)) | (refine' room2 ?rh8 ?re8; (case rh8 => assumption); (case re8 => exact rfl)) | (refine' room3 ?rh7 ?re7; (case rh7 => assumption); (case re7 => exact rfl)) | (refine' room4 ?rh6 ?re6; (case rh6 => assumption); (case re6 => exact rfl)) | ((have hcL9 := cLine_is); (simp +zetaDelta only [units_in1, units_deeper, Around.mark_units, units_caller, cLine] at *); (try dsimp only [ktrTop] at *); omega)
  k_with "m:room2" => first | (refine' room1 ?rh9 ?re9; (case rh9 => assumption); (case re9 => exact rfl)) | (refine' room2 ?rh8 ?re8; (case rh8 => assumption); (case re8 => exact rfl)) | (refine' room3 ?rh7 ?re7; (case rh7 => assumption); (case re7 => exact rfl)) | (refine' room4 ?rh6 ?re6; (case rh6 => assumption); (case re6 => exact rfl)) | ((simp +zetaDelta only [depth_under_make, depth_under_kw, depth_in1, depth_deeper, depth_caller, recursionLimit] at *); (try dsimp only [ktrTop] at *); omega)
  k_with "m:up" => first | exact Nat.le_add_right _ 1 | exact Nat.le_add_right _ 2 | exact Nat.le_add_right _ 3 | exact Nat.le_add_right _ 4 | exact Nat.le_add_right _ 5 | omega
  trivial
noncomputable def drawJ (dk : Addr) (rest : List (Addr × Obj)) (m : Str → Option Value) (k : Nat) (m₁ : Str → Option Value) (news₁ : List (Addr × Obj)) : Prop :=
  m₁ = m ∧ ∃ vs ns n, news₁ = (dk, listOf vs.toArray n) :: rest ∧ IntsAre vs ns ∧ ns.length = k ∧ ns.length ≤ 100
set_option maxHeartbeats 8000000 in
theorem draw_spec (w : World) {dk : Addr} {vs : List Value} {ns : List Int} {n : Nat} {rest : List (Addr × Obj)} {many : Int} {t : Tok} (hI : IntsAre vs ns) (hne : ∀ p ∈ rest, p.1 ≠ dk) (hm : 0 < many) (hm' : many < 1000) (hl : ns.length ≤ 100) :
    Spec w 756 10 100 [.ref dk, .int many t] ((dk, listOf vs.toArray n) :: rest)
      (fun r news' => ∃ vs' ns' n' k t', r = .int k t' ∧ news' = (dk, listOf vs'.toArray n') :: rest ∧ IntsAre vs' ns' ∧ ns'.length ≤ 100 ∧ 0 ≤ k ∧ k < many) NoX := by
  unfold Spec
  k_fill
  intro dp un gd cn cs a ccd cl outer A₀ base h₀ L m s Q E p loose mean mg mb B F X XP N T hk hd hu hret herr
  refine wpAny_call ?_
  k_dflt (refine' code_def (binds := [(Str.ofString "_law_deck", .ref dk), (Str.ofString "_law_many", .int many t)]) ?k1 ?k2 ?k3 ?k4 ?k5 ?kA ?kF ?kK ?k6 ?k7 ?k8 ?k9 ?kB ?_ ?c2 ?c3 ?c4 ?c5; k_extra "m:enter")
  k_with "w:exec While" => ((refine While_inv2 (drawJ dk rest _) (n₀ := ns.length) (by k_asm) (by k_asm) ⟨rfl, vs, ns, n, rfl, hI, rfl, hl⟩ ?_); clear hI hl; (rintro k m₁ news₁ h₁ tk₁ F₁ N₁ ⟨rfl, vs, ns, n, rfl, hI, hk, hl⟩); k_sweep; (rcases ints_cases hI with ⟨rfl, rfl⟩ | ⟨x, tx, vs, ns, rfl, rfl, hI'⟩))
  k_steps
  · exact hret _ _ _ _ (by k_asm) (newsSub (by k_asm) (by k_extra "m:sub")) ⟨[], [], _, _, _, rfl, rfl, .nil, by simp, by omega, by omega⟩
  · exact absurd (by assumption) (by simp : ¬ decide (x :: ns = []) = true)
  · simp only [List.length_cons] at hk hl
    exact ⟨_, _, _, (dk, listOf vs.toArray (n + 1)) :: rest, ns.length, rfl, (by k_asm), newsSub (by k_asm) (by k_extra "m:sub"), by omega, rfl, vs, ns, _, rfl, hI', rfl, by omega⟩
  · exact hret _ _ _ _ (by k_asm) (newsSub (by k_asm) (by k_extra "m:sub")) ⟨_, _, _, _, _, rfl, rfl, (by assumption), by simp only [List.length_set]; exact hl, Int.fmod_nonneg_of_pos _ hm, Int.fmod_lt_of_pos _ hm⟩
theorem setup_03 : True := by
  k_with "w:call ref" => (k_here; (with_reducible show wpAny _ _ (call (Value.ref 756) [Value.ref _, Value.int _ _]) _ _ _); k_dflt (refine' Spec.use (draw_spec _ ?qI7 ?qne7 ?qm17 ?qm27 ?ql7) ?qB7 ?qF7 ?qX7 ?qXP7 (Pick.front ?qP7 ?qN7) ?qT7 ?qK7 ?qhd7 ?qhu7 ?_ ?qx7; (case qN7 => k_asm); (case qP7 => k_extra "m:pick"); (k_extra "m:use"); (case qI7 => assumption); (case qne7 => k_all); (case qm17 => first | decide | omega); (case qm27 => first | decide | omega); (case ql7 => first | assumption | (simp; done) | omega); (case qx7 => k_extra "m:noX"); (rintro _ _ h' tk' F' N' ⟨vs', ns', n', k', t', e1, e2, hI', hl', hk0, hk1⟩); subst e1 e2; (try k_sweep); (try dsimp only)))
  trivial
set_option maxHeartbeats 8000000 in
theorem one_spec (w : World) {dk it : Addr} {vs vis : List Value} {ns nis : List Int} {n ni : Nat} {rest : List (Addr × Obj)} (hI : IntsAre vs ns) (hne : ∀ p ∈ rest, p.1 ≠ dk) (hl : ns.length ≤ 100) (hit : (it, listOf vis.toArray ni) ∈ rest) (hII : IntsAre vis nis) (h0 : 0 < nis.length) (h1 : nis.length < 1000) :
    Spec w 768 20 200 [.ref dk, .ref it] ((dk, listOf vs.toArray n) :: rest)
      (fun r news' => ∃ vs' ns' n' k t', r = .int k t' ∧ news' = (dk, listOf vs'.toArray n') :: rest ∧ IntsAre vs' ns' ∧ ns'.length ≤ 100) NoX := by
  unfold Spec
  k_fill
  intro dp un gd cn cs a ccd cl outer A₀ base h₀ L m s Q E p loose mean mg mb B F X XP N T hk hd hu hret herr
  refine wpAny_call ?_
  k_dflt (refine' code_def (binds := [(Str.ofString "_law_deck", .ref dk), (Str.ofString "_law_items", .ref it)]) ?k1 ?k2 ?k3 ?k4 ?k5 ?kA ?kF ?kK ?k6 ?k7 ?k8 ?k9 ?kB ?_ ?c2 ?c3 ?c4 ?c5; k_extra "m:enter")
  k_steps
  all_goals exact hret _ _ _ _ (by k_asm) (newsSub (by k_asm) (by k_extra "m:sub")) ⟨_, _, _, _, _, rfl, rfl, by assumption, by assumption⟩
set_option maxHeartbeats 8000000 in
theorem new_spec (w : World) {st : Addr} {a0 b0 at_ : Int} {ta tb tt : Tok} {n : Nat} {rest : List (Addr × Obj)} (hne : ∀ p ∈ rest, p.1 ≠ st) (hb : 0 ≤ b0) (ha : at_ = 0 ∨ at_ = 1) :
    Spec w 775 20 200 [.ref st, .int at_ tt] ((st, listOf [.int a0 ta, .int b0 tb].toArray n) :: rest)
      (fun r news' => ∃ a1 b1 ta1 tb1 n' k t', r = .int k t' ∧ news' = (st, listOf [.int a1 ta1, .int b1 tb1].toArray n') :: rest ∧ 0 ≤ b1 ∧ (at_ = 1 → 0 ≤ k)) NoX := by
  unfold Spec
  k_fill
  intro dp un gd cn cs a ccd cl outer A₀ base h₀ L m s Q E p loose mean mg mb B F X XP N T hk hd hu hret herr
  refine wpAny_call ?_
  k_dflt (refine' code_def (binds := [(Str.ofString "_law_state", .ref st), (Str.ofString "_law_at", .int at_ tt)]) ?k1 ?k2 ?k3 ?k4 ?k5 ?kA ?kF ?kK ?k6 ?k7 ?k8 ?k9 ?kB ?_ ?c2 ?c3 ?c4 ?c5; k_extra "m:enter")
  have hS : IntsAre [Value.int a0 ta, Value.int b0 tb] [a0, b0] := .cons _ _ (.cons _ _ .nil)
  rcases ha with rfl | rfl
  all_goals k_steps
  · exact hret _ _ _ _ (by k_asm) (newsSub (by k_asm) (by k_extra "m:sub")) ⟨a0 + 1, b0, _, _, _, _, _, rfl, rfl, hb, by omega⟩
  · exact hret _ _ _ _ (by k_asm) (newsSub (by k_asm) (by k_extra "m:sub")) ⟨a0, b0 + 1, _, _, _, b0 + 1, _, rfl, rfl, by omega, by omega⟩
theorem setup_04 : True := by
  k_with "w:call ref" => (k_here; (with_reducible show wpAny _ _ (call (Value.ref 768) [Value.ref _, Value.ref _]) _ _ _); k_dflt (refine' Spec.use (one_spec _ ?qI7 ?qne7 ?ql7 ?qit7 ?qII7 ?qz07 ?qz17) ?qB7 ?qF7 ?qX7 ?qXP7 (Pick.front ?qP7 ?qN7) ?qT7 ?qK7 ?qhd7 ?qhu7 ?_ ?qx7; (case qN7 => k_asm); (case qP7 => k_extra "m:pick"); (case qit7 => k_mem); (k_extra "m:use"); (case qI7 => assumption); (case qII7 => assumption); (case qne7 => k_all); (case ql7 => first | assumption | (simp; done) | omega); (case qz07 => first | decide | omega); (case qz17 => first | decide | omega); (case qx7 => k_extra "m:noX"); (rintro _ _ h' tk' F' N' ⟨vs', ns', n', k', t', e1, e2, hI', hl'⟩); subst e1 e2; (try k_sweep); (try dsimp only)))
  k_with "w:call ref" => (k_here; (with_reducible show wpAny _ _ (call (Value.ref 775) [Value.ref _, Value.int _ _]) _ _ _); k_dflt (refine' Spec.use (new_spec _ ?qne7 ?qhb7 ?qha7) ?qB7 ?qF7 ?qX7 ?qXP7 (Pick.front ?qP7 ?qN7) ?qT7 ?qK7 ?qhd7 ?qhu7 ?_ ?qx7; (case qN7 => k_asm); (case qP7 => k_extra "m:pick"); (k_extra "m:use"); (case qne7 => k_all); (case qhb7 => omega); (case qha7 => first | assumption | omega); (case qx7 => k_extra "m:noX"); (rintro _ _ h' tk' F' N' ⟨a1', b1', ta1', tb1', n', k', t', e1, e2, hb', hk'⟩); subst e1 e2; (try k_sweep); (try dsimp only)))
  trivial
set_option maxHeartbeats 8000000 in
theorem bind_spec (w : World) {dk st : Addr} {vs : List Value} {ns : List Int} {n n2 : Nat} {rest : List (Addr × Obj)} {a0 b0 at_ : Int} {ta tb tt : Tok} (hI : IntsAre vs ns) (hds : NeA dk st) (hne : ∀ p ∈ rest, p.1 ≠ dk) (hne2 : ∀ p ∈ rest, p.1 ≠ st) (hl : ns.length ≤ 100) (hb : 0 ≤ b0) (ha : at_ = 0 ∨ at_ = 1) :
    Spec w 782 40 400 [.ref dk, .ref st, .int at_ tt] ((dk, listOf vs.toArray n) :: (st, listOf [.int a0 ta, .int b0 tb].toArray n2) :: rest)
      (fun r news' => ∃ vs' ns' n' a1 b1 ta1 tb1 n2' k t', r = .int k t' ∧ news' = (dk, listOf vs'.toArray n') :: (st, listOf [.int a1 ta1, .int b1 tb1].toArray n2') :: rest ∧ IntsAre vs' ns' ∧ ns'.length ≤ 100 ∧ 0 ≤ b1 ∧ (at_ = 1 → 0 ≤ k)) NoX := by
  unfold Spec
  k_fill
  intro dp un gd cn cs a ccd cl outer A₀ base h₀ L m s Q E p loose mean mg mb B F X XP N T hk hd hu hret herr
  refine wpAny_call ?_
  k_dflt (refine' code_def (binds := [(Str.ofString "_law_deck", .ref dk), (Str.ofString "_law_state", .ref st), (Str.ofString "_law_at", .int at_ tt)]) ?k1 ?k2 ?k3 ?k4 ?k5 ?kA ?kF ?kK ?k6 ?k7 ?k8 ?k9 ?kB ?_ ?c2 ?c3 ?c4 ?c5; k_extra "m:enter")
  rcases ha with rfl | rfl
  all_goals k_steps
  all_goals exact hret _ _ _ _ (by k_asm) (newsSub (by k_asm) (by k_extra "m:sub")) ⟨_, _, _, _, _, _, _, _, _, _, rfl, rfl, by assumption, by assumption, by omega, by omega⟩
theorem setup_05 : True := by
  k_with "w:call ref" => (k_here; (with_reducible show wpAny _ _ (call (Value.ref 782) [Value.ref _, Value.ref _, Value.int _ _]) _ _ _); k_dflt (refine' Spec.use (bind_spec _ ?qI7 ?qds7 ?qne7 ?qne27 ?ql7 ?qhb7 ?qha7) ?qB7 ?qF7 ?qX7 ?qXP7 (Pick.front2 ?qP7 ?qP27 ?qN7) ?qT7 ?qK7 ?qhd7 ?qhu7 ?_ ?qx7; (case qN7 => k_asm); (case qP7 => k_extra "m:pick"); (case qP27 => k_extra "m:pick"); (k_extra "m:use"); (case qI7 => assumption); (case qds7 => assumption); (case qne7 => k_all); (case qne27 => k_all); (case ql7 => first | assumption | (simp; done) | omega); (case qhb7 => omega); (case qha7 => first | assumption | omega); (case qx7 => k_extra "m:noX"); (rintro _ _ h' tk' F' N' ⟨vs', ns', n', a1', b1', ta1', tb1', n2', k', t', e1, e2, hI', hl', hb', hk'⟩); subst e1 e2; (try k_sweep); (try dsimp only)))
  trivial
/-- what the check and the law see of a node -/
inductive Nd where
  | const
  | loc (n : Int)
  | glob (y : Int)
  | setL (n : Int) (t : Nd)
  | setG (y : Int) (t : Nd)
  | defn (y : Int) (t : Nd)
  | iff (a b c : Nd)
  | lam (lb : Int) (ps : List Int) (r : Int) (b : Nd)
  | call (f : Nd) (as : List Nd)
  | seq (ts : List Nd)
  | prim (op : Int) (ts : List Nd)
  | fix (ns : List Int) (ls : List Nd) (b : Nd)
noncomputable abbrev fld (P : Params) (x : Str) (t : Tok) (v : Value) : DictEntry := ⟨PyData.keyHash P x, .str x t, v⟩
set_option maxHeartbeats 8000000 in
theorem const_make (w : World) {news : List (Addr × Obj)} {v1 : Value} :
    Spec w 66 10 100 [v1] news (fun r news' => ∃ x dx t1 n, r = .ref x ∧ news' = (x, instObj 66 dx) :: (dx, dictOf [fld w.params "value" t1 v1] n) :: news ∧ AllLt dx news ∧ AllLt x ((dx, dictOf [fld w.params "value" t1 v1] n) :: news)) NoX := by
  unfold Spec
  k_fill
  intro dp un gd cn cs a ccd cl outer A₀ base h₀ L m s Q E p loose mean mg mb B F X XP N T hk hd hu hret herr
  k_dflt (refine' call_cls ?qF7 ?qX7 ?qN7 ?hm ?hi ?hf ?_; (case qF7 => k_asm); (case qX7 => k_asm); (case qN7 => k_asm); (case hm => k_is); (case hi => k_is); (case hf => k_is); k_whole)
  intro x dx h1 F1 N1 l1 l2
  replace l1 := allLt_of l1
  k_lt2 l2
  k_sweep
  k_dflt (refine' code_def (binds := [(Str.ofString "self", .ref x), (Str.ofString "value", v1)]) ?k1 ?k2 ?k3 ?k4 ?k5 ?kA ?kF ?kK ?k6 ?k7 ?k8 ?k9 ?kB ?_ ?c2 ?c3 ?c4 ?c5; k_extra "m:enter")
  k_steps
  exact hret _ _ _ _ (by k_asm) (by k_asm) ⟨_, _, _, _, rfl, rfl, l1, ⟨l2, allLt_of (fun p hp => Nat.lt_trans (allLt_mem l1 p hp) l2)⟩⟩
set_option maxHeartbeats 8000000 in
theorem local_make (w : World) {news : List (Addr × Obj)} {v1 : Value} :
    Spec w 85 10 100 [v1] news (fun r news' => ∃ x dx t1 n, r = .ref x ∧ news' = (x, instObj 85 dx) :: (dx, dictOf [fld w.params "number" t1 v1] n) :: news ∧ AllLt dx news ∧ AllLt x ((dx, dictOf [fld w.params "number" t1 v1] n) :: news)) NoX := by
  unfold Spec
  k_fill
  intro dp un gd cn cs a ccd cl outer A₀ base h₀ L m s Q E p loose mean mg mb B F X XP N T hk hd hu hret herr
  k_dflt (refine' call_cls ?qF7 ?qX7 ?qN7 ?hm ?hi ?hf ?_; (case qF7 => k_asm); (case qX7 => k_asm); (case qN7 => k_asm); (case hm => k_is); (case hi => k_is); (case hf => k_is); k_whole)
  intro x dx h1 F1 N1 l1 l2
  replace l1 := allLt_of l1
  k_lt2 l2
  k_sweep
  k_dflt (refine' code_def (binds := [(Str.ofString "self", .ref x), (Str.ofString "number", v1)]) ?k1 ?k2 ?k3 ?k4 ?k5 ?kA ?kF ?kK ?k6 ?k7 ?k8 ?k9 ?kB ?_ ?c2 ?c3 ?c4 ?c5; k_extra "m:enter")
  k_steps
  exact hret _ _ _ _ (by k_asm) (by k_asm) ⟨_, _, _, _, rfl, rfl, l1, ⟨l2, allLt_of (fun p hp => Nat.lt_trans (allLt_mem l1 p hp) l2)⟩⟩
set_option maxHeartbeats 8000000 in
theorem global_make (w : World) {news : List (Addr × Obj)} {v1 : Value} :
    Spec w 104 10 100 [v1] news (fun r news' => ∃ x dx t1 n, r = .ref x ∧ news' = (x, instObj 104 dx) :: (dx, dictOf [fld w.params "symbol" t1 v1] n) :: news ∧ AllLt dx news ∧ AllLt x ((dx, dictOf [fld w.params "symbol" t1 v1] n) :: news)) NoX := by
  unfold Spec
  k_fill
  intro dp un gd cn cs a ccd cl outer A₀ base h₀ L m s Q E p loose mean mg mb B F X XP N T hk hd hu hret herr
  k_dflt (refine' call_cls ?qF7 ?qX7 ?qN7 ?hm ?hi ?hf ?_; (case qF7 => k_asm); (case qX7 => k_asm); (case qN7 => k_asm); (case hm => k_is); (case hi => k_is); (case hf => k_is); k_whole)
  intro x dx h1 F1 N1 l1 l2
  replace l1 := allLt_of l1
  k_lt2 l2
  k_sweep
  k_dflt (refine' code_def (binds := [(Str.ofString "self", .ref x), (Str.ofString "symbol", v1)]) ?k1 ?k2 ?k3 ?k4 ?k5 ?kA ?kF ?kK ?k6 ?k7 ?k8 ?k9 ?kB ?_ ?c2 ?c3 ?c4 ?c5; k_extra "m:enter")
  k_steps
  exact hret _ _ _ _ (by k_asm) (by k_asm) ⟨_, _, _, _, rfl, rfl, l1, ⟨l2, allLt_of (fun p hp => Nat.lt_trans (allLt_mem l1 p hp) l2)⟩⟩
set_option maxHeartbeats 8000000 in
theorem setl_make (w : World) {news : List (Addr × Obj)} {v1 v2 : Value} :
    Spec w 137 10 100 [v1, v2] news (fun r news' => ∃ x dx t1 t2 n, r = .ref x ∧ news' = (x, instObj 137 dx) :: (dx, dictOf [fld w.params "number" t1 v1, fld w.params "value" t2 v2] n) :: news ∧ AllLt dx news ∧ AllLt x ((dx, dictOf [fld w.params "number" t1 v1, fld w.params "value" t2 v2] n) :: news)) NoX := by
  unfold Spec
  k_fill
  intro dp un gd cn cs a ccd cl outer A₀ base h₀ L m s Q E p loose mean mg mb B F X XP N T hk hd hu hret herr
  k_dflt (refine' call_cls ?qF7 ?qX7 ?qN7 ?hm ?hi ?hf ?_; (case qF7 => k_asm); (case qX7 => k_asm); (case qN7 => k_asm); (case hm => k_is); (case hi => k_is); (case hf => k_is); k_whole)
  intro x dx h1 F1 N1 l1 l2
  replace l1 := allLt_of l1
  k_lt2 l2
  k_sweep
  k_dflt (refine' code_def (binds := [(Str.ofString "self", .ref x), (Str.ofString "number", v1), (Str.ofString "value", v2)]) ?k1 ?k2 ?k3 ?k4 ?k5 ?kA ?kF ?kK ?k6 ?k7 ?k8 ?k9 ?kB ?_ ?c2 ?c3 ?c4 ?c5; k_extra "m:enter")
  k_steps
  exact hret _ _ _ _ (by k_asm) (by k_asm) ⟨_, _, _, _, _, rfl, rfl, l1, ⟨l2, allLt_of (fun p hp => Nat.lt_trans (allLt_mem l1 p hp) l2)⟩⟩
set_option maxHeartbeats 8000000 in
theorem setg_make (w : World) {news : List (Addr × Obj)} {v1 v2 : Value} :
    Spec w 170 10 100 [v1, v2] news (fun r news' => ∃ x dx t1 t2 n, r = .ref x ∧ news' = (x, instObj 170 dx) :: (dx, dictOf [fld w.params "symbol" t1 v1, fld w.params "value" t2 v2] n) :: news ∧ AllLt dx news ∧ AllLt x ((dx, dictOf [fld w.params "symbol" t1 v1, fld w.params "value" t2 v2] n) :: news)) NoX := by
  unfold Spec
  k_fill
  intro dp un gd cn cs a ccd cl outer A₀ base h₀ L m s Q E p loose mean mg mb B F X XP N T hk hd hu hret herr
  k_dflt (refine' call_cls ?qF7 ?qX7 ?qN7 ?hm ?hi ?hf ?_; (case qF7 => k_asm); (case qX7 => k_asm); (case qN7 => k_asm); (case hm => k_is); (case hi => k_is); (case hf => k_is); k_whole)
  intro x dx h1 F1 N1 l1 l2
  replace l1 := allLt_of l1
  k_lt2 l2
  k_sweep
  k_dflt (refine' code_def (binds := [(Str.ofString "self", .ref x), (Str.ofString "symbol", v1), (Str.ofString "value", v2)]) ?k1 ?k2 ?k3 ?k4 ?k5 ?kA ?kF ?kK ?k6 ?k7 ?k8 ?k9 ?kB ?_ ?c2 ?c3 ?c4 ?c5; k_extra "m:enter")
  k_steps
  exact hret _ _ _ _ (by k_asm) (by k_asm) ⟨_, _, _, _, _, rfl, rfl, l1, ⟨l2, allLt_of (fun p hp => Nat.lt_trans (allLt_mem l1 p hp) l2)⟩⟩
set_option maxHeartbeats 8000000 in
theorem define_make (w : World) {news : List (Addr × Obj)} {v1 v2 : Value} :
    Spec w 203 10 100 [v1, v2] news (fun r news' => ∃ x dx t1 t2 n, r = .ref x ∧ news' = (x, instObj 203 dx) :: (dx, dictOf [fld w.params "symbol" t1 v1, fld w.params "value" t2 v2] n) :: news ∧ AllLt dx news ∧ AllLt x ((dx, dictOf [fld w.params "symbol" t1 v1, fld w.params "value" t2 v2] n) :: news)) NoX := by
  unfold Spec
  k_fill
  intro dp un gd cn cs a ccd cl outer A₀ base h₀ L m s Q E p loose mean mg mb B F X XP N T hk hd hu hret herr
  k_dflt (refine' call_cls ?qF7 ?qX7 ?qN7 ?hm ?hi ?hf ?_; (case qF7 => k_asm); (case qX7 => k_asm); (case qN7 => k_asm); (case hm => k_is); (case hi => k_is); (case hf => k_is); k_whole)
  intro x dx h1 F1 N1 l1 l2
  replace l1 := allLt_of l1
  k_lt2 l2
  k_sweep
  k_dflt (refine' code_def (binds := [(Str.ofString "self", .ref x), (Str.ofString "symbol", v1), (Str.ofString "value", v2)]) ?k1 ?k2 ?k3 ?k4 ?k5 ?kA ?kF ?kK ?k6 ?k7 ?k8 ?k9 ?kB ?_ ?c2 ?c3 ?c4 ?c5; k_extra "m:enter")
  k_steps
  exact hret _ _ _ _ (by k_asm) (by k_asm) ⟨_, _, _, _, _, rfl, rfl, l1, ⟨l2, allLt_of (fun p hp => Nat.lt_trans (allLt_mem l1 p hp) l2)⟩⟩
set_option maxHeartbeats 8000000 in
theorem if_make (w : World) {news : List (Addr × Obj)} {v1 v2 v3 : Value} :
    Spec w 236 10 100 [v1, v2, v3] news (fun r news' => ∃ x dx t1 t2 t3 n, r = .ref x ∧ news' = (x, instObj 236 dx) :: (dx, dictOf [fld w.params "test" t1 v1, fld w.params "yes" t2 v2, fld w.params "no" t3 v3] n) :: news ∧ AllLt dx news ∧ AllLt x ((dx, dictOf [fld w.params "test" t1 v1, fld w.params "yes" t2 v2, fld w.params "no" t3 v3] n) :: news)) NoX := by
  unfold Spec
  k_fill
  intro dp un gd cn cs a ccd cl outer A₀ base h₀ L m s Q E p loose mean mg mb B F X XP N T hk hd hu hret herr
  k_dflt (refine' call_cls ?qF7 ?qX7 ?qN7 ?hm ?hi ?hf ?_; (case qF7 => k_asm); (case qX7 => k_asm); (case qN7 => k_asm); (case hm => k_is); (case hi => k_is); (case hf => k_is); k_whole)
  intro x dx h1 F1 N1 l1 l2
  replace l1 := allLt_of l1
  k_lt2 l2
  k_sweep
  k_dflt (refine' code_def (binds := [(Str.ofString "self", .ref x), (Str.ofString "test", v1), (Str.ofString "yes", v2), (Str.ofString "no", v3)]) ?k1 ?k2 ?k3 ?k4 ?k5 ?kA ?kF ?kK ?k6 ?k7 ?k8 ?k9 ?kB ?_ ?c2 ?c3 ?c4 ?c5; k_extra "m:enter")
  k_steps
  exact hret _ _ _ _ (by k_asm) (by k_asm) ⟨_, _, _, _, _, _, rfl, rfl, l1, ⟨l2, allLt_of (fun p hp => Nat.lt_trans (allLt_mem l1 p hp) l2)⟩⟩
set_option maxHeartbeats 8000000 in
theorem lambda_make (w : World) {news : List (Addr × Obj)} {v1 v2 v3 v4 : Value} :
    Spec w 283 10 100 [v1, v2, v3, v4] news (fun r news' => ∃ x dx t1 t2 t3 t4 n, r = .ref x ∧ news' = (x, instObj 283 dx) :: (dx, dictOf [fld w.params "label" t1 v1, fld w.params "params" t2 v2, fld w.params "rest" t3 v3, fld w.params "body" t4 v4] n) :: news ∧ AllLt dx news ∧ AllLt x ((dx, dictOf [fld w.params "label" t1 v1, fld w.params "params" t2 v2, fld w.params "rest" t3 v3, fld w.params "body" t4 v4] n) :: news)) NoX := by
  unfold Spec
  k_fill
  intro dp un gd cn cs a ccd cl outer A₀ base h₀ L m s Q E p loose mean mg mb B F X XP N T hk hd hu hret herr
  k_dflt (refine' call_cls ?qF7 ?qX7 ?qN7 ?hm ?hi ?hf ?_; (case qF7 => k_asm); (case qX7 => k_asm); (case qN7 => k_asm); (case hm => k_is); (case hi => k_is); (case hf => k_is); k_whole)
  intro x dx h1 F1 N1 l1 l2
  replace l1 := allLt_of l1
  k_lt2 l2
  k_sweep
  k_dflt (refine' code_def (binds := [(Str.ofString "self", .ref x), (Str.ofString "label", v1), (Str.ofString "params", v2), (Str.ofString "rest", v3), (Str.ofString "body", v4)]) ?k1 ?k2 ?k3 ?k4 ?k5 ?kA ?kF ?kK ?k6 ?k7 ?k8 ?k9 ?kB ?_ ?c2 ?c3 ?c4 ?c5; k_extra "m:enter")
  k_steps
  exact hret _ _ _ _ (by k_asm) (by k_asm) ⟨_, _, _, _, _, _, _, rfl, rfl, l1, ⟨l2, allLt_of (fun p hp => Nat.lt_trans (allLt_mem l1 p hp) l2)⟩⟩
set_option maxHeartbeats 8000000 in
theorem call_make (w : World) {news : List (Addr × Obj)} {v1 v2 : Value} :
    Spec w 316 10 100 [v1, v2] news (fun r news' => ∃ x dx t1 t2 n, r = .ref x ∧ news' = (x, instObj 316 dx) :: (dx, dictOf [fld w.params "operator" t1 v1, fld w.params "operands" t2 v2] n) :: news ∧ AllLt dx news ∧ AllLt x ((dx, dictOf [fld w.params "operator" t1 v1, fld w.params "operands" t2 v2] n) :: news)) NoX := by
  unfold Spec
  k_fill
  intro dp un gd cn cs a ccd cl outer A₀ base h₀ L m s Q E p loose mean mg mb B F X XP N T hk hd hu hret herr
  k_dflt (refine' call_cls ?qF7 ?qX7 ?qN7 ?hm ?hi ?hf ?_; (case qF7 => k_asm); (case qX7 => k_asm); (case qN7 => k_asm); (case hm => k_is); (case hi => k_is); (case hf => k_is); k_whole)
  intro x dx h1 F1 N1 l1 l2
  replace l1 := allLt_of l1
  k_lt2 l2
  k_sweep
  k_dflt (refine' code_def (binds := [(Str.ofString "self", .ref x), (Str.ofString "operator", v1), (Str.ofString "operands", v2)]) ?k1 ?k2 ?k3 ?k4 ?k5 ?kA ?kF ?kK ?k6 ?k7 ?k8 ?k9 ?kB ?_ ?c2 ?c3 ?c4 ?c5; k_extra "m:enter")
  k_steps
  exact hret _ _ _ _ (by k_asm) (by k_asm) ⟨_, _, _, _, _, rfl, rfl, l1, ⟨l2, allLt_of (fun p hp => Nat.lt_trans (allLt_mem l1 p hp) l2)⟩⟩
set_option maxHeartbeats 8000000 in
theorem seq_make (w : World) {news : List (Addr × Obj)} {v1 : Value} :
    Spec w 349 10 100 [v1] news (fun r news' => ∃ x dx t1 n, r = .ref x ∧ news' = (x, instObj 349 dx) :: (dx, dictOf [fld w.params "items" t1 v1] n) :: news ∧ AllLt dx news ∧ AllLt x ((dx, dictOf [fld w.params "items" t1 v1] n) :: news)) NoX := by
  unfold Spec
  k_fill
  intro dp un gd cn cs a ccd cl outer A₀ base h₀ L m s Q E p loose mean mg mb B F X XP N T hk hd hu hret herr
  k_dflt (refine' call_cls ?qF7 ?qX7 ?qN7 ?hm ?hi ?hf ?_; (case qF7 => k_asm); (case qX7 => k_asm); (case qN7 => k_asm); (case hm => k_is); (case hi => k_is); (case hf => k_is); k_whole)
  intro x dx h1 F1 N1 l1 l2
  replace l1 := allLt_of l1
  k_lt2 l2
  k_sweep
  k_dflt (refine' code_def (binds := [(Str.ofString "self", .ref x), (Str.ofString "items", v1)]) ?k1 ?k2 ?k3 ?k4 ?k5 ?kA ?kF ?kK ?k6 ?k7 ?k8 ?k9 ?kB ?_ ?c2 ?c3 ?c4 ?c5; k_extra "m:enter")
  k_steps
  exact hret _ _ _ _ (by k_asm) (by k_asm) ⟨_, _, _, _, rfl, rfl, l1, ⟨l2, allLt_of (fun p hp => Nat.lt_trans (allLt_mem l1 p hp) l2)⟩⟩
set_option maxHeartbeats 8000000 in
theorem prim_make (w : World) {news : List (Addr × Obj)} {v1 v2 : Value} :
    Spec w 382 10 100 [v1, v2] news (fun r news' => ∃ x dx t1 t2 n, r = .ref x ∧ news' = (x, instObj 382 dx) :: (dx, dictOf [fld w.params "op" t1 v1, fld w.params "operands" t2 v2] n) :: news ∧ AllLt dx news ∧ AllLt x ((dx, dictOf [fld w.params "op" t1 v1, fld w.params "operands" t2 v2] n) :: news)) NoX := by
  unfold Spec
  k_fill
  intro dp un gd cn cs a ccd cl outer A₀ base h₀ L m s Q E p loose mean mg mb B F X XP N T hk hd hu hret herr
  k_dflt (refine' call_cls ?qF7 ?qX7 ?qN7 ?hm ?hi ?hf ?_; (case qF7 => k_asm); (case qX7 => k_asm); (case qN7 => k_asm); (case hm => k_is); (case hi => k_is); (case hf => k_is); k_whole)
  intro x dx h1 F1 N1 l1 l2
  replace l1 := allLt_of l1
  k_lt2 l2
  k_sweep
  k_dflt (refine' code_def (binds := [(Str.ofString "self", .ref x), (Str.ofString "op", v1), (Str.ofString "operands", v2)]) ?k1 ?k2 ?k3 ?k4 ?k5 ?kA ?kF ?kK ?k6 ?k7 ?k8 ?k9 ?kB ?_ ?c2 ?c3 ?c4 ?c5; k_extra "m:enter")
  k_steps
  exact hret _ _ _ _ (by k_asm) (by k_asm) ⟨_, _, _, _, _, rfl, rfl, l1, ⟨l2, allLt_of (fun p hp => Nat.lt_trans (allLt_mem l1 p hp) l2)⟩⟩
set_option maxHeartbeats 8000000 in
theorem fix_make (w : World) {news : List (Addr × Obj)} {v1 v2 v3 : Value} :
    Spec w 415 10 100 [v1, v2, v3] news (fun r news' => ∃ x dx t1 t2 t3 n, r = .ref x ∧ news' = (x, instObj 415 dx) :: (dx, dictOf [fld w.params "numbers" t1 v1, fld w.params "lambdas" t2 v2, fld w.params "body" t3 v3] n) :: news ∧ AllLt dx news ∧ AllLt x ((dx, dictOf [fld w.params "numbers" t1 v1, fld w.params "lambdas" t2 v2, fld w.params "body" t3 v3] n) :: news)) NoX := by
  unfold Spec
  k_fill
  intro dp un gd cn cs a ccd cl outer A₀ base h₀ L m s Q E p loose mean mg mb B F X XP N T hk hd hu hret herr
  k_dflt (refine' call_cls ?qF7 ?qX7 ?qN7 ?hm ?hi ?hf ?_; (case qF7 => k_asm); (case qX7 => k_asm); (case qN7 => k_asm); (case hm => k_is); (case hi => k_is); (case hf => k_is); k_whole)
  intro x dx h1 F1 N1 l1 l2
  replace l1 := allLt_of l1
  k_lt2 l2
  k_sweep
  k_dflt (refine' code_def (binds := [(Str.ofString "self", .ref x), (Str.ofString "numbers", v1), (Str.ofString "lambdas", v2), (Str.ofString "body", v3)]) ?k1 ?k2 ?k3 ?k4 ?k5 ?kA ?kF ?kK ?k6 ?k7 ?k8 ?k9 ?kB ?_ ?c2 ?c3 ?c4 ?c5; k_extra "m:enter")
  k_steps
  exact hret _ _ _ _ (by k_asm) (by k_asm) ⟨_, _, _, _, _, _, rfl, rfl, l1, ⟨l2, allLt_of (fun p hp => Nat.lt_trans (allLt_mem l1 p hp) l2)⟩⟩
mutual
noncomputable def wt : Nd → Nat
  | .const => 1
  | .loc _ => 1
  | .glob _ => 1
  | .setL _ t => 1 + wt t
  | .setG _ t => 1 + wt t
  | .defn _ t => 1 + wt t
  | .iff a b c => 1 + wt a + wt b + wt c
  | .lam _ ps _ b => 3 + ps.length + wt b
  | .call f as => 1 + wt f + wts as
  | .seq ts => 1 + wts ts
  | .prim _ ts => 1 + wts ts
  | .fix ns ls b => 2 + ns.length + wts ls + wt b
noncomputable def wts : List Nd → Nat
  | [] => 0
  | t :: r => wt t + wts r
end
mutual
noncomputable def dpt : Nd → Nat
  | .const => 1
  | .loc _ => 1
  | .glob _ => 1
  | .setL _ t => 1 + dpt t
  | .setG _ t => 1 + dpt t
  | .defn _ t => 1 + dpt t
  | .iff a b c => 1 + max (dpt a) (max (dpt b) (dpt c))
  | .lam _ _ _ b => 1 + dpt b
  | .call f as => 1 + max (dpt f) (dpts as)
  | .seq ts => 1 + dpts ts
  | .prim _ ts => 1 + dpts ts
  | .fix _ ls b => 1 + max (dpts ls) (dpt b)
noncomputable def dpts : List Nd → Nat
  | [] => 0
  | t :: r => max (dpt t) (dpts r)
end
noncomputable def isLam (t : Nd) : Prop := ∃ lb ps rr B, t = Nd.lam lb ps rr B
theorem dpts_le {d : Nat} : ∀ {ts : List Nd}, (∀ t ∈ ts, dpt t ≤ d) → dpts ts ≤ d
  | [], _ => Nat.zero_le _
  | t :: r, h => by
    show max (dpt t) (dpts r) ≤ d
    exact Nat.max_le.mpr ⟨h t (.head _), dpts_le fun u hu => h u (.tail _ hu)⟩
theorem dpts_mem {t : Nd} : ∀ {ts : List Nd}, t ∈ ts → dpt t ≤ dpts ts
  | [], h => nomatch h
  | u :: r, h => by
    show dpt t ≤ max (dpt u) (dpts r)
    rcases List.mem_cons.mp h with rfl | h
    · exact Nat.le_max_left _ _
    · exact Nat.le_trans (dpts_mem h) (Nat.le_max_right _ _)
/-- a ledger's part bears the node at a value -/
inductive NodeIn (P : Params) (R : List (Addr × Obj)) : Value → Nd → Prop
  | const {x dx : Addr} {v : Value} {t : Tok} {n : Nat} : (x, instObj 66 dx) ∈ R → (dx, dictOf [fld P "value" t v] n) ∈ R → NodeIn P R (.ref x) .const
  | loc {x dx : Addr} {k : Int} {tk t : Tok} {n : Nat} : (x, instObj 85 dx) ∈ R → (dx, dictOf [fld P "number" t (.int k tk)] n) ∈ R → NodeIn P R (.ref x) (.loc k)
  | glob {x dx : Addr} {k : Int} {tk t : Tok} {n : Nat} : (x, instObj 104 dx) ∈ R → (dx, dictOf [fld P "symbol" t (.int k tk)] n) ∈ R → NodeIn P R (.ref x) (.glob k)
  | setL {x dx : Addr} {k : Int} {tk t t' : Tok} {n : Nat} {c : Value} {T : Nd} : (x, instObj 137 dx) ∈ R → (dx, dictOf [fld P "number" t (.int k tk), fld P "value" t' c] n) ∈ R → NodeIn P R c T → NodeIn P R (.ref x) (.setL k T)
  | setG {x dx : Addr} {k : Int} {tk t t' : Tok} {n : Nat} {c : Value} {T : Nd} : (x, instObj 170 dx) ∈ R → (dx, dictOf [fld P "symbol" t (.int k tk), fld P "value" t' c] n) ∈ R → NodeIn P R c T → NodeIn P R (.ref x) (.setG k T)
  | defn {x dx : Addr} {k : Int} {tk t t' : Tok} {n : Nat} {c : Value} {T : Nd} : (x, instObj 203 dx) ∈ R → (dx, dictOf [fld P "symbol" t (.int k tk), fld P "value" t' c] n) ∈ R → NodeIn P R c T → NodeIn P R (.ref x) (.defn k T)
  | iff {x dx : Addr} {t1 t2 t3 : Tok} {n : Nat} {a b c : Value} {A B C : Nd} : (x, instObj 236 dx) ∈ R → (dx, dictOf [fld P "test" t1 a, fld P "yes" t2 b, fld P "no" t3 c] n) ∈ R → NodeIn P R a A → NodeIn P R b B → NodeIn P R c C → NodeIn P R (.ref x) (.iff A B C)
  | lam {x dx lp : Addr} {lb r : Int} {tl tr t1 t2 t3 t4 : Tok} {n np : Nat} {ps : List Int} {vps : List Value} {b : Value} {B : Nd} : (x, instObj 283 dx) ∈ R →
      (dx, dictOf [fld P "label" t1 (.int lb tl), fld P "params" t2 (.ref lp), fld P "rest" t3 (.int r tr), fld P "body" t4 b] n) ∈ R → (lp, listOf vps.toArray np) ∈ R → IntsAre vps ps → 0 ≤ lb → NodeIn P R b B → NodeIn P R (.ref x) (.lam lb ps r B)
  | call {x dx l : Addr} {t1 t2 : Tok} {n nl : Nat} {f : Value} {F : Nd} {vs : List Value} {ts : List Nd} : (x, instObj 316 dx) ∈ R → (dx, dictOf [fld P "operator" t1 f, fld P "operands" t2 (.ref l)] n) ∈ R → (l, listOf vs.toArray nl) ∈ R →
      NodeIn P R f F → vs.length = ts.length → (∀ (i : Nat) (v : Value) (T : Nd), vs[i]? = some v → ts[i]? = some T → NodeIn P R v T) → NodeIn P R (.ref x) (.call F ts)
  | seq {x dx l : Addr} {t1 : Tok} {n nl : Nat} {vs : List Value} {ts : List Nd} : (x, instObj 349 dx) ∈ R → (dx, dictOf [fld P "items" t1 (.ref l)] n) ∈ R → (l, listOf vs.toArray nl) ∈ R →
      vs.length = ts.length → (∀ (i : Nat) (v : Value) (T : Nd), vs[i]? = some v → ts[i]? = some T → NodeIn P R v T) → NodeIn P R (.ref x) (.seq ts)
  | prim {x dx l : Addr} {op : Int} {to t1 t2 : Tok} {n nl : Nat} {vs : List Value} {ts : List Nd} : (x, instObj 382 dx) ∈ R → (dx, dictOf [fld P "op" t1 (.int op to), fld P "operands" t2 (.ref l)] n) ∈ R → (l, listOf vs.toArray nl) ∈ R →
      vs.length = ts.length → (∀ (i : Nat) (v : Value) (T : Nd), vs[i]? = some v → ts[i]? = some T → NodeIn P R v T) → NodeIn P R (.ref x) (.prim op ts)
  | fix {x dx ln l : Addr} {t1 t2 t3 : Tok} {n nn nl : Nat} {ns : List Int} {vns : List Value} {vs : List Value} {ts : List Nd} {b : Value} {B : Nd} : (x, instObj 415 dx) ∈ R →
      (dx, dictOf [fld P "numbers" t1 (.ref ln), fld P "lambdas" t2 (.ref l), fld P "body" t3 b] n) ∈ R → (ln, listOf vns.toArray nn) ∈ R → IntsAre vns ns → (l, listOf vs.toArray nl) ∈ R →
      vs.length = ts.length → (∀ (i : Nat) (v : Value) (T : Nd), vs[i]? = some v → ts[i]? = some T → NodeIn P R v T) → NodeIn P R b B → NodeIn P R (.ref x) (.fix ns ts B)
/-- a list's values and their nodes -/
noncomputable def NodesIn (P : Params) (R : List (Addr × Obj)) (vs : List Value) (ts : List Nd) : Prop := vs.length = ts.length ∧ ∀ (i : Nat) (v : Value) (T : Nd), vs[i]? = some v → ts[i]? = some T → NodeIn P R v T
theorem NodeIn.mono {P : Params} {R R' : List (Addr × Obj)} {v : Value} {t : Nd} (h : NodeIn P R v t) (s : ∀ p ∈ R, p ∈ R') : NodeIn P R' v t := by
  induction h with
  | const h1 h2 => exact .const (s _ h1) (s _ h2)
  | loc h1 h2 => exact .loc (s _ h1) (s _ h2)
  | glob h1 h2 => exact .glob (s _ h1) (s _ h2)
  | setL h1 h2 _ ih => exact .setL (s _ h1) (s _ h2) ih
  | setG h1 h2 _ ih => exact .setG (s _ h1) (s _ h2) ih
  | defn h1 h2 _ ih => exact .defn (s _ h1) (s _ h2) ih
  | iff h1 h2 _ _ _ i1 i2 i3 => exact .iff (s _ h1) (s _ h2) i1 i2 i3
  | lam h1 h2 h3 h4 h5 _ ih => exact .lam (s _ h1) (s _ h2) (s _ h3) h4 h5 ih
  | call h1 h2 h3 _ h5 _ i1 i2 => exact .call (s _ h1) (s _ h2) (s _ h3) i1 h5 i2
  | seq h1 h2 h3 h4 _ ih => exact .seq (s _ h1) (s _ h2) (s _ h3) h4 ih
  | prim h1 h2 h3 h4 _ ih => exact .prim (s _ h1) (s _ h2) (s _ h3) h4 ih
  | fix h1 h2 h3 h4 h5 h6 _ _ i1 i2 => exact .fix (s _ h1) (s _ h2) (s _ h3) h4 (s _ h5) h6 i1 i2
theorem NodesIn.mono {P : Params} {R R' : List (Addr × Obj)} {vs : List Value} {ts : List Nd} (h : NodesIn P R vs ts) (s : ∀ p ∈ R, p ∈ R') : NodesIn P R' vs ts := ⟨h.1, fun i v T hv hT => (h.2 i v T hv hT).mono s⟩
theorem NodesIn.nil {P : Params} {R : List (Addr × Obj)} : NodesIn P R [] [] := ⟨rfl, fun _ _ _ h => by simp at h⟩
theorem NodesIn.cons {P : Params} {R : List (Addr × Obj)} {v : Value} {t : Nd} {vs : List Value} {ts : List Nd} (h : NodeIn P R v t) (k : NodesIn P R vs ts) : NodesIn P R (v :: vs) (t :: ts) := by
  refine ⟨by rw [List.length_cons, List.length_cons, k.1], fun i w T hw hT => ?_⟩
  cases i with
  | zero =>
    simp only [List.getElem?_cons_zero, Option.some.injEq] at hw hT
    subst hw hT; exact h
  | succ i => exact k.2 i w T (by simpa using hw) (by simpa using hT)
theorem NodesIn.cases {P : Params} {R : List (Addr × Obj)} {vs : List Value} {ts : List Nd} (h : NodesIn P R vs ts) : (vs = [] ∧ ts = []) ∨ ∃ v t vs' ts', vs = v :: vs' ∧ ts = t :: ts' ∧ NodeIn P R v t ∧ NodesIn P R vs' ts' := by
  obtain ⟨hl, hi⟩ := h
  cases vs with
  | nil => cases ts with
    | nil => exact .inl ⟨rfl, rfl⟩
    | cons => simp at hl
  | cons v vs => cases ts with
    | nil => simp at hl
    | cons t ts => exact .inr ⟨v, t, vs, ts, rfl, rfl, hi 0 v t rfl rfl, by simpa using hl, fun i w T hw hT => hi (i + 1) w T (by simpa using hw) (by simpa using hT)⟩
theorem NodesIn.snoc {P : Params} {R : List (Addr × Obj)} {vs : List Value} {ts : List Nd} {v : Value} {t : Nd} (k : NodesIn P R vs ts) (h : NodeIn P R v t) : NodesIn P R (vs ++ [v]) (ts ++ [t]) := by
  induction vs generalizing ts with
  | nil =>
    rcases k.cases with ⟨_, rfl⟩ | ⟨_, _, _, _, e, _⟩
    · exact .cons h .nil
    · cases e
  | cons w vs ih =>
    rcases k.cases with ⟨e, _⟩ | ⟨w', t', vs', ts', e, rfl, h1, h2⟩
    · cases e
    · cases e; exact .cons h1 (ih h2)
theorem NodeIn.ref {P : Params} {R : List (Addr × Obj)} {v : Value} {t : Nd} (h : NodeIn P R v t) : ∃ x C dx, v = .ref x ∧ (x, instObj C dx) ∈ R := by
  cases h <;> exact ⟨_, _, _, rfl, by assumption⟩
noncomputable def bnd : Nat → Nat
  | 0 => 1
  | k + 1 => 4 * bnd k + 30
theorem bnd_pos : ∀ k, 0 < bnd k
  | 0 => by decide
  | k + 1 => by unfold bnd; omega
theorem wts_append (a b : List Nd) : wts (a ++ b) = wts a + wts b := by
  induction a with
  | nil => simp [wts]
  | cons t a ih => simp only [List.cons_append, wts, ih]; omega
noncomputable def DeckO (o : Obj) : Prop := ∃ vs ns n, o = listOf (List.toArray vs) n ∧ IntsAre vs ns ∧ ns.length ≤ 100
noncomputable def StateO (o : Obj) : Prop := ∃ a b ta tb n, o = listOf (List.toArray [.int a ta, .int b tb]) n ∧ 0 ≤ b
/-- the ledger's shape in a builder: two cells that turn ahead of R; l what stood at the start, X what has been made since -/
structure Led (d : Addr) (od : Obj) (e : Addr) (oe : Obj) (l X R : List (Addr × Obj)) : Prop where
  dO : DeckO od
  sO : StateO oe
  de : NeA d e
  nd : ∀ p ∈ R, p.1 ≠ d
  ns : ∀ p ∈ R, p.1 ≠ e
  low : ∀ p ∈ l, p ∈ R
  new : ∀ p ∈ X, p ∈ R
  ab : ∀ p ∈ X, ∀ q ∈ l, q.1 ≠ p.1
section
variable {d e : Addr} {od oe od' oe' : Obj} {l X R x : List (Addr × Obj)}
theorem Led.above (h : Led d od e oe l X R) : Above2 d e l X := fun p hp => ⟨⟨h.nd p (h.new p hp), h.ns p (h.new p hp)⟩, h.ab p hp⟩
theorem Led.turn (h : Led d od e oe l X R) (a : DeckO od') (b : StateO oe') : Led d od' e oe' l X R := { h with dO := a, sO := b }
theorem Led.cons {D : Addr} {o : Obj} (h : Led d od e oe l X R) (a : ∀ p ∈ (d, od) :: (e, oe) :: R, p.1 < D) : Led d od e oe l ((D, o) :: X) ((D, o) :: R) where
  dO := h.dO
  sO := h.sO
  de := h.de
  nd := List.forall_mem_cons.mpr ⟨Ne.symm (Nat.ne_of_lt (a _ (.head _))), h.nd⟩
  ns := List.forall_mem_cons.mpr ⟨Ne.symm (Nat.ne_of_lt (a _ (.tail _ (.head _)))), h.ns⟩
  low := fun p hp => .tail _ (h.low p hp)
  new := List.forall_mem_cons.mpr ⟨.head _, fun p hp => .tail _ (h.new p hp)⟩
  ab := List.forall_mem_cons.mpr ⟨fun q hq => Nat.ne_of_lt (a q (.tail _ (.tail _ (h.low q hq)))), h.ab⟩
theorem Led.app (h : Led d od e oe l X R) (a : Above2 d e R x) (b : DeckO od') (c : StateO oe') : Led d od' e oe' l (x ++ X) (x ++ R) where
  dO := b
  sO := c
  de := h.de
  nd := List.forall_mem_append.mpr ⟨a.ne1, h.nd⟩
  ns := List.forall_mem_append.mpr ⟨a.ne2, h.ns⟩
  low := fun p hp => List.mem_append_right _ (h.low p hp)
  new := List.forall_mem_append.mpr ⟨fun p hp => List.mem_append_left _ hp, fun p hp => List.mem_append_right _ (h.new p hp)⟩
  ab := List.forall_mem_append.mpr ⟨fun p hp q hq => (a p hp).2 q (h.low q hq), h.ab⟩
theorem Led.start (a : DeckO od) (b : StateO oe) (c : NeA d e) (nd : ∀ p ∈ l, p.1 ≠ d) (ns : ∀ p ∈ l, p.1 ≠ e) : Led d od e oe l [] l :=
  ⟨a, b, c, nd, ns, fun _ h => h, (fun _ h => nomatch h), (fun _ h => nomatch h)⟩
/-- the cells of a frame lie above what stood -/
theorem Led.cells (h : Led d od e oe l X R) {b : Addr} (a : CellsOff b ((d, od) :: (e, oe) :: R)) (hx : ∀ p ∈ x, b ≤ p.1) : Led d od e oe l (x ++ X) (x ++ R) :=
  h.app (fun p hp => ⟨⟨Ne.symm (Nat.ne_of_lt (Nat.lt_of_lt_of_le (a _ (.head _)) (hx p hp))), Ne.symm (Nat.ne_of_lt (Nat.lt_of_lt_of_le (a _ (.tail _ (.head _))) (hx p hp)))⟩, fun q hq => Nat.ne_of_lt (Nat.lt_of_lt_of_le (a q (.tail _ (.tail _ hq))) (hx p hp))⟩) h.dO h.sO
/-- the ledger's order: the two that turn ahead -/
theorem led_front1 {h₀ h : Heap} {L : Addr} {q : Addr × Obj} (N : News h₀ L h (q :: (d, od) :: (e, oe) :: R)) : News h₀ L h ((d, od) :: (e, oe) :: q :: R) := newsSub N fun p hp => by
  rcases List.mem_cons.mp hp with rfl | hp
  · exact .tail _ (.head _)
  · rcases List.mem_cons.mp hp with rfl | hp
    · exact .tail _ (.tail _ (.head _))
    · rcases List.mem_cons.mp hp with rfl | hp
      · exact .head _
      · exact .tail _ (.tail _ (.tail _ hp))
theorem led_front {h₀ h : Heap} {L : Addr} (N : News h₀ L h (x ++ (d, od) :: (e, oe) :: R)) : News h₀ L h ((d, od) :: (e, oe) :: (x ++ R)) := newsSub N fun p hp => by
  rcases List.mem_cons.mp hp with rfl | hp
  · exact List.mem_append_right _ (.head _)
  · rcases List.mem_cons.mp hp with rfl | hp
    · exact List.mem_append_right _ (.tail _ (.head _))
    · rcases List.mem_append.mp hp with hp | hp
      · exact List.mem_append_left _ hp
      · exact List.mem_append_right _ (.tail _ (.tail _ hp))
end
/-- a list of ints in a ledger -/
noncomputable def IntL (R : List (Addr × Obj)) (a : Addr) (b : Nat) : Prop := ∃ vs ns n, (a, listOf (List.toArray vs) n) ∈ R ∧ IntsAre vs ns ∧ ns.length ≤ b
theorem IntL.mono {R R' : List (Addr × Obj)} {a : Addr} {b b' : Nat} (h : IntL R a b) (s : ∀ p ∈ R, p ∈ R') (hb : b ≤ b') : IntL R' a b' := let ⟨vs, ns, n, hm, hi, hl⟩ := h; ⟨vs, ns, n, s _ hm, hi, Nat.le_trans hl hb⟩
noncomputable def IntX (R : List (Addr × Obj)) (a : Addr) (b : Nat) : Prop := IntL R a b
theorem IntX.mono {R R' : List (Addr × Obj)} {a : Addr} {b b' : Nat} (h : IntX R a b) (s : ∀ p ∈ R, p ∈ R') (hb : b ≤ b') : IntX R' a b' := IntL.mono h s hb
noncomputable def dmN (k : Nat) : Nat := 60 + 10 * k
noncomputable def umN (k : Nat) : Nat := 600 + 100 * k
/-- what a builder's call hands back: a node, all its objects new -/
noncomputable def Built (P : Params) (d e : Addr) (rest : List (Addr × Obj)) (b : Nat) (Z : Nd → Prop) (r : Value) (news' : List (Addr × Obj)) : Prop :=
  ∃ od oe x T, news' = (d, od) :: (e, oe) :: (x ++ rest) ∧ DeckO od ∧ StateO oe ∧ Above2 d e rest x ∧ NodeIn P x r T ∧ wt T ≤ b ∧ Z T
noncomputable def NodeS (w : World) (k : Nat) : Prop := ∀ {d e kn : Addr} {od oe : Obj} {deep : Int} {td : Tok} {l X R : List (Addr × Obj)} {b : Nat},
  Led d od e oe l X R → IntL R kn b → b + 10 * k ≤ 100 → deep ≤ k → -5 ≤ deep →
  Spec w 797 (dmN k) (umN k) [.ref d, .ref e, .ref kn, .int deep td] ((d, od) :: (e, oe) :: R) (Built w.params d e R (bnd k) fun T => dpt T ≤ 2 * k + 1) NoX
/-- the end of a builder's walk -/
theorem built_end {P : Params} {h₀ h' : Heap} {L : Addr} {m : Str → Option Value} {Q : Value → Shared → Prop} {s : Shared} {tk' : Nat} {d e : Addr} {od oe : Obj} {l X R : List (Addr × Obj)} {b : Nat} {Z : Nd → Prop} {r : Value}
    (hret : ∀ r news' h' tk', Fr h₀ L h' m → News h₀ L h' news' → Built P d e l b Z r news' → Q r { s with heap := h', toks := tk' })
    (F : Fr h₀ L h' m) (N : News h₀ L h' ((d, od) :: (e, oe) :: R)) (Ld : Led d od e oe l X R) {T : Nd} (hT : NodeIn P X r T) (hw : wt T ≤ b) (hZ : Z T) : Q r { s with heap := h', toks := tk' } :=
  hret _ _ _ _ F (newsSub N (List.forall_mem_cons.mpr ⟨.head _, List.forall_mem_cons.mpr ⟨.tail _ (.head _), fun p hp => .tail _ (.tail _ ((List.mem_append.mp hp).elim (Ld.new p) (Ld.low p)))⟩⟩))
    ⟨_, _, _, T, rfl, Ld.dO, Ld.sO, Ld.above, hT, hw, hZ⟩
section
variable {w : World} {dp un : Nat} {gd : Option (List Code)} {cn : Str} {cs : Scope} {a : Addr} {ccd : Value} {cl : List (Str × Addr)} {outer : List Env} {A₀ : Around} {base h₀ : Heap} {L : Addr} {m : Str → Option Value} {s : Shared}
    {Q E : Value → Shared → Prop} {p : Program} {loose : List Str} {mean : ExcName → Option Value} {mg mb : Str → Option Value} {d e : Addr} {od oe : Obj} {l X R : List (Addr × Obj)}
theorem u_draw {many : Int} {t : Tok} (Ld : Led d od e oe l X R) (N : News h₀ L s.heap ((d, od) :: (e, oe) :: R)) (B : Below A₀ base outer h₀) (F : Fr h₀ L s.heap m) (K : (KK w.params).In h₀) (P : Prims h₀) (T : Top p loose mean mg mb h₀) (hk : cs.kind = .function)
    (hd : dp + 10 < recursionLimit) (hu : un + 100 < cLine) (hm : 0 < many) (hm' : many < 1000)
    (h : ∀ od' k t' h' tk', Fr h₀ L h' m → News h₀ L h' ((d, od') :: (e, oe) :: R) → Led d od' e oe l X R → 0 ≤ k → k < many → Q (.int k t') { s with heap := h', toks := tk' }) :
    wpAny (model lw.row.prog w) (ktrTop dp un gd cn cs L a ccd cl outer) (call (.ref 756) [.ref d, .int many t]) Q E s := by
  obtain ⟨vs, ns, n, rfl, hI, hl⟩ := Ld.dO
  refine Spec.use (draw_spec w hI (List.forall_mem_cons.mpr ⟨Ld.de.sym, Ld.nd⟩) hm hm' hl) B F K P N T hk hd hu (fun r news' h' tk' F' N' hr => ?_) (fun _ _ _ _ _ _ x => x.elim)
  obtain ⟨vs', ns', n', k, t', rfl, rfl, hI', hl', h0, h1⟩ := hr
  exact h _ _ _ _ _ F' N' { Ld with dO := ⟨_, _, _, rfl, hI', hl'⟩ } h0 h1
theorem u_one {it : Addr} {vis : List Value} {nis : List Int} {ni : Nat} (Ld : Led d od e oe l X R) (N : News h₀ L s.heap ((d, od) :: (e, oe) :: R)) (B : Below A₀ base outer h₀) (F : Fr h₀ L s.heap m) (K : (KK w.params).In h₀) (P : Prims h₀) (T : Top p loose mean mg mb h₀) (hk : cs.kind = .function)
    (hd : dp + 20 < recursionLimit) (hu : un + 200 < cLine) (hit : (it, listOf vis.toArray ni) ∈ R) (hII : IntsAre vis nis) (h0 : 0 < nis.length) (h1 : nis.length < 1000)
    (h : ∀ od' k t' h' tk', Fr h₀ L h' m → News h₀ L h' ((d, od') :: (e, oe) :: R) → Led d od' e oe l X R → Q (.int k t') { s with heap := h', toks := tk' }) :
    wpAny (model lw.row.prog w) (ktrTop dp un gd cn cs L a ccd cl outer) (call (.ref 768) [.ref d, .ref it]) Q E s := by
  obtain ⟨vs, ns, n, rfl, hI, hl⟩ := Ld.dO
  refine Spec.use (one_spec w hI (List.forall_mem_cons.mpr ⟨Ld.de.sym, Ld.nd⟩) hl (.tail _ hit) hII h0 h1) B F K P N T hk hd hu (fun r news' h' tk' F' N' hr => ?_) (fun _ _ _ _ _ _ x => x.elim)
  obtain ⟨vs', ns', n', k, t', rfl, rfl, hI', hl'⟩ := hr
  exact h _ _ _ _ _ F' N' { Ld with dO := ⟨_, _, _, rfl, hI', hl'⟩ }
theorem u_bind {at_ : Int} {t : Tok} (Ld : Led d od e oe l X R) (N : News h₀ L s.heap ((d, od) :: (e, oe) :: R)) (B : Below A₀ base outer h₀) (F : Fr h₀ L s.heap m) (K : (KK w.params).In h₀) (P : Prims h₀) (T : Top p loose mean mg mb h₀) (hk : cs.kind = .function)
    (hd : dp + 40 < recursionLimit) (hu : un + 400 < cLine) (ha : at_ = 0 ∨ at_ = 1)
    (h : ∀ od' oe' k t' h' tk', Fr h₀ L h' m → News h₀ L h' ((d, od') :: (e, oe') :: R) → Led d od' e oe' l X R → (at_ = 1 → 0 ≤ k) → Q (.int k t') { s with heap := h', toks := tk' }) :
    wpAny (model lw.row.prog w) (ktrTop dp un gd cn cs L a ccd cl outer) (call (.ref 782) [.ref d, .ref e, .int at_ t]) Q E s := by
  obtain ⟨vs, ns, n, rfl, hI, hl⟩ := Ld.dO
  obtain ⟨a0, b0, ta, tb, n2, rfl, hb⟩ := Ld.sO
  refine Spec.use (bind_spec w hI Ld.de Ld.nd Ld.ns hl hb ha) B F K P N T hk hd hu (fun r news' h' tk' F' N' hr => ?_) (fun _ _ _ _ _ _ x => x.elim)
  obtain ⟨vs', ns', n', a1, b1, ta1, tb1, n2', k, t', rfl, rfl, hI', hl', hb', hk'⟩ := hr
  exact h _ _ _ _ _ _ F' N' { Ld with dO := ⟨_, _, _, rfl, hI', hl'⟩, sO := ⟨_, _, _, _, _, rfl, hb'⟩ } hk'
/-- a call that builds -/
theorem u_built {f : Addr} {dm um bd : Nat} {Z : Nd → Prop} {vs : List Value} (S : Spec w f dm um vs ((d, od) :: (e, oe) :: R) (Built w.params d e R bd Z) NoX) (Ld : Led d od e oe l X R) (N : News h₀ L s.heap ((d, od) :: (e, oe) :: R)) (B : Below A₀ base outer h₀) (F : Fr h₀ L s.heap m) (K : (KK w.params).In h₀) (P : Prims h₀) (T : Top p loose mean mg mb h₀) (hk : cs.kind = .function)
    (hd : dp + dm < recursionLimit) (hu : un + um < cLine)
    (h : ∀ od' oe' x r T h' tk', Fr h₀ L h' m → News h₀ L h' ((d, od') :: (e, oe') :: (x ++ R)) → Led d od' e oe' l (x ++ X) (x ++ R) → NodeIn w.params x r T → wt T ≤ bd → Z T → Q r { s with heap := h', toks := tk' }) :
    wpAny (model lw.row.prog w) (ktrTop dp un gd cn cs L a ccd cl outer) (call (.ref f) vs) Q E s := by
  refine Spec.use S B F K P N T hk hd hu (fun r news' h' tk' F' N' hr => ?_) (fun _ _ _ _ _ _ x => x.elim)
  obtain ⟨od', oe', x, T, rfl, hd', hs', hA, hT, hw, hZ⟩ := hr
  exact h _ _ x _ T _ _ F' N' (Ld.app hA hd' hs') hT hw hZ
theorem u_node {k b : Nat} {kn : Addr} {deep : Int} {td : Tok} (hN : NodeS w k) (Ld : Led d od e oe l X R) (N : News h₀ L s.heap ((d, od) :: (e, oe) :: R)) (B : Below A₀ base outer h₀) (F : Fr h₀ L s.heap m) (K : (KK w.params).In h₀) (P : Prims h₀) (T : Top p loose mean mg mb h₀) (hk : cs.kind = .function)
    (hd : dp + dmN k < recursionLimit) (hu : un + umN k < cLine) (hkn : IntL R kn b) (hb : b + 10 * k ≤ 100) (h1 : deep ≤ k) (h2 : -5 ≤ deep)
    (h : ∀ od' oe' x r T h' tk', Fr h₀ L h' m → News h₀ L h' ((d, od') :: (e, oe') :: (x ++ R)) → Led d od' e oe' l (x ++ X) (x ++ R) → NodeIn w.params x r T → wt T ≤ bnd k → dpt T ≤ 2 * k + 1 → Q r { s with heap := h', toks := tk' }) :
    wpAny (model lw.row.prog w) (ktrTop dp un gd cn cs L a ccd cl outer) (call (.ref 797) [.ref d, .ref e, .ref kn, .int deep td]) Q E s :=
  u_built (hN Ld hkn hb h1 h2) Ld N B F K P T hk hd hu h
theorem u_newList {vs : List Value} (M : Model) (A : Around) (Ld : Led d od e oe l X R) (N : News h₀ L s.heap ((d, od) :: (e, oe) :: R)) (F : Fr h₀ L s.heap m) (hz : vs.length ≤ 1000)
    (h : ∀ D h', Fr h₀ L h' m → News h₀ L h' ((d, od) :: (e, oe) :: (D, listOf vs.toArray 0) :: R) → Led d od e oe l ((D, listOf vs.toArray 0) :: X) ((D, listOf vs.toArray 0) :: R) → Q (.ref D) { s with heap := h' }) : wpAny M A (newList vs) Q E s :=
  newList_K F N (fun D h' F' N' l1 => h D h' F' (led_front1 N') (Ld.cons l1)) (by rw [sizeLine_eq]; omega)
theorem u_add {la lb : Addr} {b b2 : Nat} (prog : Program) (A : Around) (Ld : Led d od e oe l X R) (N : News h₀ L s.heap ((d, od) :: (e, oe) :: R)) (F : Fr h₀ L s.heap m) (ha : IntL R la b) (hb : IntL R lb b2) (hz : b + b2 ≤ 1000)
    (h : ∀ D o h', Fr h₀ L h' m → News h₀ L h' ((d, od) :: (e, oe) :: (D, o) :: R) → Led d od e oe l ((D, o) :: X) ((D, o) :: R) → IntL ((D, o) :: R) D (b + b2) → Q (.ref D) { s with heap := h' }) : wpAny (model prog w) A (binaryOp .Add (.ref la) (.ref lb)) Q E s := by
  obtain ⟨vs, ns, n, hm, hi, hl⟩ := ha
  obtain ⟨ws, ms, n2, hm2, hi2, hl2⟩ := hb
  refine kmk_add_ints F N (is_list_at N (.tail _ (.tail _ hm))) (is_list_at N (.tail _ (.tail _ hm2))) hi hi2 (fun D us h' F' N' l1 hu => ?_) (by rw [sizeLine_eq]; omega)
  exact h D _ h' F' (led_front1 N') (Ld.cons l1) ⟨us, _, 0, .head _, hu, by rw [List.length_append]; omega⟩
end
/-! comprehensions that build -/
noncomputable def TurnEnd (h₀ : Heap) (L : Addr) (m : Str → Option Value) (s : Shared) (d e : Addr) (R₁ : List (Addr × Obj)) (G : List (Addr × Obj) → Value → Prop) (y : Value) (s' : Shared) : Prop :=
  ∃ h' tk' od' oe' z R', s' = { s with heap := h', toks := tk' } ∧ Fr h₀ L h' m ∧ News h₀ L h' ((d, od') :: (e, oe') :: R') ∧ Led d od' e oe' R₁ z R' ∧ G z y
theorem TurnEnd.intro {h₀ h' : Heap} {L : Addr} {m : Str → Option Value} {s : Shared} {d e : Addr} {R₁ z R' : List (Addr × Obj)} {G : List (Addr × Obj) → Value → Prop} {y : Value} {tk' : Nat} {od' oe' : Obj}
    (F : Fr h₀ L h' m) (N : News h₀ L h' ((d, od') :: (e, oe') :: R')) (Ld : Led d od' e oe' R₁ z R') (g : G z y) : TurnEnd h₀ L m s d e R₁ G y { s with heap := h', toks := tk' } := ⟨h', tk', od', oe', z, R', rfl, F, N, Ld, g⟩
noncomputable def CompJ (d e : Addr) (R : List (Addr × Obj)) (G : List (Addr × Obj) → Value → Prop) (i : Nat) (ys : List Value) (news : List (Addr × Obj)) : Prop :=
  ∃ od oe x, news = (d, od) :: (e, oe) :: (x ++ R) ∧ Led d od e oe R x (x ++ R) ∧ ys.length = i ∧ ∀ y ∈ ys, G x y
theorem comp_turns {prog : Program} {w : World} {A : Around} {h₀ : Heap} {L : Addr} {m : Str → Option Value} {env : Env} {elt : PySem.Expr} {x : Str} {scope : Scope} {cl : List (Str × Addr)} {s : Shared} {S : List (Addr × Obj) → Prop} {P : Nat → Value → Prop}
    {Fin : List Value → List (Addr × Obj) → Prop} {d e : Addr} {od oe : Obj} {l X R : List (Addr × Obj)} {n : Nat} (Ld : Led d od e oe l X R) (G : List (Addr × Obj) → Value → Prop) (hG : ∀ x x' v, G x v → (∀ p ∈ x, p ∈ x') → G x' v)
    (hS : ∀ news, (∀ p ∈ R, p ∈ news) → S news)
    (turn : ∀ i v I oI C oC D ys x₁ od₁ oe₁ m₂ h tk (E' : Value → Shared → Prop), i < n → P i v → LCg.NsObj oC m₂ → m₂ x = some v → Fr h₀ L h m → News h₀ L h ((d, od₁) :: (e, oe₁) :: (I, oI) :: (C, oC) :: (D, LCg.lst ys) :: (x₁ ++ R)) →
      Led d od₁ e oe₁ ((I, oI) :: (C, oC) :: (D, LCg.lst ys) :: (x₁ ++ R)) [] ((I, oI) :: (C, oC) :: (D, LCg.lst ys) :: (x₁ ++ R)) →
      wpAny (model prog w) A (eval elt (compEnvC scope cl C env)) (TurnEnd h₀ L m { s with heap := h, toks := tk } d e ((I, oI) :: (C, oC) :: (D, LCg.lst ys) :: (x₁ ++ R)) G) E' { s with heap := h, toks := tk })
    (fin : ∀ ys x₁ od₁ oe₁, ys.length = n → (∀ y ∈ ys, G x₁ y) → Led d od₁ e oe₁ R x₁ (x₁ ++ R) → Fin ys ((d, od₁) :: (e, oe₁) :: (x₁ ++ R))) :
    LCg.CompRest prog w A h₀ L m env elt x scope cl s S P Fin n 0 [] ((d, od) :: (e, oe) :: R) := by
  refine compRest_of (CompJ d e R G) ⟨od, oe, [], rfl, Led.start Ld.dO Ld.sO Ld.de Ld.nd Ld.ns, rfl, fun _ h => nomatch h⟩ (fun i ys news hi hJ v I oI C oC D m₂ h tk E' hP hC hx F N off ne => ?_) (fun ys news hJ => ?_)
  · obtain ⟨od₁, oe₁, x₁, rfl, L1, hl, hg⟩ := hJ
    obtain ⟨o1, o2, o3⟩ := off3_ne off
    have N1 : News h₀ L h ((d, od₁) :: (e, oe₁) :: (I, oI) :: (C, oC) :: (D, LCg.lst ys) :: (x₁ ++ R)) := led_front (x := [(I, oI), (C, oC), (D, LCg.lst ys)]) N
    have L2 : Led d od₁ e oe₁ ((I, oI) :: (C, oC) :: (D, LCg.lst ys) :: (x₁ ++ R)) [] ((I, oI) :: (C, oC) :: (D, LCg.lst ys) :: (x₁ ++ R)) :=
      Led.start L1.dO L1.sO L1.de
        (List.forall_mem_cons.mpr ⟨Ne.symm (o1 _ (.head _)), List.forall_mem_cons.mpr ⟨Ne.symm (o2 _ (.head _)), List.forall_mem_cons.mpr ⟨Ne.symm (o3 _ (.head _)), L1.nd⟩⟩⟩)
        (List.forall_mem_cons.mpr ⟨Ne.symm (o1 _ (.tail _ (.head _))), List.forall_mem_cons.mpr ⟨Ne.symm (o2 _ (.tail _ (.head _))), List.forall_mem_cons.mpr ⟨Ne.symm (o3 _ (.tail _ (.head _))), L1.ns⟩⟩⟩)
    refine wpAny_mono (turn i v I oI C oC D ys x₁ od₁ oe₁ m₂ h tk E' hi hP hC hx F N1 L2) (fun y s' hE => ?_) fun _ _ e => e
    obtain ⟨h', tk', od', oe', z, R', rfl, F', N', L3, g⟩ := hE
    have sub : ∀ p ∈ z ++ (x₁ ++ R), p ∈ R' := List.forall_mem_append.mpr ⟨L3.new, fun p hp => L3.low p (.tail _ (.tail _ (.tail _ hp)))⟩
    have inR : ∀ p ∈ (I, oI) :: (C, oC) :: (D, LCg.lst ys) :: (x₁ ++ R), p ∈ R' := L3.low
    have L4 : Led d od' e oe' R (z ++ x₁) ((z ++ x₁) ++ R) := by
      rw [List.append_assoc]
      exact L1.app (fun p hp => ⟨(L3.above p hp).1, fun q hq => L3.ab p hp q (.tail _ (.tail _ (.tail _ hq)))⟩) L3.dO L3.sO
    have zI : ∀ p ∈ z, p.1 ≠ I ∧ p.1 ≠ C ∧ p.1 ≠ D := fun p hp => ⟨Ne.symm (L3.ab p hp _ (.head _)), Ne.symm (L3.ab p hp _ (.tail _ (.head _))), Ne.symm (L3.ab p hp _ (.tail _ (.tail _ (.head _))))⟩
    refine LCg.CompEnd.intro F' N' ((d, od') :: (e, oe') :: ((z ++ x₁) ++ R)) ?_ ?_ ?_ ⟨od', oe', z ++ x₁, rfl, L4, by rw [List.length_append, hl]; rfl, ?_⟩
    · refine List.forall_mem_cons.mpr ⟨.tail _ (.tail _ (inR _ (.head _))), List.forall_mem_cons.mpr ⟨.tail _ (.tail _ (inR _ (.tail _ (.head _)))), List.forall_mem_cons.mpr ⟨.tail _ (.tail _ (inR _ (.tail _ (.tail _ (.head _))))), List.forall_mem_cons.mpr ⟨.head _, List.forall_mem_cons.mpr ⟨.tail _ (.head _), fun p hp => .tail _ (.tail _ (sub p ?_))⟩⟩⟩⟩⟩
      rw [← List.append_assoc]; exact hp
    · refine off3_of ?_ ?_ ?_
      · refine List.forall_mem_cons.mpr ⟨o1 (d, od₁) (.head _), List.forall_mem_cons.mpr ⟨o1 (e, oe₁) (.tail _ (.head _)), ?_⟩⟩
        rw [List.append_assoc]
        exact List.forall_mem_append.mpr ⟨fun p hp => (zI p hp).1, fun p hp => o1 p (.tail _ (.tail _ hp))⟩
      · refine List.forall_mem_cons.mpr ⟨o2 (d, od₁) (.head _), List.forall_mem_cons.mpr ⟨o2 (e, oe₁) (.tail _ (.head _)), ?_⟩⟩
        rw [List.append_assoc]
        exact List.forall_mem_append.mpr ⟨fun p hp => (zI p hp).2.1, fun p hp => o2 p (.tail _ (.tail _ hp))⟩
      · refine List.forall_mem_cons.mpr ⟨o3 (d, od₁) (.head _), List.forall_mem_cons.mpr ⟨o3 (e, oe₁) (.tail _ (.head _)), ?_⟩⟩
        rw [List.append_assoc]
        exact List.forall_mem_append.mpr ⟨fun p hp => (zI p hp).2.2, fun p hp => o3 p (.tail _ (.tail _ hp))⟩
    · exact hS _ fun p hp => .tail _ (.tail _ (List.mem_append_right _ hp))
    · refine List.forall_mem_append.mpr ⟨fun y hy => hG _ _ _ (hg y hy) fun p hp => List.mem_append_right _ hp, fun v' hv => ?_⟩
      rw [List.mem_singleton.mp hv]
      exact hG _ _ _ g fun p hp => List.mem_append_left _ hp
  · obtain ⟨od₁, oe₁, x₁, rfl, L1, hl, hg⟩ := hJ
    exact fin _ _ _ _ hl hg L1
/-- an int that a turn yields -/
noncomputable def IntV (_ : List (Addr × Obj)) (v : Value) : Prop := ∃ k t, v = .int k t
theorem intsOf : ∀ {ys : List Value} {x : List (Addr × Obj)}, (∀ y ∈ ys, IntV x y) → ∃ ns, IntsAre ys ns
  | [], _, _ => ⟨[], .nil⟩
  | y :: ys, x, h => by
    obtain ⟨k, t, e⟩ := h y (.head _)
    have e : y = .int k t := e
    subst e
    obtain ⟨ns, hn⟩ := intsOf (x := x) fun z hz => h z (.tail _ hz)
    exact ⟨k :: ns, .cons k t hn⟩
noncomputable def NodeV (P : Params) (b : Nat) (Z : Nd → Prop) (x : List (Addr × Obj)) (v : Value) : Prop := ∃ T, NodeIn P x v T ∧ wt T ≤ b ∧ Z T
theorem NodeV.mono {P : Params} {b : Nat} {Z : Nd → Prop} (x x' : List (Addr × Obj)) (v : Value) (h : NodeV P b Z x v) (s : ∀ p ∈ x, p ∈ x') : NodeV P b Z x' v := let ⟨T, a, q⟩ := h; ⟨T, a.mono s, q⟩
theorem nodesOf {P : Params} {b : Nat} {Z : Nd → Prop} {x : List (Addr × Obj)} : ∀ {ys : List Value}, (∀ y ∈ ys, NodeV P b Z x y) → ∃ ts, NodesIn P x ys ts ∧ wts ts ≤ ys.length * b ∧ ∀ t ∈ ts, Z t
  | [], _ => ⟨[], .nil, Nat.zero_le _, fun _ h => nomatch h⟩
  | y :: ys, h => by
    obtain ⟨T, h1, h2, h3⟩ := h y (.head _)
    obtain ⟨ts, i1, i2, i3⟩ := nodesOf (ys := ys) fun z hz => h z (.tail _ hz)
    refine ⟨T :: ts, .cons h1 i1, ?_, List.forall_mem_cons.mpr ⟨h3, i3⟩⟩
    show wt T + wts ts ≤ (ys.length + 1) * b
    rw [Nat.succ_mul]
    omega
section
variable {w : World} {prog : Program} {A : Around} {h₀ : Heap} {L : Addr} {m : Str → Option Value} {s : Shared} {env : Env} {elt : PySem.Expr} {y : Str} {scope : Scope} {cl : List (Str × Addr)} {Fin : Shared → List Value → List (Addr × Obj) → Prop} {d e : Addr} {od oe : Obj} {l X R : List (Addr × Obj)}
theorem u_range {r : Addr} {b : Int} {t u v : Tok} (Ld : Led d od e oe l X R) (N : News h₀ L s.heap ((d, od) :: (e, oe) :: R)) (F : Fr h₀ L s.heap m) (hh : A.handled = none) (hr : IsRange s.heap r 0 b 1 t u v) (h0 : 0 ≤ b) (h1 : b ≤ 100) (G : List (Addr × Obj) → Value → Prop) (hG : ∀ x x' v, G x v → (∀ p ∈ x, p ∈ x') → G x' v)
    (turn : ∀ (g : Heap) v I oI C oC D ys x₁ od₁ oe₁ m₂ h tk (E' : Value → Shared → Prop), LCg.NsObj oC m₂ → m₂ y = some v → Fr h₀ L h m → News h₀ L h ((d, od₁) :: (e, oe₁) :: (I, oI) :: (C, oC) :: (D, LCg.lst ys) :: (x₁ ++ R)) →
      Led d od₁ e oe₁ ((I, oI) :: (C, oC) :: (D, LCg.lst ys) :: (x₁ ++ R)) [] ((I, oI) :: (C, oC) :: (D, LCg.lst ys) :: (x₁ ++ R)) →
      wpAny (model prog w) A (eval elt (compEnvC scope cl C env)) (TurnEnd h₀ L m { s with heap := h, toks := tk } d e ((I, oI) :: (C, oC) :: (D, LCg.lst ys) :: (x₁ ++ R)) G) E' { s with heap := h, toks := tk })
    (fin : ∀ (g : Heap) ys x₁ od₁ oe₁, (ys.length : Int) = b → (∀ y ∈ ys, G x₁ y) → Led d od₁ e oe₁ R x₁ (x₁ ++ R) → Fin { s with heap := g } ys ((d, od₁) :: (e, oe₁) :: (x₁ ++ R))) :
    LCg.CompSrc prog w A h₀ L m env elt y scope cl Fin (.ref r) s := by
  obtain ⟨n, rfl⟩ := Int.eq_ofNat_of_zero_le h0
  have hb : n ≤ 100 := by omega
  refine LCg.CompSrc.range hh F N hr (small_one (by omega) (by omega) (by omega) (by omega)) (n := n) (by rw [rangeSize_nat]; omega) (by rw [sizeLine_eq]; omega) fun g => ?_
  exact comp_turns (s := { s with heap := g }) Ld G hG (fun _ _ => trivial) (fun i v I oI C oC D ys x₁ od₁ oe₁ m₂ h tk E' hi hP hC hx F' N' L' => turn g v I oI C oC D ys x₁ od₁ oe₁ m₂ h tk E' hC hx F' N' L') (fun ys x₁ od₁ oe₁ hl hg L' => fin g ys x₁ od₁ oe₁ (by rw [hl]) hg L')
theorem u_over {ax : Addr} {its : List Value} {k : Nat} (Ld : Led d od e oe l X R) (N : News h₀ L s.heap ((d, od) :: (e, oe) :: R)) (F : Fr h₀ L s.heap m) (hh : A.handled = none) (hr : (ax, listOf its.toArray k) ∈ R) (h1 : its.length ≤ 1000) (G : List (Addr × Obj) → Value → Prop) (hG : ∀ x x' v, G x v → (∀ p ∈ x, p ∈ x') → G x' v)
    (turn : ∀ (g : Heap) (i : Nat) (v : Value) I oI C oC D ys x₁ od₁ oe₁ m₂ h tk (E' : Value → Shared → Prop), its[i]? = some v → LCg.NsObj oC m₂ → m₂ y = some v → Fr h₀ L h m → News h₀ L h ((d, od₁) :: (e, oe₁) :: (I, oI) :: (C, oC) :: (D, LCg.lst ys) :: (x₁ ++ R)) →
      Led d od₁ e oe₁ ((I, oI) :: (C, oC) :: (D, LCg.lst ys) :: (x₁ ++ R)) [] ((I, oI) :: (C, oC) :: (D, LCg.lst ys) :: (x₁ ++ R)) →
      wpAny (model prog w) A (eval elt (compEnvC scope cl C env)) (TurnEnd h₀ L m { s with heap := h, toks := tk } d e ((I, oI) :: (C, oC) :: (D, LCg.lst ys) :: (x₁ ++ R)) G) E' { s with heap := h, toks := tk })
    (fin : ∀ (g : Heap) ys x₁ od₁ oe₁, ys.length = its.length → (∀ y ∈ ys, G x₁ y) → Led d od₁ e oe₁ R x₁ (x₁ ++ R) → Fin { s with heap := g } ys ((d, od₁) :: (e, oe₁) :: (x₁ ++ R))) :
    LCg.CompSrc prog w A h₀ L m env elt y scope cl Fin (.ref ax) s := by
  refine LCg.CompSrc.ledger hh F N (.tail _ (.tail _ hr)) (by rw [sizeLine_eq, List.size_toArray]; omega) fun g => ?_
  have hz : its.toArray.size = its.length := List.size_toArray
  exact comp_turns (s := { s with heap := g }) (P := fun i v => its.toArray[i]? = some v) Ld G hG (fun news h => .inr ⟨_, h _ hr, rfl, _, rfl⟩) (fun i v I oI C oC D ys x₁ od₁ oe₁ m₂ h tk E' hi hP hC hx F' N' L' => turn g i v I oI C oC D ys x₁ od₁ oe₁ m₂ h tk E' (by simpa using hP) hC hx F' N' L') (fun ys x₁ od₁ oe₁ hl hg L' => fin g ys x₁ od₁ oe₁ (by rw [hl, hz]) hg L')
theorem finA {x : List (Addr × Obj)} {ys : List Value} {od₁ oe₁ : Obj} {Q : Flow → Shared → Prop} (Ld : Led d od e oe l X R) (L1 : Led d od₁ e oe₁ R x (x ++ R))
    (h : ∀ D h' tk', Fr h₀ L h' (fun z => if z = y then some (.ref D) else m z) → News h₀ L h' ((d, od₁) :: (e, oe₁) :: (D, listOf ys.toArray ys.length) :: (x ++ R)) → Led d od₁ e oe₁ l ((D, listOf ys.toArray ys.length) :: (x ++ X)) ((D, listOf ys.toArray ys.length) :: (x ++ R)) → Q .next { s with heap := h', toks := tk' }) :
    LCg.FinA h₀ L m s y Q ys ((d, od₁) :: (e, oe₁) :: (x ++ R)) := fun D h' tk' F' N' o1 => by
  have o := off1_ne o1
  have L2 : Led d od₁ e oe₁ l (x ++ X) (x ++ R) := Ld.app L1.above L1.dO L1.sO
  refine h D h' tk' F' (led_front1 N') ⟨L1.dO, L1.sO, L1.de, List.forall_mem_cons.mpr ⟨Ne.symm (o _ (.head _)), L2.nd⟩, List.forall_mem_cons.mpr ⟨Ne.symm (o _ (.tail _ (.head _))), L2.ns⟩, fun p hp => .tail _ (L2.low p hp), List.forall_mem_cons.mpr ⟨.head _, fun p hp => .tail _ (L2.new p hp)⟩, List.forall_mem_cons.mpr ⟨fun q hq => o q (.tail _ (.tail _ (L2.low q hq))), L2.ab⟩⟩
theorem finE {x : List (Addr × Obj)} {ys : List Value} {od₁ oe₁ : Obj} {Q : Value → Shared → Prop} (Ld : Led d od e oe l X R) (L1 : Led d od₁ e oe₁ R x (x ++ R))
    (h : ∀ D h' tk', Fr h₀ L h' m → News h₀ L h' ((d, od₁) :: (e, oe₁) :: (D, listOf ys.toArray ys.length) :: (x ++ R)) → Led d od₁ e oe₁ l ((D, listOf ys.toArray ys.length) :: (x ++ X)) ((D, listOf ys.toArray ys.length) :: (x ++ R)) → Q (.ref D) { s with heap := h', toks := tk' }) :
    LCg.FinE h₀ L m s Q ys ((d, od₁) :: (e, oe₁) :: (x ++ R)) := fun D h' tk' F' N' o1 => by
  have o := off1_ne o1
  have L2 : Led d od₁ e oe₁ l (x ++ X) (x ++ R) := Ld.app L1.above L1.dO L1.sO
  refine h D h' tk' F' (led_front1 N') ⟨L1.dO, L1.sO, L1.de, List.forall_mem_cons.mpr ⟨Ne.symm (o _ (.head _)), L2.nd⟩, List.forall_mem_cons.mpr ⟨Ne.symm (o _ (.tail _ (.head _))), L2.ns⟩, fun p hp => .tail _ (L2.low p hp), List.forall_mem_cons.mpr ⟨.head _, fun p hp => .tail _ (L2.new p hp)⟩, List.forall_mem_cons.mpr ⟨fun q hq => o q (.tail _ (.tail _ (L2.low q hq))), L2.ab⟩⟩
end
theorem id_sub {R : List (Addr × Obj)} : ∀ p ∈ R, p ∈ R := fun _ h => h
theorem left_sub {x R : List (Addr × Obj)} : ∀ p ∈ x, p ∈ x ++ R := fun _ h => List.mem_append_left _ h
theorem left_sub2 {x R R' : List (Addr × Obj)} (h : ∀ p ∈ x, p ∈ R') : ∀ p ∈ x, p ∈ R' ++ R := fun p hp => List.mem_append_left _ (h p hp)
theorem tail_sub {R R' : List (Addr × Obj)} {q : Addr × Obj} (s : ∀ p ∈ R, p ∈ R') : ∀ p ∈ R, p ∈ q :: R' := fun p hp => .tail _ (s p hp)
theorem app_sub {R R' x : List (Addr × Obj)} (s : ∀ p ∈ R, p ∈ R') : ∀ p ∈ R, p ∈ x ++ R' := fun p hp => List.mem_append_right _ (s p hp)
theorem above_nil {b : Addr} : ∀ p ∈ ([] : List (Addr × Obj)), b ≤ p.1 := fun _ h => nomatch h
theorem above_cons {a b : Addr} {o : Obj} {l : List (Addr × Obj)} (h : @LE.le Nat _ b a) (t : ∀ p ∈ l, b ≤ p.1) : ∀ p ∈ (a, o) :: l, b ≤ p.1 := List.forall_mem_cons.mpr ⟨h, t⟩
theorem intL_of {R : List (Addr × Obj)} {D : Addr} {ys : List Value} {n b : Nat} {x : List (Addr × Obj)} (h : ∀ y ∈ ys, IntV x y) (hl : ys.length ≤ b) : IntL ((D, listOf ys.toArray n) :: R) D b := by
  obtain ⟨ns, hn⟩ := intsOf h
  exact ⟨ys, ns, n, .head _, hn, by rw [← IntsAre.length hn]; exact hl⟩
theorem finA_ints {h₀ : Heap} {L : Addr} {m : Str → Option Value} {s : Shared} {y : Str} {d e : Addr} {od oe od₁ oe₁ : Obj} {l X R x : List (Addr × Obj)} {ys : List Value} {Q : Flow → Shared → Prop} (b : Nat) (Ld : Led d od e oe l X R) (L1 : Led d od₁ e oe₁ R x (x ++ R)) (hg : ∀ y ∈ ys, IntV x y) (hl : ys.length ≤ b)
    (h : ∀ D o h' tk', Fr h₀ L h' (fun z => if z = y then some (.ref D) else m z) → News h₀ L h' ((d, od₁) :: (e, oe₁) :: (D, o) :: (x ++ R)) → Led d od₁ e oe₁ l ((D, o) :: (x ++ X)) ((D, o) :: (x ++ R)) → IntX ((D, o) :: (x ++ X)) D b → IntL ((D, o) :: (x ++ R)) D b → Q .next { s with heap := h', toks := tk' }) :
    LCg.FinA h₀ L m s y Q ys ((d, od₁) :: (e, oe₁) :: (x ++ R)) :=
  finA Ld L1 fun D h' tk' F' N' Ld' => h D _ h' tk' F' N' Ld' (intL_of hg hl) (intL_of hg hl)
theorem Led.put {d e D : Addr} {od oe o : Obj} {l X R : List (Addr × Obj)} (h : Led d od e oe l X R) (a1 : @Ne Nat d D) (a2 : @Ne Nat e D) (a3 : ∀ p ∈ R, p.1 ≠ D) : Led d od e oe l ((D, o) :: X) ((D, o) :: R) :=
  ⟨h.dO, h.sO, h.de, List.forall_mem_cons.mpr ⟨Ne.symm a1, h.nd⟩, List.forall_mem_cons.mpr ⟨Ne.symm a2, h.ns⟩, fun p hp => .tail _ (h.low p hp), List.forall_mem_cons.mpr ⟨.head _, fun p hp => .tail _ (h.new p hp)⟩, List.forall_mem_cons.mpr ⟨fun q hq => a3 q (h.low q hq), h.ab⟩⟩
theorem finE_ints {h₀ : Heap} {L : Addr} {m : Str → Option Value} {s : Shared} {d e : Addr} {od oe od₁ oe₁ : Obj} {l X R x : List (Addr × Obj)} {ys : List Value} {Q : Value → Shared → Prop} (b : Nat) (Ld : Led d od e oe l X R) (L1 : Led d od₁ e oe₁ R x (x ++ R)) (hg : ∀ y ∈ ys, IntV x y) (hl : ys.length ≤ b)
    (h : ∀ D vs ns n h' tk', Fr h₀ L h' m → News h₀ L h' ((d, od₁) :: (e, oe₁) :: (D, listOf (List.toArray vs) n) :: R) → Led d od₁ e oe₁ l ((D, listOf vs.toArray n) :: X) ((D, listOf vs.toArray n) :: R) → LCg.Off1 D R → IntsAre vs ns → ns.length ≤ b → vs.length = ys.length → Q (.ref D) { s with heap := h', toks := tk' }) :
    LCg.FinE h₀ L m s Q ys ((d, od₁) :: (e, oe₁) :: (x ++ R)) := fun D h' tk' F' N' o1 => by
  have o := off1_ne o1
  obtain ⟨ns, hn⟩ := intsOf hg
  have o3 : ∀ p ∈ R, p.1 ≠ D := fun p hp => o p (.tail _ (.tail _ (List.mem_append_right _ hp)))
  refine h D ys ns ys.length h' tk' F' (newsSub (led_front1 N') ?_) ((Ld.turn L1.dO L1.sO).put (o (d, od₁) (.head _)) (o (e, oe₁) (.tail _ (.head _))) o3) (off1_of o3) hn (by rw [← IntsAre.length hn]; exact hl) rfl
  exact List.forall_mem_cons.mpr ⟨.head _, List.forall_mem_cons.mpr ⟨.tail _ (.head _), List.forall_mem_cons.mpr ⟨.tail _ (.tail _ (.head _)), fun p hp => .tail _ (.tail _ (.tail _ (List.mem_append_right _ hp)))⟩⟩⟩
theorem intL_nil {R : List (Addr × Obj)} {a : Addr} {n : Nat} : IntL ((a, listOf (List.toArray ([] : List Value)) n) :: R) a 1 := ⟨[], [], n, .head _, .nil, by decide⟩
theorem intL_one {R : List (Addr × Obj)} {a : Addr} {n : Nat} {k : Int} {t : Tok} : IntL ((a, listOf (List.toArray [.int k t]) n) :: R) a 1 := ⟨[.int k t], [k], n, .head _, .cons k t .nil, Nat.le_refl 1⟩
/-! names of a frame, their kinds known ahead -/
structure KdL (sc : Scope) (x : Str) : Prop where
  a : sc.names.lookup x = some .local
  b : (x == ("__debug__" : Str)) = false
structure KdG (sc : Scope) (x : Str) : Prop where
  a : sc.names.lookup x = some .globalImplicit
  b : (x == ("__debug__" : Str)) = false
structure KdC (sc : Scope) (L : Addr) (x : Str) (c : Addr) : Prop where
  a : sc.names.lookup x = some .cell
  b : (x == ("__debug__" : Str)) = false
  c : (cellsFrom (L + 1) sc.names []).lookup x = some c
noncomputable def KdF (sc : Scope) : Prop := sc.kind = .function
section
variable {M : Model} {A : Around} {E : Value → Shared → Prop} {s : Shared} {h₀ : Heap} {L a c : Addr} {m mg mb : Str → Option Value} {news : List (Addr × Obj)} {K : Frag} {p : Program} {loose : List Str} {mean : ExcName → Option Value} {cn x : Str} {cs : Scope} {ccd v : Value} {o : Obj} {pos : Pos} {Q : Value → Shared → Prop}
theorem nm_L (k : KdL cs x) (F : Fr h₀ L s.heap m) (kf : KdF cs) (hv : m x = some v) (h : Q v s) : wpAny M A (eval (.Name x pos) (envOfC cn cs L a ccd)) Q E s := nameX_L F hv h kf k.a k.b
theorem nm_C (k : KdC cs L x c) (kf : KdF cs) (N : News h₀ L s.heap news) (hm : (c, o) ∈ news) (hd : o.data = .cell (some v)) (h : Q v s) : wpAny M A (eval (.Name x pos) (envOfC cn cs L a ccd)) Q E s := nameX_C N k.c hm hd h kf k.a k.b
theorem nm_K (k : KdG cs x) (F : Fr h₀ L s.heap m) (kf : KdF cs) (X : K.In h₀) (T : Top p loose mean mg mb h₀) (e : nsIn K mainGlobals x = some (some v)) (h : Q v s) : wpAny M A (eval (.Name x pos) (envOfC cn cs L a ccd)) Q E s := nameX_K F X (topRead_of T) e h kf k.a k.b
theorem nm_L0 (k : KdL cs x) (F : Fr h₀ L s.heap m) (kf : KdF cs) (hv : m x = some v) (h : Q v s) : wpAny M A (eval (.Name x pos) (envOf cn cs L a ccd)) Q E s := nameX_L (cl := []) F hv h kf k.a k.b
theorem nm_K0 (k : KdG cs x) (F : Fr h₀ L s.heap m) (kf : KdF cs) (X : K.In h₀) (T : Top p loose mean mg mb h₀) (e : nsIn K mainGlobals x = some (some v)) (h : Q v s) : wpAny M A (eval (.Name x pos) (envOf cn cs L a ccd)) Q E s := nameX_K (cl := []) F X (topRead_of T) e h kf k.a k.b
end
theorem upd_hit {x : Str} {v : Value} {r : Option Value} : (if x = x then some v else r) = some v := if_pos rfl
theorem upd_skip {x y : Str} {w : Option Value} {v : Value} {r : Option Value} (h : decide (x = y) = false) (k : r = some v) : (if x = y then w else r) = some v := by rw [if_neg (of_decide_eq_false h)]; exact k
theorem finA_nodes {P : Params} {b : Nat} {Z : Nd → Prop} {h₀ : Heap} {L : Addr} {m : Str → Option Value} {s : Shared} {y : Str} {d e : Addr} {od oe od₁ oe₁ : Obj} {l X R x : List (Addr × Obj)} {ys : List Value} {Q : Flow → Shared → Prop} (Ld : Led d od e oe l X R) (L1 : Led d od₁ e oe₁ R x (x ++ R)) (hg : ∀ y ∈ ys, NodeV P b Z x y)
    (h : ∀ D vs ts n h' tk', Fr h₀ L h' (fun z => if z = y then some (.ref D) else m z) → News h₀ L h' ((d, od₁) :: (e, oe₁) :: (D, listOf (List.toArray vs) n) :: (x ++ R)) → Led d od₁ e oe₁ l ((D, listOf vs.toArray n) :: (x ++ X)) ((D, listOf vs.toArray n) :: (x ++ R)) → LCg.Off1 D (x ++ R) →
      NodesIn P x vs ts → vs.length = ys.length → wts ts ≤ ys.length * b → (∀ t ∈ ts, Z t) → Q .next { s with heap := h', toks := tk' }) :
    LCg.FinA h₀ L m s y Q ys ((d, od₁) :: (e, oe₁) :: (x ++ R)) := fun D h' tk' F' N' o1 => by
  obtain ⟨ts, i1, i2, i3⟩ := nodesOf hg
  have o := off1_ne o1
  have L2 : Led d od₁ e oe₁ l (x ++ X) (x ++ R) := Ld.app L1.above L1.dO L1.sO
  have o3 : ∀ p ∈ x ++ R, p.1 ≠ D := fun p hp => o p (.tail _ (.tail _ hp))
  exact h D ys ts ys.length h' tk' F' (led_front1 N') (L2.put (o (d, od₁) (.head _)) (o (e, oe₁) (.tail _ (.head _))) o3) (off1_of o3) i1 rfl i2 i3
/-- a store to a cell of the frame -/
theorem u_storeC {M : Model} {A : Around} {E : Value → Shared → Prop} {s : Shared} {h₀ : Heap} {L a c D : Addr} {m : Str → Option Value} {cn x : Str} {cs : Scope} {ccd v : Value} {o oD : Obj} {v₀ : Option Value} {Q : Unit → Shared → Prop} {d e : Addr} {od oe : Obj} {l Xp post : List (Addr × Obj)}
    (k : KdC cs L x c) (kf : KdF cs) (Ld : Led d od e oe l ((D, oD) :: (c, o) :: Xp) ((D, oD) :: (c, o) :: post)) (N : News h₀ L s.heap ((d, od) :: (e, oe) :: (D, oD) :: (c, o) :: post)) (F : Fr h₀ L s.heap m) (hd : o.data = .cell v₀) (hD : @Ne Nat D c) (hp : ∀ p ∈ post, p.1 ≠ c) (hX : ∀ p ∈ Xp, p ∈ post)
    (h : ∀ h' o', Fr h₀ L h' m → News h₀ L h' ((d, od) :: (e, oe) :: (D, oD) :: (c, o') :: post) → Led d od e oe l ((D, oD) :: (c, o') :: Xp) ((D, oD) :: (c, o') :: post) → o'.data = .cell (some v) → Q () { s with heap := h' }) :
    wpAny M A (storeName (envOfC cn cs L a ccd) x v) Q E s := by
  have hc : (c, o) ∈ (D, oD) :: (c, o) :: post := .tail _ (.head _)
  refine storeX_C F N k.c (.tail (Ne.symm (Ld.nd _ hc)) (.tail (Ne.symm (Ld.ns _ hc)) (.tail hD (.head hp)))) hd (fun h' o' F' N' hd' => h h' o' F' N' ?_ hd') kf k.a
  have nl : ∀ p ∈ l, p.1 ≠ c := fun p hq => Ld.ab (c, o) (.tail _ (.head _)) p hq
  exact ⟨Ld.dO, Ld.sO, Ld.de, List.forall_mem_cons.mpr ⟨Ld.nd _ (.head _), List.forall_mem_cons.mpr ⟨Ld.nd (c, o) hc, fun p hp => Ld.nd p (.tail _ (.tail _ hp))⟩⟩,
    List.forall_mem_cons.mpr ⟨Ld.ns _ (.head _), List.forall_mem_cons.mpr ⟨Ld.ns (c, o) hc, fun p hp => Ld.ns p (.tail _ (.tail _ hp))⟩⟩,
    fun p hq => by
      rcases List.mem_cons.mp (Ld.low p hq) with rfl | z
      · exact .head _
      · rcases List.mem_cons.mp z with rfl | z
        · exact absurd rfl (nl _ hq)
        · exact .tail _ (.tail _ z),
    fun p hq => by
      rcases List.mem_cons.mp hq with rfl | hq
      · exact .head _
      · rcases List.mem_cons.mp hq with rfl | hq
        · exact .tail _ (.head _)
        · exact .tail _ (.tail _ (hX p hq)),
    List.forall_mem_cons.mpr ⟨Ld.ab _ (.head _), List.forall_mem_cons.mpr ⟨nl, fun p hq => Ld.ab p (.tail _ (.tail _ hq))⟩⟩⟩
theorem slice_from1 (vs : List Value) : (slicePick vs.toArray (some 1) none none).toList = vs.drop 1 := by
  have e : sliceBounds (some 1) none none vs.toArray.size = (((min 1 vs.toArray.size : Nat) : Int), ((vs.toArray.size : Nat) : Int), 1) := by
    simp only [sliceBounds, Option.getD_none, show (1 : Int) > 0 by decide, if_true, if_neg (show ¬ ((1 : Int) < 0) by decide)]
    congr 1
    omega
  rw [kmk_pick_nat _ e]
  show ((vs.drop (min 1 vs.toArray.size)).take (vs.toArray.size - min 1 vs.toArray.size)) = _
  rw [List.size_toArray, kmk_drop_min, List.take_of_length_le (by rw [List.length_drop]; omega)]
theorem set0_at {prog : Program} {w : World} {A : Around} {E : Value → Shared → Prop} {s : Shared} {h₀ : Heap} {L D : Addr} {m : Str → Option Value} {news news' : List (Addr × Obj)} {vs : List Value} {n : Nat} {t : Tok} {v : Value} {Q : Unit → Shared → Prop} (F : Fr h₀ L s.heap m) (N : News h₀ L s.heap news) (U : Upd D (listOf vs.toArray n) (listOf (vs.set 0 v).toArray n) news news') (hl : 0 < vs.length)
    (h : ∀ h', Fr h₀ L h' m → News h₀ L h' news' → Q () { s with heap := h' }) : wpAny (model prog w) A (setItem (.ref D) (.int 0 t) v) Q E s := by
  obtain ⟨pre, post, rfl, rfl, a, b⟩ := U.split
  have z := N (D, listOf vs.toArray n) (List.mem_append.mpr (.inr (.head _)))
  refine ki_setAt z.1 (by decide) (by decide) (by rw [List.size_toArray]; omega) (h _ (F.change (Heap.SameBut.update ..) z.2.1 z.2.2) (ki_turn _ N a b ?_ ?_))
  · show vs.toArray.setIfInBounds 0 v = (vs.set 0 v).toArray
    apply Array.toList_inj.mp
    simp
  · simp
theorem u_set0 {prog : Program} {w : World} {A : Around} {E : Value → Shared → Prop} {s : Shared} {h₀ : Heap} {L D : Addr} {m : Str → Option Value} {vs : List Value} {n : Nat} {t : Tok} {v : Value} {Q : Unit → Shared → Prop} {d e : Addr} {od oe : Obj} {l X R y : List (Addr × Obj)}
    (Ld : Led d od e oe l (y ++ (D, listOf vs.toArray n) :: X) (y ++ (D, listOf vs.toArray n) :: R)) (N : News h₀ L s.heap ((d, od) :: (e, oe) :: (y ++ (D, listOf vs.toArray n) :: R))) (F : Fr h₀ L s.heap m) (hA : Above2 d e ((D, listOf vs.toArray n) :: R) y) (o1 : LCg.Off1 D R) (hX : ∀ p ∈ X, p ∈ R) (hl : 0 < vs.length)
    (h : ∀ h', Fr h₀ L h' m → News h₀ L h' ((d, od) :: (e, oe) :: (y ++ (D, listOf (vs.set 0 v).toArray n) :: R)) → Led d od e oe l (y ++ (D, listOf (vs.set 0 v).toArray n) :: X) (y ++ (D, listOf (vs.set 0 v).toArray n) :: R) → Q () { s with heap := h' }) :
    wpAny (model prog w) A (setItem (.ref D) (.int 0 t) v) Q E s := by
  have hD : (D, listOf vs.toArray n) ∈ y ++ (D, listOf vs.toArray n) :: R := List.mem_append_right _ (.head _)
  have hDX : (D, listOf vs.toArray n) ∈ y ++ (D, listOf vs.toArray n) :: X := List.mem_append_right _ (.head _)
  have nl : ∀ p ∈ l, p.1 ≠ D := fun p hq => Ld.ab _ hDX p hq
  refine set0_at F N (.tail (Ne.symm (Ld.nd _ hD)) (.tail (Ne.symm (Ld.ns _ hD)) (Upd.app (fun p hp => Ne.symm ((hA p hp).2 _ (.head _))) (.head (off1_ne o1))))) hl fun h' F' N' => h h' F' N' ?_
  exact ⟨Ld.dO, Ld.sO, Ld.de,
    List.forall_mem_append.mpr ⟨fun p hp => Ld.nd p (List.mem_append_left _ hp), List.forall_mem_cons.mpr ⟨Ld.nd (D, listOf vs.toArray n) hD, fun p hp => Ld.nd p (List.mem_append_right _ (.tail _ hp))⟩⟩,
    List.forall_mem_append.mpr ⟨fun p hp => Ld.ns p (List.mem_append_left _ hp), List.forall_mem_cons.mpr ⟨Ld.ns (D, listOf vs.toArray n) hD, fun p hp => Ld.ns p (List.mem_append_right _ (.tail _ hp))⟩⟩,
    fun p hq => by
      rcases List.mem_append.mp (Ld.low p hq) with z | z
      · exact List.mem_append_left _ z
      · rcases List.mem_cons.mp z with rfl | z
        · exact absurd rfl (nl _ hq)
        · exact List.mem_append_right _ (.tail _ z),
    List.forall_mem_append.mpr ⟨fun p hp => List.mem_append_left _ hp, List.forall_mem_cons.mpr ⟨List.mem_append_right _ (.head _), fun p hp => List.mem_append_right _ (.tail _ (hX p hp))⟩⟩,
    List.forall_mem_append.mpr ⟨fun p hp => Ld.ab p (List.mem_append_left _ hp), List.forall_mem_cons.mpr ⟨nl, fun p hp => Ld.ab p (List.mem_append_right _ (.tail _ hp))⟩⟩⟩
theorem NodesIn.set0 {P : Params} {R : List (Addr × Obj)} {vs : List Value} {ts : List Nd} {v : Value} {t : Nd} (h : NodesIn P R vs ts) (k : NodeIn P R v t) : NodesIn P R (vs.set 0 v) (ts.set 0 t) := by
  rcases h.cases with ⟨rfl, rfl⟩ | ⟨_, _, _, _, rfl, rfl, _, h2⟩
  · exact .nil
  · exact .cons k h2
theorem NodesIn.drop1 {P : Params} {R : List (Addr × Obj)} {vs : List Value} {ts : List Nd} (h : NodesIn P R vs ts) : NodesIn P R (vs.drop 1) (ts.drop 1) := by
  rcases h.cases with ⟨rfl, rfl⟩ | ⟨_, _, _, _, rfl, rfl, _, h2⟩
  · exact .nil
  · exact h2
theorem wt_pos (t : Nd) : 1 ≤ wt t := by cases t <;> (unfold wt; omega)
theorem wts_set0 (ts : List Nd) : wts (ts.set 0 .const) ≤ wts ts := by
  cases ts with
  | nil => exact Nat.le_refl _
  | cons t r =>
    show wt .const + wts r ≤ wt t + wts r
    have := wt_pos t
    show 1 + wts r ≤ _
    omega
theorem wts_drop1 (ts : List Nd) : wts (ts.drop 1) ≤ wts ts := by
  cases ts with
  | nil => exact Nat.le_refl _
  | cons t r => show wts r ≤ wt t + wts r; omega
theorem all_set0 {Z : Nd → Prop} {ts : List Nd} (h : ∀ t ∈ ts, Z t) (hc : Z .const) : ∀ t ∈ ts.set 0 .const, Z t := by
  cases ts with
  | nil => exact fun _ h => nomatch h
  | cons t r => exact List.forall_mem_cons.mpr ⟨hc, fun u hu => h u (.tail _ hu)⟩
theorem all_drop1 {Z : Nd → Prop} {ts : List Nd} (h : ∀ t ∈ ts, Z t) : ∀ t ∈ ts.drop 1, Z t := fun t ht => h t (List.mem_of_mem_drop ht)
theorem fifth_cell {b : Nat} {q q' : Addr × Obj} {R : List (Addr × Obj)} {o2 o3 o4 o5 : Obj} (h : CellsOff b (q :: q' :: R)) : ∀ p ∈ [((b + 1 + 1 + 1 + 1 : Nat), o2), ((b + 1 + 1 + 1 : Nat), o3), ((b + 1 + 1 : Nat), o4), ((b + 1 : Nat), o5)] ++ R, p.1 ≠ b + 1 + 1 + 1 + 1 + 1 :=
  List.forall_mem_append.mpr ⟨List.forall_mem_cons.mpr ⟨Nat.ne_of_lt (Nat.lt_succ_self _), List.forall_mem_cons.mpr ⟨Nat.ne_of_lt (Nat.lt_succ_of_lt (Nat.lt_succ_self _)), List.forall_mem_cons.mpr ⟨Nat.ne_of_lt (Nat.lt_succ_of_lt (Nat.lt_succ_of_lt (Nat.lt_succ_self _))),
    List.forall_mem_cons.mpr ⟨Nat.ne_of_lt (Nat.lt_succ_of_lt (Nat.lt_succ_of_lt (Nat.lt_succ_of_lt (Nat.lt_succ_self _)))), fun _ h => nomatch h⟩⟩⟩⟩, fun p hp => Nat.ne_of_lt (Nat.lt_trans (h p (.tail _ (.tail _ hp))) (Nat.lt_succ_of_lt (Nat.lt_succ_of_lt (Nat.lt_succ_of_lt (Nat.lt_succ_of_lt (Nat.lt_succ_self _))))))⟩
theorem intL_led {d e D : Addr} {od oe : Obj} {l X R : List (Addr × Obj)} {vs : List Value} {ns : List Int} {n b : Nat} (_ : Led d od e oe l ((D, listOf (List.toArray vs) n) :: X) ((D, listOf (List.toArray vs) n) :: R)) (hI : IntsAre vs ns) (hl : ns.length ≤ b) :
    IntX ((D, listOf (List.toArray vs) n) :: X) D b ∧ IntL ((D, listOf (List.toArray vs) n) :: R) D b := ⟨⟨vs, ns, n, .head _, hI, hl⟩, ⟨vs, ns, n, .head _, hI, hl⟩⟩
theorem u_slice1 {prog : Program} {w : World} {A : Around} {E : Value → Shared → Prop} {hp h₀ : Heap} {gs : Array GenState} {dr : Drawn} {tk : Nat} {os : OsState} {L D : Addr} {m : Str → Option Value} {vs : List Value} {n : Nat} {u : Tok} {Q : Value → Shared → Prop} {d e : Addr} {od oe : Obj} {l X R : List (Addr × Obj)} {value slice : PySem.Expr}
    (Ld : Led d od e oe l X R) (N : News h₀ L hp ((d, od) :: (e, oe) :: R)) (F : Fr h₀ L hp m) (hm : (D, listOf vs.toArray n) ∈ R) (hz : vs.length ≤ 1000)
    (hs : subscripted slice false (.ref D) (.ref hp.objs.size) = operate [.ref hp.objs.size, .ref D] (getItem (.ref D) (.ref hp.objs.size))) (ht : ∀ r, letTemporaryGo value (.ref D) r = pure ())
    (h : ∀ D₂ h', Fr h₀ L h' m → News h₀ L h' ((d, od) :: (e, oe) :: (D₂, listOf (vs.drop 1).toArray 0) :: R) → Led d od e oe l ((D₂, listOf (vs.drop 1).toArray 0) :: X) ((D₂, listOf (vs.drop 1).toArray 0) :: R) → Q (.ref D₂) ⟨h', gs, dr, tk, os⟩) :
    wpAny (model prog w) A (subscriptTail value slice (.ref D) (.ref hp.objs.size)) Q E ⟨hp.push { cls := .type "slice", data := .fields #[.int 1 u, .none, .none] }, gs, dr, tk, os⟩ :=
  kmk_slice_lit (s := ⟨hp, gs, dr, tk, os⟩) F N (is_list_at N (.tail _ (.tail _ hm))) (by kmk_part) (by kmk_part) (slice_from1 vs) (fun D₂ h' F' N' l1 => h D₂ h' F' (led_front1 N') (Ld.cons l1)) hs ht (by rw [sizeLine_eq, List.size_toArray]; omega)
section
variable {w : World} {dp un : Nat} {gd : Option (List Code)} {cn : Str} {cs : Scope} {a : Addr} {ccd : Value} {cl : List (Str × Addr)} {outer : List Env} {A₀ : Around} {base h₀ : Heap} {L : Addr} {m : Str → Option Value} {s : Shared}
    {Q E : Value → Shared → Prop} {p : Program} {loose : List Str} {mean : ExcName → Option Value} {mg mb : Str → Option Value} {d e : Addr} {od oe : Obj} {l X R : List (Addr × Obj)}
theorem led_make_ab {x dx : Addr} {o1 o2 : Obj} (a1 : AllLt dx ((d, od) :: (e, oe) :: R)) (a2 : AllLt x ((dx, o2) :: (d, od) :: (e, oe) :: R)) : Above2 d e R [(x, o1), (dx, o2)] :=
  List.forall_mem_cons.mpr ⟨⟨⟨Ne.symm (Nat.ne_of_lt (allLt_mem a2 _ (.tail _ (.head _)))), Ne.symm (Nat.ne_of_lt (allLt_mem a2 _ (.tail _ (.tail _ (.head _)))))⟩, fun q hq => Nat.ne_of_lt (allLt_mem a2 _ (.tail _ (.tail _ (.tail _ hq))))⟩,
    List.forall_mem_cons.mpr ⟨⟨⟨Ne.symm (Nat.ne_of_lt (allLt_mem a1 _ (.head _))), Ne.symm (Nat.ne_of_lt (allLt_mem a1 _ (.tail _ (.head _))))⟩, fun q hq => Nat.ne_of_lt (allLt_mem a1 _ (.tail _ (.tail _ hq)))⟩, fun _ h => nomatch h⟩⟩
/-- what a maker leaves -/
theorem led_make {x dx : Addr} {o1 o2 : Obj} {h : Heap} {h₀ : Heap} (Ld : Led d od e oe l X R) (N : News h₀ L h ((x, o1) :: (dx, o2) :: (d, od) :: (e, oe) :: R)) (a1 : AllLt dx ((d, od) :: (e, oe) :: R)) (a2 : AllLt x ((dx, o2) :: (d, od) :: (e, oe) :: R)) :
    News h₀ L h ((d, od) :: (e, oe) :: ([(x, o1), (dx, o2)] ++ R)) ∧ Led d od e oe l ([(x, o1), (dx, o2)] ++ X) ([(x, o1), (dx, o2)] ++ R) ∧ (x, o1) ∈ [(x, o1), (dx, o2)] ++ X ∧ (dx, o2) ∈ [(x, o1), (dx, o2)] ++ X ∧ (∀ p ∈ X, p ∈ [(x, o1), (dx, o2)] ++ X) ∧ Above2 d e R [(x, o1), (dx, o2)] :=
  ⟨led_front (x := [(x, o1), (dx, o2)]) N, (Ld.cons (allLt_mem a1)).cons (fun p hp => allLt_mem a2 p (by
    rcases List.mem_cons.mp hp with rfl | hp
    · exact .tail _ (.head _)
    · rcases List.mem_cons.mp hp with rfl | hp
      · exact .tail _ (.tail _ (.head _))
      · rcases List.mem_cons.mp hp with rfl | hp
        · exact .head _
        · exact .tail _ (.tail _ (.tail _ hp)))), .head _, .tail _ (.head _), (fun p hp => List.mem_append_right _ hp), led_make_ab a1 a2⟩
theorem const_use {v : Value} (Ld : Led d od e oe l X R) (N : News h₀ L s.heap ((d, od) :: (e, oe) :: R)) (B : Below A₀ base outer h₀) (F : Fr h₀ L s.heap m) (K : (KK w.params).In h₀) (P : Prims h₀) (T : Top p loose mean mg mb h₀) (hk : cs.kind = .function)
    (hd : dp + 10 < recursionLimit) (hu : un + 100 < cLine) 
    (h : ∀ y r h' tk', Fr h₀ L h' m → News h₀ L h' ((d, od) :: (e, oe) :: (y ++ R)) → Led d od e oe l (y ++ X) (y ++ R) → Above2 d e R y → (NodeIn w.params y r (.const)) → Q r { s with heap := h', toks := tk' }) :
    wpAny (model lw.row.prog w) (ktrTop dp un gd cn cs L a ccd cl outer) (call (.ref 66) [v]) Q E s := by
  refine Spec.use (const_make w) B F K P N T hk hd hu (fun r news' h' tk' F' N' hr => ?_) (fun _ _ _ _ _ _ x => x.elim)
  obtain ⟨x, dx, t1, n, rfl, rfl, a1, a2⟩ := hr
  obtain ⟨z1, z2, h1, h2, sX, z3⟩ := led_make Ld N' a1 a2
  exact h _ _ _ _ F' z1 z2 z3 (.const (.head _) (.tail _ (.head _)))
theorem local_use {k : Int} {tk : Tok} (Ld : Led d od e oe l X R) (N : News h₀ L s.heap ((d, od) :: (e, oe) :: R)) (B : Below A₀ base outer h₀) (F : Fr h₀ L s.heap m) (K : (KK w.params).In h₀) (P : Prims h₀) (T : Top p loose mean mg mb h₀) (hk : cs.kind = .function)
    (hd : dp + 10 < recursionLimit) (hu : un + 100 < cLine) 
    (h : ∀ y r h' tk', Fr h₀ L h' m → News h₀ L h' ((d, od) :: (e, oe) :: (y ++ R)) → Led d od e oe l (y ++ X) (y ++ R) → Above2 d e R y → (NodeIn w.params y r (.loc k)) → Q r { s with heap := h', toks := tk' }) :
    wpAny (model lw.row.prog w) (ktrTop dp un gd cn cs L a ccd cl outer) (call (.ref 85) [.int k tk]) Q E s := by
  refine Spec.use (local_make w) B F K P N T hk hd hu (fun r news' h' tk' F' N' hr => ?_) (fun _ _ _ _ _ _ x => x.elim)
  obtain ⟨x, dx, t1, n, rfl, rfl, a1, a2⟩ := hr
  obtain ⟨z1, z2, h1, h2, sX, z3⟩ := led_make Ld N' a1 a2
  exact h _ _ _ _ F' z1 z2 z3 (.loc (.head _) (.tail _ (.head _)))
theorem global_use {k : Int} {tk : Tok} (Ld : Led d od e oe l X R) (N : News h₀ L s.heap ((d, od) :: (e, oe) :: R)) (B : Below A₀ base outer h₀) (F : Fr h₀ L s.heap m) (K : (KK w.params).In h₀) (P : Prims h₀) (T : Top p loose mean mg mb h₀) (hk : cs.kind = .function)
    (hd : dp + 10 < recursionLimit) (hu : un + 100 < cLine) 
    (h : ∀ y r h' tk', Fr h₀ L h' m → News h₀ L h' ((d, od) :: (e, oe) :: (y ++ R)) → Led d od e oe l (y ++ X) (y ++ R) → Above2 d e R y → (NodeIn w.params y r (.glob k)) → Q r { s with heap := h', toks := tk' }) :
    wpAny (model lw.row.prog w) (ktrTop dp un gd cn cs L a ccd cl outer) (call (.ref 104) [.int k tk]) Q E s := by
  refine Spec.use (global_make w) B F K P N T hk hd hu (fun r news' h' tk' F' N' hr => ?_) (fun _ _ _ _ _ _ x => x.elim)
  obtain ⟨x, dx, t1, n, rfl, rfl, a1, a2⟩ := hr
  obtain ⟨z1, z2, h1, h2, sX, z3⟩ := led_make Ld N' a1 a2
  exact h _ _ _ _ F' z1 z2 z3 (.glob (.head _) (.tail _ (.head _)))
theorem setl_use {k : Int} {tk : Tok} {c : Value} {U : Nd} (Ld : Led d od e oe l X R) (N : News h₀ L s.heap ((d, od) :: (e, oe) :: R)) (B : Below A₀ base outer h₀) (F : Fr h₀ L s.heap m) (K : (KK w.params).In h₀) (P : Prims h₀) (T : Top p loose mean mg mb h₀) (hk : cs.kind = .function)
    (hd : dp + 10 < recursionLimit) (hu : un + 100 < cLine) (q1 : NodeIn w.params X c U)
    (h : ∀ y r h' tk', Fr h₀ L h' m → News h₀ L h' ((d, od) :: (e, oe) :: (y ++ R)) → Led d od e oe l (y ++ X) (y ++ R) → Above2 d e R y → (NodeIn w.params (y ++ X) r (.setL k U)) → Q r { s with heap := h', toks := tk' }) :
    wpAny (model lw.row.prog w) (ktrTop dp un gd cn cs L a ccd cl outer) (call (.ref 137) [.int k tk, c]) Q E s := by
  refine Spec.use (setl_make w) B F K P N T hk hd hu (fun r news' h' tk' F' N' hr => ?_) (fun _ _ _ _ _ _ x => x.elim)
  obtain ⟨x, dx, t1, t2, n, rfl, rfl, a1, a2⟩ := hr
  obtain ⟨z1, z2, h1, h2, sX, z3⟩ := led_make Ld N' a1 a2
  exact h _ _ _ _ F' z1 z2 z3 (.setL h1 h2 (q1.mono sX))
theorem setg_use {k : Int} {tk : Tok} {c : Value} {U : Nd} (Ld : Led d od e oe l X R) (N : News h₀ L s.heap ((d, od) :: (e, oe) :: R)) (B : Below A₀ base outer h₀) (F : Fr h₀ L s.heap m) (K : (KK w.params).In h₀) (P : Prims h₀) (T : Top p loose mean mg mb h₀) (hk : cs.kind = .function)
    (hd : dp + 10 < recursionLimit) (hu : un + 100 < cLine) (q1 : NodeIn w.params X c U)
    (h : ∀ y r h' tk', Fr h₀ L h' m → News h₀ L h' ((d, od) :: (e, oe) :: (y ++ R)) → Led d od e oe l (y ++ X) (y ++ R) → Above2 d e R y → (NodeIn w.params (y ++ X) r (.setG k U)) → Q r { s with heap := h', toks := tk' }) :
    wpAny (model lw.row.prog w) (ktrTop dp un gd cn cs L a ccd cl outer) (call (.ref 170) [.int k tk, c]) Q E s := by
  refine Spec.use (setg_make w) B F K P N T hk hd hu (fun r news' h' tk' F' N' hr => ?_) (fun _ _ _ _ _ _ x => x.elim)
  obtain ⟨x, dx, t1, t2, n, rfl, rfl, a1, a2⟩ := hr
  obtain ⟨z1, z2, h1, h2, sX, z3⟩ := led_make Ld N' a1 a2
  exact h _ _ _ _ F' z1 z2 z3 (.setG h1 h2 (q1.mono sX))
theorem define_use {k : Int} {tk : Tok} {c : Value} {U : Nd} (Ld : Led d od e oe l X R) (N : News h₀ L s.heap ((d, od) :: (e, oe) :: R)) (B : Below A₀ base outer h₀) (F : Fr h₀ L s.heap m) (K : (KK w.params).In h₀) (P : Prims h₀) (T : Top p loose mean mg mb h₀) (hk : cs.kind = .function)
    (hd : dp + 10 < recursionLimit) (hu : un + 100 < cLine) (q1 : NodeIn w.params X c U)
    (h : ∀ y r h' tk', Fr h₀ L h' m → News h₀ L h' ((d, od) :: (e, oe) :: (y ++ R)) → Led d od e oe l (y ++ X) (y ++ R) → Above2 d e R y → (NodeIn w.params (y ++ X) r (.defn k U)) → Q r { s with heap := h', toks := tk' }) :
    wpAny (model lw.row.prog w) (ktrTop dp un gd cn cs L a ccd cl outer) (call (.ref 203) [.int k tk, c]) Q E s := by
  refine Spec.use (define_make w) B F K P N T hk hd hu (fun r news' h' tk' F' N' hr => ?_) (fun _ _ _ _ _ _ x => x.elim)
  obtain ⟨x, dx, t1, t2, n, rfl, rfl, a1, a2⟩ := hr
  obtain ⟨z1, z2, h1, h2, sX, z3⟩ := led_make Ld N' a1 a2
  exact h _ _ _ _ F' z1 z2 z3 (.defn h1 h2 (q1.mono sX))
theorem if_use {a1 b1 c1 : Value} {A1 B1 C1 : Nd} (Ld : Led d od e oe l X R) (N : News h₀ L s.heap ((d, od) :: (e, oe) :: R)) (B : Below A₀ base outer h₀) (F : Fr h₀ L s.heap m) (K : (KK w.params).In h₀) (P : Prims h₀) (T : Top p loose mean mg mb h₀) (hk : cs.kind = .function)
    (hd : dp + 10 < recursionLimit) (hu : un + 100 < cLine) (q1 : NodeIn w.params X a1 A1) (q2 : NodeIn w.params X b1 B1) (q3 : NodeIn w.params X c1 C1)
    (h : ∀ y r h' tk', Fr h₀ L h' m → News h₀ L h' ((d, od) :: (e, oe) :: (y ++ R)) → Led d od e oe l (y ++ X) (y ++ R) → Above2 d e R y → (NodeIn w.params (y ++ X) r (.iff A1 B1 C1)) → Q r { s with heap := h', toks := tk' }) :
    wpAny (model lw.row.prog w) (ktrTop dp un gd cn cs L a ccd cl outer) (call (.ref 236) [a1, b1, c1]) Q E s := by
  refine Spec.use (if_make w) B F K P N T hk hd hu (fun r news' h' tk' F' N' hr => ?_) (fun _ _ _ _ _ _ x => x.elim)
  obtain ⟨x, dx, t1, t2, t3, n, rfl, rfl, a1, a2⟩ := hr
  obtain ⟨z1, z2, h1, h2, sX, z3⟩ := led_make Ld N' a1 a2
  exact h _ _ _ _ F' z1 z2 z3 (.iff h1 h2 (q1.mono sX) (q2.mono sX) (q3.mono sX))
theorem lambda_use {lb rr : Int} {tl tr : Tok} {lp : Addr} {b1 : Value} {B1 : Nd} {bb : Nat} (Ld : Led d od e oe l X R) (N : News h₀ L s.heap ((d, od) :: (e, oe) :: R)) (B : Below A₀ base outer h₀) (F : Fr h₀ L s.heap m) (K : (KK w.params).In h₀) (P : Prims h₀) (T : Top p loose mean mg mb h₀) (hk : cs.kind = .function)
    (hd : dp + 10 < recursionLimit) (hu : un + 100 < cLine) (q1 : IntX X lp bb) (q2 : 0 ≤ lb) (q3 : NodeIn w.params X b1 B1)
    (h : ∀ y r h' tk', Fr h₀ L h' m → News h₀ L h' ((d, od) :: (e, oe) :: (y ++ R)) → Led d od e oe l (y ++ X) (y ++ R) → Above2 d e R y → (∃ ps : List Int, ps.length ≤ bb ∧ NodeIn w.params (y ++ X) r (.lam lb ps rr B1)) → Q r { s with heap := h', toks := tk' }) :
    wpAny (model lw.row.prog w) (ktrTop dp un gd cn cs L a ccd cl outer) (call (.ref 283) [.int lb tl, .ref lp, .int rr tr, b1]) Q E s := by
  obtain ⟨vps, ps, np, hm, hi, hl⟩ := q1
  refine Spec.use (lambda_make w) B F K P N T hk hd hu (fun r news' h' tk' F' N' hr => ?_) (fun _ _ _ _ _ _ x => x.elim)
  obtain ⟨x, dx, t1, t2, t3, t4, n, rfl, rfl, a1, a2⟩ := hr
  obtain ⟨z1, z2, h1, h2, sX, z3⟩ := led_make Ld N' a1 a2
  exact h _ _ _ _ F' z1 z2 z3 ⟨ps, hl, .lam h1 h2 (sX _ hm) hi q2 (q3.mono sX)⟩
theorem call_use {f1 : Value} {F1 : Nd} {l1 : Addr} {vs : List Value} {nl : Nat} {ts : List Nd} (Ld : Led d od e oe l X R) (N : News h₀ L s.heap ((d, od) :: (e, oe) :: R)) (B : Below A₀ base outer h₀) (F : Fr h₀ L s.heap m) (K : (KK w.params).In h₀) (P : Prims h₀) (T : Top p loose mean mg mb h₀) (hk : cs.kind = .function)
    (hd : dp + 10 < recursionLimit) (hu : un + 100 < cLine) (q1 : NodeIn w.params X f1 F1) (q2 : (l1, listOf (List.toArray vs) nl) ∈ X) (q3 : NodesIn w.params X vs ts)
    (h : ∀ y r h' tk', Fr h₀ L h' m → News h₀ L h' ((d, od) :: (e, oe) :: (y ++ R)) → Led d od e oe l (y ++ X) (y ++ R) → Above2 d e R y → (NodeIn w.params (y ++ X) r (.call F1 ts)) → Q r { s with heap := h', toks := tk' }) :
    wpAny (model lw.row.prog w) (ktrTop dp un gd cn cs L a ccd cl outer) (call (.ref 316) [f1, .ref l1]) Q E s := by
  refine Spec.use (call_make w) B F K P N T hk hd hu (fun r news' h' tk' F' N' hr => ?_) (fun _ _ _ _ _ _ x => x.elim)
  obtain ⟨x, dx, t1, t2, n, rfl, rfl, a1, a2⟩ := hr
  obtain ⟨z1, z2, h1, h2, sX, z3⟩ := led_make Ld N' a1 a2
  exact h _ _ _ _ F' z1 z2 z3 (.call h1 h2 (sX _ q2) (q1.mono sX) q3.1 (q3.mono sX).2)
theorem seq_use {l1 : Addr} {vs : List Value} {nl : Nat} {ts : List Nd} (Ld : Led d od e oe l X R) (N : News h₀ L s.heap ((d, od) :: (e, oe) :: R)) (B : Below A₀ base outer h₀) (F : Fr h₀ L s.heap m) (K : (KK w.params).In h₀) (P : Prims h₀) (T : Top p loose mean mg mb h₀) (hk : cs.kind = .function)
    (hd : dp + 10 < recursionLimit) (hu : un + 100 < cLine) (q2 : (l1, listOf (List.toArray vs) nl) ∈ X) (q3 : NodesIn w.params X vs ts)
    (h : ∀ y r h' tk', Fr h₀ L h' m → News h₀ L h' ((d, od) :: (e, oe) :: (y ++ R)) → Led d od e oe l (y ++ X) (y ++ R) → Above2 d e R y → (NodeIn w.params (y ++ X) r (.seq ts)) → Q r { s with heap := h', toks := tk' }) :
    wpAny (model lw.row.prog w) (ktrTop dp un gd cn cs L a ccd cl outer) (call (.ref 349) [.ref l1]) Q E s := by
  refine Spec.use (seq_make w) B F K P N T hk hd hu (fun r news' h' tk' F' N' hr => ?_) (fun _ _ _ _ _ _ x => x.elim)
  obtain ⟨x, dx, t1, n, rfl, rfl, a1, a2⟩ := hr
  obtain ⟨z1, z2, h1, h2, sX, z3⟩ := led_make Ld N' a1 a2
  exact h _ _ _ _ F' z1 z2 z3 (.seq h1 h2 (sX _ q2) q3.1 (q3.mono sX).2)
theorem prim_use {op : Int} {to : Tok} {l1 : Addr} {vs : List Value} {nl : Nat} {ts : List Nd} (Ld : Led d od e oe l X R) (N : News h₀ L s.heap ((d, od) :: (e, oe) :: R)) (B : Below A₀ base outer h₀) (F : Fr h₀ L s.heap m) (K : (KK w.params).In h₀) (P : Prims h₀) (T : Top p loose mean mg mb h₀) (hk : cs.kind = .function)
    (hd : dp + 10 < recursionLimit) (hu : un + 100 < cLine) (q2 : (l1, listOf (List.toArray vs) nl) ∈ X) (q3 : NodesIn w.params X vs ts)
    (h : ∀ y r h' tk', Fr h₀ L h' m → News h₀ L h' ((d, od) :: (e, oe) :: (y ++ R)) → Led d od e oe l (y ++ X) (y ++ R) → Above2 d e R y → (NodeIn w.params (y ++ X) r (.prim op ts)) → Q r { s with heap := h', toks := tk' }) :
    wpAny (model lw.row.prog w) (ktrTop dp un gd cn cs L a ccd cl outer) (call (.ref 382) [.int op to, .ref l1]) Q E s := by
  refine Spec.use (prim_make w) B F K P N T hk hd hu (fun r news' h' tk' F' N' hr => ?_) (fun _ _ _ _ _ _ x => x.elim)
  obtain ⟨x, dx, t1, t2, n, rfl, rfl, a1, a2⟩ := hr
  obtain ⟨z1, z2, h1, h2, sX, z3⟩ := led_make Ld N' a1 a2
  exact h _ _ _ _ F' z1 z2 z3 (.prim h1 h2 (sX _ q2) q3.1 (q3.mono sX).2)
theorem fix_use {ln l1 : Addr} {vs : List Value} {nl : Nat} {ts : List Nd} {b1 : Value} {B1 : Nd} {bb : Nat} (Ld : Led d od e oe l X R) (N : News h₀ L s.heap ((d, od) :: (e, oe) :: R)) (B : Below A₀ base outer h₀) (F : Fr h₀ L s.heap m) (K : (KK w.params).In h₀) (P : Prims h₀) (T : Top p loose mean mg mb h₀) (hk : cs.kind = .function)
    (hd : dp + 10 < recursionLimit) (hu : un + 100 < cLine) (q1 : IntX X ln bb) (q2 : (l1, listOf (List.toArray vs) nl) ∈ X) (q3 : NodesIn w.params X vs ts) (q4 : NodeIn w.params X b1 B1)
    (h : ∀ y r h' tk', Fr h₀ L h' m → News h₀ L h' ((d, od) :: (e, oe) :: (y ++ R)) → Led d od e oe l (y ++ X) (y ++ R) → Above2 d e R y → (∃ ps : List Int, ps.length ≤ bb ∧ NodeIn w.params (y ++ X) r (.fix ps ts B1)) → Q r { s with heap := h', toks := tk' }) :
    wpAny (model lw.row.prog w) (ktrTop dp un gd cn cs L a ccd cl outer) (call (.ref 415) [.ref ln, .ref l1, b1]) Q E s := by
  obtain ⟨vps, ps, np, hm, hi, hl⟩ := q1
  refine Spec.use (fix_make w) B F K P N T hk hd hu (fun r news' h' tk' F' N' hr => ?_) (fun _ _ _ _ _ _ x => x.elim)
  obtain ⟨x, dx, t1, t2, t3, n, rfl, rfl, a1, a2⟩ := hr
  obtain ⟨z1, z2, h1, h2, sX, z3⟩ := led_make Ld N' a1 a2
  exact h _ _ _ _ F' z1 z2 z3 ⟨ps, hl, .fix h1 h2 (sX _ hm) hi (sX _ q2) q3.1 (q3.mono sX).2 (q4.mono sX)⟩
end
theorem setup_09 : True := by
  k_with "w:eval Name" => ((with_reducible show wpAny _ _ (eval (Expr.Name _ _) (envOf _ _ _ _ _)) _ _ _); first | (with_reducible refine' nm_L0 ?kZ8 ?FZ8 ?kfZ8 ?vZ8 ?_; (case kZ8 => assumption); (case FZ8 => k_asm); (case kfZ8 => assumption); (case vZ8 => k_extra "m:val"); k_whole) | (with_reducible refine' nm_K0 ?kZ7 ?FZ7 ?kfZ7 ?XZ7 ?TZ7 ?eZ7 ?_; (case kZ7 => assumption); (case FZ7 => k_asm); (case kfZ7 => assumption); (case XZ7 => k_asm); (case TZ7 => k_asm); (case eZ7 => k_is); k_whole))
  k_with "w:eval Name" => ((with_reducible show wpAny _ _ (eval (Expr.Name _ _) (envOfC _ _ _ _ _)) _ _ _); first | (with_reducible refine' nm_L ?kZ9 ?FZ9 ?kfZ9 ?vZ9 ?_; (case kZ9 => assumption); (case FZ9 => k_asm); (case kfZ9 => assumption); (case vZ9 => k_extra "m:val"); k_whole) | (with_reducible refine' nm_C ?kZ9 ?kfZ9 ?NZ9 ?mZ9 ?dZ9 ?_; (case kZ9 => assumption); (case kfZ9 => assumption); (case NZ9 => k_asm); (case mZ9 => k_mem); (case dZ9 => k_asm); k_whole) | (with_reducible refine' nm_K ?kZ9 ?FZ9 ?kfZ9 ?XZ9 ?TZ9 ?eZ9 ?_; (case kZ9 => assumption); (case FZ9 => k_asm); (case kfZ9 => assumption); (case XZ9 => k_asm); (case TZ9 => k_asm); (case eZ9 => k_is); k_whole))
  k_with "w:eval Name" => ((with_reducible show wpAny _ _ (eval (Expr.Name _ _) (compEnvC _ _ _ _)) _ _ _); k_dflt (refine' lcf_free ?NZ9 ?cZ9 ?mZ9 ?dZ9 ?_ ?aZ9 ?bZ9; (case bZ9 => rfl); (case aZ9 => rfl); (case NZ9 => k_asm); (case cZ9 => rfl); (case mZ9 => k_mem); (case dZ9 => k_asm); k_whole))
  k_with "m:val" => first | (with_reducible exact upd_hit) | ((with_reducible refine' upd_skip ?h9 ?k9); (case h9 => kernel_rfl!); (case k9 => k_extra "m:val")) | with_reducible assumption | (k_dflt exact rfl)
  k_with "m:led" => ((case qL7 => assumption); (case qN7 => assumption); (case qB7 => k_asm); (case qF7 => k_asm); (case qX7 => k_asm); (case qXP7 => k_asm); (case qT7 => k_asm); (case qK7 => first | exact rfl | assumption); (case qhd7 => k_extra "m:room"); (case qhu7 => k_extra "m:units"))
  k_with "w:newList" => (k_here; (with_reducible rename Led _ _ _ _ _ _ _ => Lx); k_dflt (refine' u_newList _ _ Lx ?qN7 ?qF7 ?qz7 ?_; (case qN7 => assumption); (case qF7 => k_asm); (case qz7 => exact Nat.le_of_ble_eq_true rfl); k_whole); intro D' h' F' N' Ld'; clear Lx; (try k_sweep); (try dsimp only))
  k_with "w:binaryOp Add ref ref" => (k_here; (with_reducible show wpAny _ _ (binaryOp _ (Value.ref _) (Value.ref _)) _ _ _); (with_reducible rename Led _ _ _ _ _ _ _ => Lx); k_dflt (refine' u_add _ _ Lx ?qN7 ?qF7 ?qa7 ?qb7 ?qz7 ?_; (case qN7 => assumption); (case qF7 => k_asm); (case qa7 => k_extra "m:intl"); (case qb7 => k_extra "m:intl"); (case qz7 => omega); k_whole); intro D' o' h' F' N' Ld' hL'; clear Lx; (try k_sweep); (try dsimp only))
  k_with "m:intl" => first | with_reducible assumption | exact intL_nil | exact intL_one | (refine' IntL.mono ?h9 ?s9 ?b9; (case h9 => with_reducible assumption); (case b9 => exact Nat.le_refl _); (case s9 => k_extra "m:lift"))
  k_with "m:lift" => first | (with_reducible exact id_sub) | (with_reducible exact left_sub) | ((with_reducible refine' tail_sub ?s9); (case s9 => k_extra "m:lift")) | ((with_reducible refine' app_sub ?s9); (case s9 => k_extra "m:lift")) | ((with_reducible refine' left_sub2 ?s9); (case s9 => k_extra "m:lift")) | with_reducible assumption
  k_with "w:call ref" => (k_here; (with_reducible show wpAny _ _ (call (Value.ref 756) [Value.ref _, Value.int _ _]) _ _ _); (with_reducible rename Led _ _ _ _ _ _ _ => Lx); k_dflt (refine' u_draw Lx ?qN7 ?qB7 ?qF7 ?qX7 ?qXP7 ?qT7 ?qK7 ?qhd7 ?qhu7 ?qm17 ?qm27 ?_; (k_extra "m:led1"); (case qm17 => first | decide | omega); (case qm27 => first | decide | omega)); intro od' k' t' h' tk' F' N' Ld' hk0 hk1; clear Lx; (try k_sweep); (try dsimp only))
  k_with "m:led1" => ((case qN7 => assumption); (case qB7 => k_asm); (case qF7 => k_asm); (case qX7 => k_asm); (case qXP7 => k_asm); (case qT7 => k_asm); (case qK7 => first | exact rfl | assumption); (case qhd7 => k_extra "m:room"); (case qhu7 => k_extra "m:units"))
  k_with "w:call ref" => (k_here; (with_reducible show wpAny _ _ (call (Value.ref 768) [Value.ref _, Value.ref _]) _ _ _); (with_reducible rename Led _ _ _ _ _ _ _ => Lx); k_dflt (refine' u_one Lx ?qN7 ?qB7 ?qF7 ?qX7 ?qXP7 ?qT7 ?qK7 ?qhd7 ?qhu7 ?qit7 ?qII7 ?qz07 ?qz17 ?_; (k_extra "m:led1"); (case qit7 => k_mem); (case qII7 => k_extra "m:ints"); (case qz07 => first | decide | omega); (case qz17 => first | decide | omega)); intro od' k' t' h' tk' F' N' Ld'; clear Lx; (try k_sweep); (try dsimp only))
  k_with "m:ints" => first | with_reducible assumption | (repeat' (first | exact IntsAre.nil | refine IntsAre.cons _ _ ?_))
  k_with "w:call ref" => (k_here; (with_reducible show wpAny _ _ (call (Value.ref 782) [Value.ref _, Value.ref _, Value.int _ _]) _ _ _); (with_reducible rename Led _ _ _ _ _ _ _ => Lx); k_dflt (refine' u_bind Lx ?qN7 ?qB7 ?qF7 ?qX7 ?qXP7 ?qT7 ?qK7 ?qhd7 ?qhu7 ?qha7 ?_; (k_extra "m:led1"); (case qha7 => first | exact .inl rfl | exact .inr rfl)); intro od' oe' k' t' h' tk' F' N' Ld' hk'; clear Lx; (try k_sweep); (try dsimp only))
  k_with "w:call ref" => (k_here; (with_reducible show wpAny _ _ (call (Value.ref 797) [Value.ref _, Value.ref _, Value.ref _, Value.int _ _]) _ _ _); (with_reducible rename Led _ _ _ _ _ _ _ => Lx); k_dflt (refine' u_node ?qhN7 Lx ?qN7 ?qB7 ?qF7 ?qX7 ?qXP7 ?qT7 ?qK7 ?qhd7 ?qhu7 ?qkn7 ?qkl7 ?qdp7 ?qdp27 ?_; (case qhN7 => assumption); (k_extra "m:led1"); (case qkn7 => k_extra "m:intl"); (case qkl7 => omega); (case qdp7 => omega); (case qdp27 => omega)); intro od' oe' x' r' T' h' tk' F' N' Ld' hT' hw' hD'; clear Lx; (try k_sweep); (try dsimp only))
  k_with "m:nodel" => first | with_reducible assumption | (refine' NodeIn.mono ?h9 ?s9; (case h9 => with_reducible assumption); (case s9 => k_extra "m:lift"))
  k_with "m:intx" => first | with_reducible assumption | (refine' IntX.mono ?h9 ?s9 ?b9; (case h9 => with_reducible assumption); (case b9 => exact Nat.le_refl _); (case s9 => k_extra "m:lift"))
  k_with "w:call ref" => (k_here; (with_reducible show wpAny _ _ (call (Value.ref 66) [_]) _ _ _); (with_reducible rename Led _ _ _ _ _ _ _ => Lx); k_dflt (refine' const_use Lx ?qN7 ?qB7 ?qF7 ?qX7 ?qXP7 ?qT7 ?qK7 ?qhd7 ?qhu7  ?_; (k_extra "m:led1"); skip); rintro y' r' h' tk' F' N' Ld' hA' hT'; clear Lx; (try k_sweep); (try dsimp only))
  k_with "w:call ref" => (k_here; (with_reducible show wpAny _ _ (call (Value.ref 85) [Value.int _ _]) _ _ _); (with_reducible rename Led _ _ _ _ _ _ _ => Lx); k_dflt (refine' local_use Lx ?qN7 ?qB7 ?qF7 ?qX7 ?qXP7 ?qT7 ?qK7 ?qhd7 ?qhu7  ?_; (k_extra "m:led1"); skip); rintro y' r' h' tk' F' N' Ld' hA' hT'; clear Lx; (try k_sweep); (try dsimp only))
  k_with "w:call ref" => (k_here; (with_reducible show wpAny _ _ (call (Value.ref 104) [Value.int _ _]) _ _ _); (with_reducible rename Led _ _ _ _ _ _ _ => Lx); k_dflt (refine' global_use Lx ?qN7 ?qB7 ?qF7 ?qX7 ?qXP7 ?qT7 ?qK7 ?qhd7 ?qhu7  ?_; (k_extra "m:led1"); skip); rintro y' r' h' tk' F' N' Ld' hA' hT'; clear Lx; (try k_sweep); (try dsimp only))
  k_with "w:call ref" => (k_here; (with_reducible show wpAny _ _ (call (Value.ref 137) [Value.int _ _, _]) _ _ _); (with_reducible rename Led _ _ _ _ _ _ _ => Lx); k_dflt (refine' setl_use Lx ?qN7 ?qB7 ?qF7 ?qX7 ?qXP7 ?qT7 ?qK7 ?qhd7 ?qhu7 ?q1 ?_; (k_extra "m:led1"); (case q1 => k_extra "m:nodel")); rintro y' r' h' tk' F' N' Ld' hA' hT'; clear Lx; (try k_sweep); (try dsimp only))
  k_with "w:call ref" => (k_here; (with_reducible show wpAny _ _ (call (Value.ref 170) [Value.int _ _, _]) _ _ _); (with_reducible rename Led _ _ _ _ _ _ _ => Lx); k_dflt (refine' setg_use Lx ?qN7 ?qB7 ?qF7 ?qX7 ?qXP7 ?qT7 ?qK7 ?qhd7 ?qhu7 ?q1 ?_; (k_extra "m:led1"); (case q1 => k_extra "m:nodel")); rintro y' r' h' tk' F' N' Ld' hA' hT'; clear Lx; (try k_sweep); (try dsimp only))
  k_with "w:call ref" => (k_here; (with_reducible show wpAny _ _ (call (Value.ref 203) [Value.int _ _, _]) _ _ _); (with_reducible rename Led _ _ _ _ _ _ _ => Lx); k_dflt (refine' define_use Lx ?qN7 ?qB7 ?qF7 ?qX7 ?qXP7 ?qT7 ?qK7 ?qhd7 ?qhu7 ?q1 ?_; (k_extra "m:led1"); (case q1 => k_extra "m:nodel")); rintro y' r' h' tk' F' N' Ld' hA' hT'; clear Lx; (try k_sweep); (try dsimp only))
  k_with "w:call ref" => (k_here; (with_reducible show wpAny _ _ (call (Value.ref 236) [_, _, _]) _ _ _); (with_reducible rename Led _ _ _ _ _ _ _ => Lx); k_dflt (refine' if_use Lx ?qN7 ?qB7 ?qF7 ?qX7 ?qXP7 ?qT7 ?qK7 ?qhd7 ?qhu7 ?q1 ?q2 ?q3 ?_; (k_extra "m:led1"); (case q1 => k_extra "m:nodel"); (case q2 => k_extra "m:nodel"); (case q3 => k_extra "m:nodel")); rintro y' r' h' tk' F' N' Ld' hA' hT'; clear Lx; (try k_sweep); (try dsimp only))
  k_with "w:call ref" => (k_here; (with_reducible show wpAny _ _ (call (Value.ref 283) [_, _, _, _]) _ _ _); (with_reducible rename Led _ _ _ _ _ _ _ => Lx); k_dflt (refine' lambda_use Lx ?qN7 ?qB7 ?qF7 ?qX7 ?qXP7 ?qT7 ?qK7 ?qhd7 ?qhu7 ?q1 ?q2 ?q3 ?_; (k_extra "m:led1"); (case q1 => k_extra "m:intx"); (case q2 => omega); (case q3 => k_extra "m:nodel")); rintro y' r' h' tk' F' N' Ld' hA' ⟨ps', hps', hT'⟩; clear Lx; (try k_sweep); (try dsimp only))
  k_with "w:call ref" => (k_here; (with_reducible show wpAny _ _ (call (Value.ref 316) [_, _]) _ _ _); (with_reducible rename Led _ _ _ _ _ _ _ => Lx); k_dflt (refine' call_use Lx ?qN7 ?qB7 ?qF7 ?qX7 ?qXP7 ?qT7 ?qK7 ?qhd7 ?qhu7 ?q1 ?q2 ?q3 ?_; (k_extra "m:led1"); (case q1 => k_extra "m:nodel"); (case q2 => k_mem); (case q3 => k_extra "m:nodesl")); rintro y' r' h' tk' F' N' Ld' hA' hT'; clear Lx; (try k_sweep); (try dsimp only))
  k_with "w:call ref" => (k_here; (with_reducible show wpAny _ _ (call (Value.ref 349) [_]) _ _ _); (with_reducible rename Led _ _ _ _ _ _ _ => Lx); k_dflt (refine' seq_use Lx ?qN7 ?qB7 ?qF7 ?qX7 ?qXP7 ?qT7 ?qK7 ?qhd7 ?qhu7 ?q2 ?q3 ?_; (k_extra "m:led1"); (case q2 => k_mem); (case q3 => k_extra "m:nodesl")); rintro y' r' h' tk' F' N' Ld' hA' hT'; clear Lx; (try k_sweep); (try dsimp only))
  k_with "w:call ref" => (k_here; (with_reducible show wpAny _ _ (call (Value.ref 382) [_, _]) _ _ _); (with_reducible rename Led _ _ _ _ _ _ _ => Lx); k_dflt (refine' prim_use Lx ?qN7 ?qB7 ?qF7 ?qX7 ?qXP7 ?qT7 ?qK7 ?qhd7 ?qhu7 ?q2 ?q3 ?_; (k_extra "m:led1"); (case q2 => k_mem); (case q3 => k_extra "m:nodesl")); rintro y' r' h' tk' F' N' Ld' hA' hT'; clear Lx; (try k_sweep); (try dsimp only))
  k_with "w:call ref" => (k_here; (with_reducible show wpAny _ _ (call (Value.ref 415) [_, _, _]) _ _ _); (with_reducible rename Led _ _ _ _ _ _ _ => Lx); k_dflt (refine' fix_use Lx ?qN7 ?qB7 ?qF7 ?qX7 ?qXP7 ?qT7 ?qK7 ?qhd7 ?qhu7 ?q1 ?q2 ?q3 ?q4 ?_; (k_extra "m:led1"); (case q1 => k_extra "m:intx"); (case q2 => k_mem); (case q3 => k_extra "m:nodesl"); (case q4 => k_extra "m:nodel")); rintro y' r' h' tk' F' N' Ld' hA' ⟨ps', hps', hT'⟩; clear Lx; (try k_sweep); (try dsimp only))
  k_with "m:nodesl" => first | with_reducible assumption | (refine' NodesIn.mono ?h9 ?s9; (case h9 => with_reducible assumption); (case s9 => k_extra "m:lift"))
  k_with "w:CompSrc" => ((with_reducible rename Led _ _ _ _ _ _ _ => Lx); k_dflt (refine' u_range Lx ?qN7 ?qF7 ?qh7 ?qr7 ?q07 ?q17 IntV (fun _ _ _ h _ => h) ?qt7 ?qf7; (case qN7 => assumption); (case qF7 => k_asm); (case qh7 => rfl); (case qr7 => assumption); (case q07 => omega); (case q17 => omega)); all_goals first | (intro g v I oI C oC D ys x₁ od₁ oe₁ m₂ h tk E' hC hx F' N' Ld'; clear Lx; k_sweep) | (intro g ys x₁ od₁ oe₁ hl hg L1; first | (refine' finA_ints 2 Lx L1 hg (by omega) ?_; intro D' o' h' tk' F' N' Ld' hL1' hL2'; clear Lx L1 hg hl; k_sweep; (try dsimp only)) | (refine' finE_ints 2 Lx L1 hg (by omega) ?_; intro D' vs' ns' n' h' tk' F' N' Ld' off' hI' hl1' hl2'; clear Lx L1 hg; k_sweep; (try dsimp only))))
  k_with "w:TurnEnd" => exact TurnEnd.intro (by k_asm) (by assumption) (by assumption) ⟨_, _, rfl⟩
  k_with "w:setItem ref int" => (k_here; (with_reducible show wpAny _ _ (setItem (Value.ref _) (Value.int 0 _) _) _ _ _); (with_reducible rename Led _ _ _ _ _ _ _ => Lx); (with_reducible rename Above2 _ _ _ _ => hAx); k_dflt (refine' u_set0 Lx ?qN7 ?qF7 hAx ?qo7 ?qs7 ?ql7 ?_; (case qN7 => assumption); (case qF7 => k_asm); (case qo7 => assumption); (case qs7 => k_extra "m:subX"); (case ql7 => omega)); intro h' F' N' Ld'; clear Lx hAx; (try k_sweep); (try dsimp only))
  k_with "m:subX" => first | with_reducible assumption | (with_reducible exact id_sub) | (refine' List.forall_mem_cons.mpr ⟨?a9, ?b9⟩; (case a9 => k_mem); (case b9 => k_extra "m:subX")) | (refine' List.forall_mem_append.mpr ⟨?a9, ?b9⟩; (case a9 => k_extra "m:lift"); (case b9 => k_extra "m:subX")) | exact List.forall_mem_nil _ | k_extra "m:lift"
  k_with "w:subscriptTail Name Slice ref ref" => first | (exfalso; omega) | (k_here; (with_reducible show wpAny _ _ (subscriptTail _ (PySem.Expr.Slice _ none none _) (Value.ref _) (Value.ref _)) _ _ _); (with_reducible rename Led _ _ _ _ _ _ _ => Lx); (try dsimp only); k_dflt (refine' u_slice1 Lx ?NZ9 ?FZ9 ?lZ9 ?zZ9 ?sZ9 ?tZ9 ?_; (case NZ9 => assumption); (case FZ9 => k_asm); (case lZ9 => k_mem); (case zZ9 => omega); (case sZ9 => with_unfolding_all rfl); (case tZ9 => kmk_pure)); intro D' h' F' N' Ld'; clear Lx; (try k_sweep))
  trivial
set_option maxHeartbeats 2000000 in
theorem lam_spec (w : World) {k : Nat} (hN : NodeS w k) {d e kn : Addr} {od oe : Obj} {deep : Int} {td : Tok} {R : List (Addr × Obj)} {b : Nat}
    (Ld : Led d od e oe R [] R) (hkn : IntL R kn b) (hkl : b + 10 * k + 4 ≤ 100) (hdp : deep ≤ k + 1) (hdp' : -4 ≤ deep) :
    Spec w 787 (dmN k + 3) (umN k + 30) [.ref d, .ref e, .ref kn, .int deep td] ((d, od) :: (e, oe) :: R) (Built w.params d e R (bnd k + 6) fun T => dpt T ≤ 2 * k + 2 ∧ isLam T) NoX := by
  unfold Spec
  k_fill
  intro dp un gd cn cs a ccd cl outer A₀ base h₀ L m s Q E p loose mean mg mb B F X XP N T hk hd hu hret herr
  refine wpAny_call ?_
  have hdm : 60 ≤ dmN k := by unfold dmN; omega
  have hum : 600 ≤ umN k := by unfold umN; omega
  have hd1 : dp + 60 < recursionLimit := by omega
  have hu1 : un + 600 < cLine := by omega
  k_dflt (refine' code_defC (binds := [(Str.ofString "_law_deck", .ref d), (Str.ofString "_law_state", .ref e), (Str.ofString "_law_known", .ref kn), (Str.ofString "_law_deep", .int deep td)]) ?k1 ?k2 ?k3 ?k4 ?k5 ?kA ?kF ?kK ?k6 ?k7 ?k8 ?k9 ?kB ?kD ?_ ?c2 ?c3 ?c4; k_extra "m:enterC")
  replace Ld := Led.cells Ld lC' (x := [(L' + 1 + 1, o1'), (L' + 1, o2')]) (above_cons (Nat.le_add_right _ 2) (above_cons (Nat.le_add_right _ 1) above_nil))
  replace N' := led_front (x := [(L' + 1 + 1, o1'), (L' + 1, o2')]) N'
  simp only [List.cons_append, List.nil_append] at Ld N'
  clear lC'
  have kdF : KdF (fScope (stAt 51)) := by (unfold KdF; kernel_rfl!)
  have kd0 : KdC (fScope (stAt 51)) L' (Str.ofString "_law_deck") (L' + 1) := ⟨by kernel_rfl!, by kernel_rfl!, by kernel_rfl!⟩
  have kd1 : KdC (fScope (stAt 51)) L' (Str.ofString "_law_state") (L' + 1 + 1) := ⟨by kernel_rfl!, by kernel_rfl!, by kernel_rfl!⟩
  have kd2 : KdL (fScope (stAt 51)) (Str.ofString "_law_known") := ⟨by kernel_rfl!, by kernel_rfl!⟩
  have kd3 : KdL (fScope (stAt 51)) (Str.ofString "_law_deep") := ⟨by kernel_rfl!, by kernel_rfl!⟩
  have kd4 : KdL (fScope (stAt 51)) (Str.ofString "_law_numbers") := ⟨by kernel_rfl!, by kernel_rfl!⟩
  have kd5 : KdL (fScope (stAt 51)) (Str.ofString "_law_rest") := ⟨by kernel_rfl!, by kernel_rfl!⟩
  have kd6 : KdL (fScope (stAt 51)) (Str.ofString "_law_inner") := ⟨by kernel_rfl!, by kernel_rfl!⟩
  have kd7 : KdL (fScope (stAt 51)) (Str.ofString "_law_label") := ⟨by kernel_rfl!, by kernel_rfl!⟩
  have kd8 : KdG (fScope (stAt 51)) (Str.ofString "_law_draw") := ⟨by kernel_rfl!, by kernel_rfl!⟩
  have kd9 : KdG (fScope (stAt 51)) (Str.ofString "_law_bind") := ⟨by kernel_rfl!, by kernel_rfl!⟩
  have kd10 : KdG (fScope (stAt 51)) (Str.ofString "Lambda") := ⟨by kernel_rfl!, by kernel_rfl!⟩
  have kd11 : KdG (fScope (stAt 51)) (Str.ofString "_law_node_of") := ⟨by kernel_rfl!, by kernel_rfl!⟩
  k_steps
  all_goals (refine' built_end hret ?F ?N Ld' hT' ?w ⟨?z, _, _, _, _, rfl⟩; (case F => k_asm); (case N => assumption); (case w => (simp only [wt]; omega)); (case z => (simp only [dpt]; omega)))
theorem u_lam {w : World} {dp un : Nat} {gd : Option (List Code)} {cn : Str} {cs : Scope} {a : Addr} {ccd : Value} {cl : List (Str × Addr)} {outer : List Env} {A₀ : Around} {base h₀ : Heap} {L : Addr} {m : Str → Option Value} {s : Shared}
    {Q E : Value → Shared → Prop} {p : Program} {loose : List Str} {mean : ExcName → Option Value} {mg mb : Str → Option Value} {d e : Addr} {od oe : Obj} {l X R : List (Addr × Obj)} {k b : Nat} {kn : Addr} {deep : Int} {td : Tok} (hN : NodeS w k) (Ld : Led d od e oe l X R) (N : News h₀ L s.heap ((d, od) :: (e, oe) :: R)) (B : Below A₀ base outer h₀) (F : Fr h₀ L s.heap m) (K : (KK w.params).In h₀) (P : Prims h₀) (T : Top p loose mean mg mb h₀) (hk : cs.kind = .function)
    (hd : dp + (dmN k + 3) < recursionLimit) (hu : un + (umN k + 30) < cLine) (hkn : IntL R kn b) (hb : b + 10 * k + 4 ≤ 100) (h1 : deep ≤ k + 1) (h2 : -4 ≤ deep)
    (h : ∀ od' oe' x r T h' tk', Fr h₀ L h' m → News h₀ L h' ((d, od') :: (e, oe') :: (x ++ R)) → Led d od' e oe' l (x ++ X) (x ++ R) → NodeIn w.params x r T → wt T ≤ bnd k + 6 → dpt T ≤ 2 * k + 2 → isLam T → Q r { s with heap := h', toks := tk' }) :
    wpAny (model lw.row.prog w) (ktrTop dp un gd cn cs L a ccd cl outer) (call (.ref 787) [.ref d, .ref e, .ref kn, .int deep td]) Q E s :=
  u_built (lam_spec w hN (Led.start Ld.dO Ld.sO Ld.de Ld.nd Ld.ns) hkn hb h1 h2) Ld N B F K P T hk hd hu fun od' oe' x r T h' tk' F' N' Ld' hT hw hZ => h od' oe' x r T h' tk' F' N' Ld' hT hw hZ.1 hZ.2
theorem setup_11 : True := by
  k_with "w:call ref" => (k_here; (with_reducible show wpAny _ _ (call (Value.ref 787) [Value.ref _, Value.ref _, Value.ref _, Value.int _ _]) _ _ _); (with_reducible rename Led _ _ _ _ _ _ _ => Lx); k_dflt (refine' u_lam ?qhN7 Lx ?qN7 ?qB7 ?qF7 ?qX7 ?qXP7 ?qT7 ?qK7 ?qhd7 ?qhu7 ?qkn7 ?qkl7 ?qdp7 ?qdp27 ?_; (case qhN7 => assumption); (k_extra "m:led1"); (case qkn7 => k_extra "m:intl"); (case qkl7 => omega); (case qdp7 => omega); (case qdp27 => omega)); intro od' oe' x' r' T' h' tk' F' N' Ld' hT' hw' hD' hZ'; clear Lx; (try k_sweep); (try dsimp only))
  trivial
set_option maxHeartbeats 3000000 in
theorem fix_spec (w : World) {k : Nat} (hN : NodeS w k) {d e kn : Addr} {od oe : Obj} {deep : Int} {td : Tok} {R : List (Addr × Obj)} {b : Nat}
    (Ld : Led d od e oe R [] R) (hkn : IntL R kn b) (hkl : b + 10 * (k + 1) ≤ 100) (hdp : deep ≤ k + 1) (hdp' : -3 ≤ deep) :
    Spec w 792 (dmN k + 6) (umN k + 60) [.ref d, .ref e, .ref kn, .int deep td] ((d, od) :: (e, oe) :: R) (Built w.params d e R (bnd (k + 1)) fun T => dpt T ≤ 2 * (k + 1) + 1) NoX := by
  unfold Spec
  k_fill
  intro dp un gd cn cs a ccd cl outer A₀ base h₀ L m s Q E p loose mean mg mb B F X XP N T hk hd hu hret herr
  refine wpAny_call ?_
  have hdm : 60 ≤ dmN k := by unfold dmN; omega
  have hum : 600 ≤ umN k := by unfold umN; omega
  have hd1 : dp + 60 < recursionLimit := by omega
  have hu1 : un + 600 < cLine := by omega
  k_dflt (refine' code_defC (binds := [(Str.ofString "_law_deck", .ref d), (Str.ofString "_law_state", .ref e), (Str.ofString "_law_known", .ref kn), (Str.ofString "_law_deep", .int deep td)]) ?k1 ?k2 ?k3 ?k4 ?k5 ?kA ?kF ?kK ?k6 ?k7 ?k8 ?k9 ?kB ?kD ?_ ?c2 ?c3 ?c4; k_extra "m:enterC")
  replace Ld := Led.cells Ld lC' (x := [(L' + 1 + 1 + 1 + 1 + 1, o1'), (L' + 1 + 1 + 1 + 1, o2'), (L' + 1 + 1 + 1, o3'), (L' + 1 + 1, o4'), (L' + 1, o5')]) (above_cons (Nat.le_add_right _ 5) (above_cons (Nat.le_add_right _ 4) (above_cons (Nat.le_add_right _ 3) (above_cons (Nat.le_add_right _ 2) (above_cons (Nat.le_add_right _ 1) above_nil)))))
  replace N' := led_front (x := [(L' + 1 + 1 + 1 + 1 + 1, o1'), (L' + 1 + 1 + 1 + 1, o2'), (L' + 1 + 1 + 1, o3'), (L' + 1 + 1, o4'), (L' + 1, o5')]) N'
  simp only [List.cons_append, List.nil_append] at Ld N'
  have hp : ∀ p ∈ [(L' + 1 + 1 + 1 + 1, o2'), (L' + 1 + 1 + 1, o3'), (L' + 1 + 1, o4'), (L' + 1, o5')] ++ R, p.1 ≠ L' + 1 + 1 + 1 + 1 + 1 := fifth_cell lC'
  simp only [List.cons_append, List.nil_append] at hp
  clear lC'
  have kdF : KdF (fScope (stAt 52)) := by (unfold KdF; kernel_rfl!)
  have kd0 : KdC (fScope (stAt 52)) L' (Str.ofString "_law_deck") (L' + 1) := ⟨by kernel_rfl!, by kernel_rfl!, by kernel_rfl!⟩
  have kd1 : KdC (fScope (stAt 52)) L' (Str.ofString "_law_state") (L' + 1 + 1) := ⟨by kernel_rfl!, by kernel_rfl!, by kernel_rfl!⟩
  have kd2 : KdC (fScope (stAt 52)) L' (Str.ofString "_law_known") (L' + 1 + 1 + 1) := ⟨by kernel_rfl!, by kernel_rfl!, by kernel_rfl!⟩
  have kd3 : KdC (fScope (stAt 52)) L' (Str.ofString "_law_deep") (L' + 1 + 1 + 1 + 1) := ⟨by kernel_rfl!, by kernel_rfl!, by kernel_rfl!⟩
  have kd4 : KdC (fScope (stAt 52)) L' (Str.ofString "_law_numbers") (L' + 1 + 1 + 1 + 1 + 1) := ⟨by kernel_rfl!, by kernel_rfl!, by kernel_rfl!⟩
  have kd5 : KdL (fScope (stAt 52)) (Str.ofString "_law_parts") := ⟨by kernel_rfl!, by kernel_rfl!⟩
  have kd6 : KdL (fScope (stAt 52)) (Str.ofString "_law_odd") := ⟨by kernel_rfl!, by kernel_rfl!⟩
  have kd7 : KdG (fScope (stAt 52)) (Str.ofString "_law_draw") := ⟨by kernel_rfl!, by kernel_rfl!⟩
  have kd8 : KdG (fScope (stAt 52)) (Str.ofString "Const") := ⟨by kernel_rfl!, by kernel_rfl!⟩
  have kd9 : KdG (fScope (stAt 52)) (Str.ofString "Fix") := ⟨by kernel_rfl!, by kernel_rfl!⟩
  have kd10 : KdG (fScope (stAt 52)) (Str.ofString "_law_node_of") := ⟨by kernel_rfl!, by kernel_rfl!⟩
  k_with "w:storeName" => ((with_reducible show wpAny _ _ (storeName (envOfC _ _ _ _ _) (Str.ofString "_law_numbers") _) _ _ _); (with_reducible rename Led _ _ _ _ _ _ _ => Lx); k_dflt (refine' u_storeC ?qk8 ?qg8 Lx ?qN7 ?qF7 ?qd8 ?qD8 hp ?qX8 ?_; (case qk8 => assumption); (case qg8 => assumption); (case qN7 => assumption); (case qF7 => k_asm); (case qd8 => exact d1'); (case qD8 => exact Ne.symm (Off1.neL off' (.head _))); (case qX8 => k_extra "m:subX")); intro h' oN' F' N' Ld' dN'; obtain ⟨hL1', hL2'⟩ := intL_led Ld' hI' hl1'; clear Lx; k_sweep)
  k_with "w:CompSrc" => ((with_reducible rename Led _ _ _ _ _ _ _ => Lx); k_dflt (refine' u_over Lx ?qN9 ?qF9 ?qh9 ?qr9 ?q19 (NodeV w.params (bnd k + 6) fun T => dpt T ≤ 2 * k + 2) NodeV.mono ?qt9 ?qu9; (case qN9 => assumption); (case qF9 => k_asm); (case qh9 => rfl); (case qr9 => k_mem); (case q19 => omega)); all_goals first | (intro g i v I oI C oC D ys x₁ od₁ oe₁ m₂ h tk E' hv hC hx F' N' Ld'; clear Lx; k_sweep) | (intro g ys₂ x₁ od₁ oe₁ hl₂ hg L1; refine' finA_nodes Lx L1 hg ?_; intro D' vs3 ts3 n3 h' tk' F' N' Ld' off3 hT3 hl3 hw3 hZ3; have hw4 : wts ts3 ≤ 2 * (bnd k + 6) := Nat.le_trans hw3 (Nat.mul_le_mul_right _ (by omega)); clear Lx L1 hg hw3; k_sweep; (try dsimp only)))
  k_with "w:TurnEnd" => exact TurnEnd.intro (by k_asm) (by assumption) (by assumption) ⟨_, NodeIn.mono hT' (by k_extra "m:lift"), hw', hD'⟩
  k_with "m:nodesl" => exact NodesIn.set0 (NodesIn.mono hT3 (by k_extra "m:lift")) (NodeIn.mono (by with_reducible assumption) (by k_extra "m:lift"))
  k_with "m:nodesl" => exact NodesIn.drop1 (NodesIn.mono hT3 (by k_extra "m:lift"))
  k_with "m:nodesl" => exact NodesIn.mono hT3 (by k_extra "m:lift")
  k_steps
  all_goals (refine' built_end hret ?F ?N Ld' hT' ?w ?z; (case F => k_asm); (case N => assumption); (case w => (have a1 := wts_set0 ts3; have a2 := wts_drop1 ts3; (show _ ≤ 4 * bnd k + 30); simp only [wt]; omega)); (case z => (have b1 := dpts_le hZ3; have b2 := dpts_le (all_set0 hZ3 (by simp only [dpt]; omega)); have b3 := dpts_le (all_drop1 hZ3); simp only [dpt]; omega)))
theorem u_fix {w : World} {dp un : Nat} {gd : Option (List Code)} {cn : Str} {cs : Scope} {a : Addr} {ccd : Value} {cl : List (Str × Addr)} {outer : List Env} {A₀ : Around} {base h₀ : Heap} {L : Addr} {m : Str → Option Value} {s : Shared}
    {Q E : Value → Shared → Prop} {p : Program} {loose : List Str} {mean : ExcName → Option Value} {mg mb : Str → Option Value} {d e : Addr} {od oe : Obj} {l X R : List (Addr × Obj)} {k b : Nat} {kn : Addr} {deep : Int} {td : Tok} (hN : NodeS w k) (Ld : Led d od e oe l X R) (N : News h₀ L s.heap ((d, od) :: (e, oe) :: R)) (B : Below A₀ base outer h₀) (F : Fr h₀ L s.heap m) (K : (KK w.params).In h₀) (P : Prims h₀) (T : Top p loose mean mg mb h₀) (hk : cs.kind = .function)
    (hd : dp + (dmN k + 6) < recursionLimit) (hu : un + (umN k + 60) < cLine) (hkn : IntL R kn b) (hb : b + 10 * (k + 1) ≤ 100) (h1 : deep ≤ k + 1) (h2 : -3 ≤ deep)
    (h : ∀ od' oe' x r T h' tk', Fr h₀ L h' m → News h₀ L h' ((d, od') :: (e, oe') :: (x ++ R)) → Led d od' e oe' l (x ++ X) (x ++ R) → NodeIn w.params x r T → wt T ≤ bnd (k + 1) → dpt T ≤ 2 * (k + 1) + 1 → Q r { s with heap := h', toks := tk' }) :
    wpAny (model lw.row.prog w) (ktrTop dp un gd cn cs L a ccd cl outer) (call (.ref 792) [.ref d, .ref e, .ref kn, .int deep td]) Q E s :=
  u_built (fix_spec w hN (Led.start Ld.dO Ld.sO Ld.de Ld.nd Ld.ns) hkn hb h1 h2) Ld N B F K P T hk hd hu h
/-- a draw's ways that meet -/
noncomputable def DrawJ (h₀ : Heap) (L : Addr) (m : Str → Option Value) (s : Shared) (d e : Addr) (oe : Obj) (R : List (Addr × Obj)) (P : Int → Prop) (v : Value) (s' : Shared) : Prop :=
  ∃ od' k t h' tk', v = .int k t ∧ s' = { s with heap := h', toks := tk' } ∧ Fr h₀ L h' m ∧ News h₀ L h' ((d, od') :: (e, oe) :: R) ∧ DeckO od' ∧ P k
noncomputable def DrawG (h₀ : Heap) (L : Addr) (m : Str → Option Value) (s : Shared) (d e : Addr) (oe : Obj) (R : List (Addr × Obj)) (Q : Flow → Shared → Prop) (f : Flow) (s' : Shared) : Prop :=
  Q f s' ∨ (f = .next ∧ ∃ od' h' tk', s' = { s with heap := h', toks := tk' } ∧ Fr h₀ L h' m ∧ News h₀ L h' ((d, od') :: (e, oe) :: R) ∧ DeckO od')
section
variable {w : World} {prog : Program} {A : Around} {h₀ : Heap} {L : Addr} {m : Str → Option Value} {s : Shared} {E : Value → Shared → Prop} {d e : Addr} {od oe : Obj} {l X R : List (Addr × Obj)}
theorem DrawJ.intro {P : Int → Prop} {od' : Obj} {k : Int} {t : Tok} {h' : Heap} {tk' : Nat} {R' X' : List (Addr × Obj)} (F : Fr h₀ L h' m) (N : News h₀ L h' ((d, od') :: (e, oe) :: R')) (Ld : Led d od' e oe l X' R') (hR : ∀ p ∈ R, p ∈ R') (hp : P k) :
    DrawJ h₀ L m s d e oe R P (.int k t) { s with heap := h', toks := tk' } := ⟨od', k, t, h', tk', rfl, rfl, F, newsSub N (List.forall_mem_cons.mpr ⟨.head _, List.forall_mem_cons.mpr ⟨.tail _ (.head _), fun p hp => .tail _ (.tail _ (hR p hp))⟩⟩), Ld.dO, hp⟩
theorem join_draw {t : Sem Value} {Q : Value → Shared → Prop} (P : Int → Prop) (Ld : Led d od e oe l X R) (F : Fr h₀ L s.heap m) (h1 : wpAny (model prog w) A t (DrawJ h₀ L m s d e oe R P) E s)
    (h2 : ∀ od' k t h' tk', Fr h₀ L h' m → News h₀ L h' ((d, od') :: (e, oe) :: R) → Led d od' e oe l X R → P k → Q (.int k t) { s with heap := h', toks := tk' }) : wpAny (model prog w) A t Q E s :=
  wpAny_mono h1 (fun v s' hj => by
    obtain ⟨od', k, t, h', tk', rfl, rfl, F', N', hd, hp⟩ := hj
    exact h2 _ _ _ _ _ F' N' (Ld.turn hd Ld.sO) hp) fun _ _ e => e
theorem join_go {t : Sem Flow} {Q : Flow → Shared → Prop} (Ld : Led d od e oe l X R) (F : Fr h₀ L s.heap m) (h1 : wpAny (model prog w) A t (DrawG h₀ L m s d e oe R Q) E s)
    (h2 : ∀ od' h' tk', Fr h₀ L h' m → News h₀ L h' ((d, od') :: (e, oe) :: R) → Led d od' e oe l X R → Q .next { s with heap := h', toks := tk' }) : wpAny (model prog w) A t Q E s :=
  wpAny_mono h1 (fun f s' hj => by
    rcases hj with hj | ⟨rfl, od', h', tk', rfl, F', N', hd⟩
    · exact hj
    · exact h2 _ _ _ F' N' (Ld.turn hd Ld.sO)) fun _ _ e => e
theorem DrawG.next {Q : Flow → Shared → Prop} {od' : Obj} {h' : Heap} {tk' : Nat} (F : Fr h₀ L h' m) (N : News h₀ L h' ((d, od') :: (e, oe) :: R)) (Ld : Led d od' e oe l X R) : DrawG h₀ L m s d e oe R Q .next { s with heap := h', toks := tk' } := .inr ⟨rfl, od', h', tk', rfl, F, N, Ld.dO⟩
theorem DrawG.go {Q : Flow → Shared → Prop} {f : Flow} {s' : Shared} (h : Q f s') : DrawG h₀ L m s d e oe R Q f s' := .inl h
noncomputable def NonE (R : List (Addr × Obj)) (kn : Addr) : Prop := ∃ vks nks nk, (kn, listOf (List.toArray vks) nk) ∈ R ∧ IntsAre vks nks ∧ 0 < nks.length ∧ nks.length ≤ 100
theorem NonE.mono {R R' : List (Addr × Obj)} {kn : Addr} (h : NonE R kn) (s : ∀ p ∈ R, p ∈ R') : NonE R' kn := let ⟨a, b, c, h1, h2⟩ := h; ⟨a, b, c, s _ h1, h2⟩
theorem u_neNil {kn D : Addr} {n b : Nat} {Q : Value → Shared → Prop} (N : News h₀ L s.heap ((d, od) :: (e, oe) :: R)) (hk : IntL R kn b) (hb : b ≤ 100) (hD : (D, listOf (List.toArray ([] : List Value)) n) ∈ R) (hu : A.units + 64 < cLine)
    (hT : NonE R kn → Q (.bool true) s) (hF : Q (.bool false) s) : wpAny (model prog w) A (compareOp .NotEq (.ref kn) (.ref D)) Q E s := by
  obtain ⟨vks, nks, nk, hm, hi, hl⟩ := hk
  refine ne_intsK (is_list_at N (.tail _ (.tail _ hm))) hi (is_list_at N (.tail _ (.tail _ hD))) .nil hu ?_
  cases nks with
  | nil => exact hF
  | cons x r => exact hT ⟨vks, _, nk, hm, hi, Nat.succ_pos _, Nat.le_trans hl hb⟩
theorem u_eqNil {kn D : Addr} {n b : Nat} {Q : Value → Shared → Prop} (N : News h₀ L s.heap ((d, od) :: (e, oe) :: R)) (hk : IntL R kn b) (hD : (D, listOf (List.toArray ([] : List Value)) n) ∈ R) (hu : A.units + 64 < cLine)
    (hT : Q (.bool true) s) (hF : Q (.bool false) s) : wpAny (model prog w) A (compareOp .Eq (.ref kn) (.ref D)) Q E s := by
  obtain ⟨vks, nks, nk, hm, hi, hl⟩ := hk
  refine eq_intsK (is_list_at N (.tail _ (.tail _ hm))) hi (is_list_at N (.tail _ (.tail _ hD))) .nil hu ?_
  cases nks with
  | nil => exact hT
  | cons x r => exact hF
theorem u_item0 {P : Params} {D : Addr} {vs : List Value} {ts : List Nd} {n : Nat} {u : Tok} {Q : Value → Shared → Prop} {value slice : PySem.Expr} (N : News h₀ L s.heap ((d, od) :: (e, oe) :: R)) (hm : (D, listOf vs.toArray n) ∈ R) (hT : NodesIn P X vs ts) (hl : 0 < vs.length)
    (h : ∀ v T, NodeIn P X v T → T ∈ ts → Q v s) (hs : subscripted slice false (.ref D) (.int 0 u) = operate [.ref D, .int 0 u] (getItem (.ref D) (.int 0 u))) : wpAny (model prog w) A (subscriptTail value slice (.ref D) (.int 0 u)) Q E s := by
  rcases hT.cases with ⟨rfl, _⟩ | ⟨v, t, vs', ts', rfl, rfl, h1, _⟩
  · exact absurd hl (Nat.lt_irrefl 0)
  · have L0 := is_list_at N (.tail _ (.tail _ hm))
    exact tail_any L0.typeIs slot_list_getitem.lookup (wpAny_getItem_list L0 (by decide) (by decide) (x := v) (by simp) (h v t h1 (.head _))) hs
theorem NodesIn.last {P : Params} : ∀ {vs : List Value} {ts : List Nd}, NodesIn P X vs ts → 0 < vs.length → ∃ v T, vs[vs.length - 1]? = some v ∧ NodeIn P X v T ∧ T ∈ ts := by
  intro vs ts h hl
  have hl' : vs.length - 1 < vs.length := by omega
  have hl2 : vs.length - 1 < ts.length := by rw [← h.1]; exact hl'
  exact ⟨vs[vs.length - 1], ts[vs.length - 1], List.getElem?_eq_getElem hl', h.2 (vs.length - 1) _ _ (List.getElem?_eq_getElem hl') (List.getElem?_eq_getElem hl2), List.getElem_mem hl2⟩
theorem u_itemL {P : Params} {D : Addr} {vs : List Value} {ts : List Nd} {n : Nat} {u : Tok} {Q : Value → Shared → Prop} {value slice : PySem.Expr} (N : News h₀ L s.heap ((d, od) :: (e, oe) :: R)) (hm : (D, listOf vs.toArray n) ∈ R) (hT : NodesIn P X vs ts) (hl : 0 < vs.length)
    (h : ∀ v T, NodeIn P X v T → T ∈ ts → Q v s) (hs : subscripted slice false (.ref D) (.int (-1) u) = operate [.ref D, .int (-1) u] (getItem (.ref D) (.int (-1) u))) : wpAny (model prog w) A (subscriptTail value slice (.ref D) (.int (-1) u)) Q E s := by
  obtain ⟨v, T, h1, h2, h3⟩ := hT.last hl
  have L0 := is_list_at N (.tail _ (.tail _ hm))
  have hz : vs.toArray.size = vs.length := List.size_toArray
  exact tail_any L0.typeIs slot_list_getitem.lookup (wpAny_getItem_list_neg L0 (by decide) (by rw [hz]; omega) (by decide) (x := v) (by
    rw [hz, show (-1 + (vs.length : Int)).toNat = vs.length - 1 by omega]
    simpa using h1) (h v T h2 h3)) hs
end
theorem u_oneN {w : World} {dp un : Nat} {gd : Option (List Code)} {cn : Str} {cs : Scope} {a : Addr} {ccd : Value} {cl : List (Str × Addr)} {outer : List Env} {A₀ : Around} {base h₀ : Heap} {L : Addr} {m : Str → Option Value} {s : Shared}
    {Q E : Value → Shared → Prop} {p : Program} {loose : List Str} {mean : ExcName → Option Value} {mg mb : Str → Option Value} {d e : Addr} {od oe : Obj} {l X R : List (Addr × Obj)} {it : Addr} (Ld : Led d od e oe l X R) (N : News h₀ L s.heap ((d, od) :: (e, oe) :: R)) (B : Below A₀ base outer h₀) (F : Fr h₀ L s.heap m) (K : (KK w.params).In h₀) (P : Prims h₀) (T : Top p loose mean mg mb h₀) (hk : cs.kind = .function)
    (hd : dp + 20 < recursionLimit) (hu : un + 200 < cLine) (hn : NonE R it)
    (h : ∀ od' k t' h' tk', Fr h₀ L h' m → News h₀ L h' ((d, od') :: (e, oe) :: R) → Led d od' e oe l X R → Q (.int k t') { s with heap := h', toks := tk' }) :
    wpAny (model lw.row.prog w) (ktrTop dp un gd cn cs L a ccd cl outer) (call (.ref 768) [.ref d, .ref it]) Q E s := by
  obtain ⟨vks, nks, nk, h1, h2, h3, h4⟩ := hn
  exact u_one Ld N B F K P T hk hd hu h1 h2 h3 (by omega) h
theorem nonE_nine {R : List (Addr × Obj)} {D : Addr} {n : Nat} {a1 a2 a3 a4 a5 a6 a7 a8 a9 : Int} {t1 t2 t3 t4 t5 t6 t7 t8 t9 : Tok} : NonE ((D, listOf (List.toArray [.int a1 t1, .int a2 t2, .int a3 t3, .int a4 t4, .int a5 t5, .int a6 t6, .int a7 t7, .int a8 t8, .int a9 t9]) n) :: R) D :=
  ⟨_, [a1, a2, a3, a4, a5, a6, a7, a8, a9], n, .head _, .cons a1 t1 (.cons a2 t2 (.cons a3 t3 (.cons a4 t4 (.cons a5 t5 (.cons a6 t6 (.cons a7 t7 (.cons a8 t8 (.cons a9 t9  .nil)))))))), Nat.succ_pos _, by simp⟩
theorem setup_13 : True := by
  k_with "w:call ref" => (k_here; (with_reducible show wpAny _ _ (call (Value.ref 792) [Value.ref _, Value.ref _, Value.ref _, Value.int _ _]) _ _ _); (with_reducible rename Led _ _ _ _ _ _ _ => Lx); k_dflt (refine' u_fix ?qhN7 Lx ?qN7 ?qB7 ?qF7 ?qX7 ?qXP7 ?qT7 ?qK7 ?qhd7 ?qhu7 ?qkn7 ?qkl7 ?qdp7 ?qdp27 ?_; (case qhN7 => assumption); (k_extra "m:led1"); (case qkn7 => k_extra "m:intl"); (case qkl7 => omega); (case qdp7 => omega); (case qdp27 => omega)); intro od' oe' x' r' T' h' tk' F' N' Ld' hT' hw' hD'; clear Lx; (try k_sweep); (try dsimp only))
  k_with "w:call ref" => (k_here; (with_reducible show wpAny _ _ (call (Value.ref 768) [Value.ref _, Value.ref _]) _ _ _); (with_reducible rename Led _ _ _ _ _ _ _ => Lx); k_dflt (refine' u_oneN Lx ?qN7 ?qB7 ?qF7 ?qX7 ?qXP7 ?qT7 ?qK7 ?qhd7 ?qhu7 ?qne7 ?_; (k_extra "m:led1"); (case qne7 => first | exact nonE_nine | (refine' NonE.mono ?h9 ?s9; (case h9 => with_reducible assumption); (case s9 => k_extra "m:lift")))); intro od' k' t' h' tk' F' N' Ld'; clear Lx; (try k_sweep); (try dsimp only))
  k_with "w:compareOp NotEq ref ref" => (k_here; (with_reducible show wpAny _ _ (compareOp CmpOp.NotEq (Value.ref _) (Value.ref _)) _ _ _); k_dflt (refine' u_neNil ?cN8 ?ck8 ?cb8 ?cD8 ?cu8 ?_ ?_; (case cN8 => assumption); (case ck8 => k_extra "m:intl"); (case cb8 => omega); (case cD8 => k_mem); (case cu8 => k_extra "m:units")); first | (intro hNE') | skip)
  k_with "w:compareOp Eq ref ref" => (k_here; (with_reducible show wpAny _ _ (compareOp CmpOp.Eq (Value.ref _) (Value.ref _)) _ _ _); k_dflt (refine' u_eqNil ?cN8 ?ck8 ?cD8 ?cu8 ?_ ?_; (case cN8 => assumption); (case ck8 => k_extra "m:intl"); (case cD8 => k_mem); (case cu8 => k_extra "m:units")))
  k_with "w:DrawJ" => (refine' DrawJ.intro ?jF8 ?jN8 ?jL8 ?jR8 ?jP8; (case jF8 => k_asm); (case jN8 => assumption); (case jL8 => assumption); (case jR8 => k_extra "m:lift"); (case jP8 => first | trivial | ((show _ ∧ _ ∧ _); refine ⟨?_, ?_, ?_⟩ <;> omega)))
  k_with "w:DrawG" => first | (refine' DrawG.next ?jF8 ?jN8 ?jL8; (case jF8 => k_asm); (case jN8 => assumption); (case jL8 => assumption)) | refine DrawG.go ?_
  trivial
set_option maxHeartbeats 4000000 in
theorem node_step (w : World) {k : Nat} (hN : ∀ j, k = j + 1 → NodeS w j) : NodeS w k := by
  intro d e kn od oe deep td l₀ X₀ R b Ld hkn hkl hdp hdp'
  replace Ld : Led d od e oe R [] R := Led.start Ld.dO Ld.sO Ld.de Ld.nd Ld.ns
  unfold Spec
  k_fill
  intro dp un gd cn cs a ccd cl outer A₀ base h₀ L m s Q E p loose mean mg mb B F X XP N T hk hd hu hret herr
  refine wpAny_call ?_
  have hdm : 60 ≤ dmN k := by unfold dmN; omega
  have hum : 600 ≤ umN k := by unfold umN; omega
  have hd1 : dp + 60 < recursionLimit := by omega
  have hu1 : un + 600 < cLine := by omega
  k_dflt (refine' code_defC (binds := [(Str.ofString "_law_deck", .ref d), (Str.ofString "_law_state", .ref e), (Str.ofString "_law_known", .ref kn), (Str.ofString "_law_deep", .int deep td)]) ?k1 ?k2 ?k3 ?k4 ?k5 ?kA ?kF ?kK ?k6 ?k7 ?k8 ?k9 ?kB ?kD ?_ ?c2 ?c3 ?c4; k_extra "m:enterC")
  replace Ld := Led.cells Ld lC' (x := [(L' + 1 + 1 + 1 + 1, o1'), (L' + 1 + 1 + 1, o2'), (L' + 1 + 1, o3'), (L' + 1, o4')]) (above_cons (Nat.le_add_right _ 4) (above_cons (Nat.le_add_right _ 3) (above_cons (Nat.le_add_right _ 2) (above_cons (Nat.le_add_right _ 1) above_nil))))
  replace N' := led_front (x := [(L' + 1 + 1 + 1 + 1, o1'), (L' + 1 + 1 + 1, o2'), (L' + 1 + 1, o3'), (L' + 1, o4')]) N'
  simp only [List.cons_append, List.nil_append] at Ld N'
  clear lC'
  have kdF : KdF (fScope (stAt 53)) := by (unfold KdF; kernel_rfl!)
  have kd0 : KdC (fScope (stAt 53)) L' (Str.ofString "_law_deck") (L' + 1) := ⟨by kernel_rfl!, by kernel_rfl!, by kernel_rfl!⟩
  have kd1 : KdC (fScope (stAt 53)) L' (Str.ofString "_law_state") (L' + 1 + 1) := ⟨by kernel_rfl!, by kernel_rfl!, by kernel_rfl!⟩
  have kd2 : KdC (fScope (stAt 53)) L' (Str.ofString "_law_known") (L' + 1 + 1 + 1) := ⟨by kernel_rfl!, by kernel_rfl!, by kernel_rfl!⟩
  have kd3 : KdC (fScope (stAt 53)) L' (Str.ofString "_law_deep") (L' + 1 + 1 + 1 + 1) := ⟨by kernel_rfl!, by kernel_rfl!, by kernel_rfl!⟩
  have kd4 : KdL (fScope (stAt 53)) (Str.ofString "_law_way") := ⟨by kernel_rfl!, by kernel_rfl!⟩
  have kd5 : KdL (fScope (stAt 53)) (Str.ofString "_law_number") := ⟨by kernel_rfl!, by kernel_rfl!⟩
  have kd6 : KdL (fScope (stAt 53)) (Str.ofString "_law_parts") := ⟨by kernel_rfl!, by kernel_rfl!⟩
  have kd7 : KdG (fScope (stAt 53)) (Str.ofString "_law_draw") := ⟨by kernel_rfl!, by kernel_rfl!⟩
  have kd8 : KdG (fScope (stAt 53)) (Str.ofString "_law_one") := ⟨by kernel_rfl!, by kernel_rfl!⟩
  have kd9 : KdG (fScope (stAt 53)) (Str.ofString "Const") := ⟨by kernel_rfl!, by kernel_rfl!⟩
  have kd10 : KdG (fScope (stAt 53)) (Str.ofString "Local") := ⟨by kernel_rfl!, by kernel_rfl!⟩
  have kd11 : KdG (fScope (stAt 53)) (Str.ofString "Global") := ⟨by kernel_rfl!, by kernel_rfl!⟩
  have kd12 : KdG (fScope (stAt 53)) (Str.ofString "_law_lam") := ⟨by kernel_rfl!, by kernel_rfl!⟩
  have kd13 : KdG (fScope (stAt 53)) (Str.ofString "_law_fix") := ⟨by kernel_rfl!, by kernel_rfl!⟩
  have kd14 : KdG (fScope (stAt 53)) (Str.ofString "SetLocal") := ⟨by kernel_rfl!, by kernel_rfl!⟩
  have kd15 : KdG (fScope (stAt 53)) (Str.ofString "_law_node_of") := ⟨by kernel_rfl!, by kernel_rfl!⟩
  have kd16 : KdG (fScope (stAt 53)) (Str.ofString "Define") := ⟨by kernel_rfl!, by kernel_rfl!⟩
  have kd17 : KdG (fScope (stAt 53)) (Str.ofString "SetGlobal") := ⟨by kernel_rfl!, by kernel_rfl!⟩
  have kd18 : KdG (fScope (stAt 53)) (Str.ofString "If") := ⟨by kernel_rfl!, by kernel_rfl!⟩
  have kd19 : KdG (fScope (stAt 53)) (Str.ofString "Seq") := ⟨by kernel_rfl!, by kernel_rfl!⟩
  have kd20 : KdG (fScope (stAt 53)) (Str.ofString "Call") := ⟨by kernel_rfl!, by kernel_rfl!⟩
  have kd21 : KdG (fScope (stAt 53)) (Str.ofString "Prim") := ⟨by kernel_rfl!, by kernel_rfl!⟩
  k_with "w:eval IfExp" => ((goal_lacks Mine.DrawJ); (with_reducible show wpAny _ _ (eval (Expr.IfExp (Expr.Compare (Expr.Name (Str.ofString "_law_deep") _) _ _ _) _ _ _) _) _ _ _); (with_reducible rename Led _ _ _ _ _ _ _ => Lx); k_dflt (refine' join_draw (fun k => 0 ≤ k ∧ k < 12 ∧ (0 < deep ∨ k < 3)) Lx ?jF9 ?j19 ?j29; (case jF9 => k_asm)); all_goals first | (intro od' way t' h' tk' F' N' Ld' hway; obtain ⟨hway0, hway1, hway2⟩ := hway; clear Lx; k_sweep; (try dsimp only)) | skip)
  k_with "w:eval IfExp" => ((goal_lacks Mine.DrawJ); (with_reducible show wpAny _ _ (eval (Expr.IfExp (Expr.BoolOp BoolOp.And _ _) _ _ _) _) _ _ _); (with_reducible rename Led _ _ _ _ _ _ _ => Lx); k_dflt (refine' join_draw (fun _ => True) Lx ?jF6 ?j16 ?j26; (case jF6 => k_asm)); all_goals first | (intro od' num t' h' tk' F' N' Ld' _; clear Lx; k_sweep; (try dsimp only)) | skip)
  k_with "w:exec If" => ((goal_lacks Mine.DrawG); (with_reducible show wpAny _ _ (exec (Stmt.If (Expr.BoolOp _ _ _) _ _ _) _) _ _ _); (with_reducible rename Led _ _ _ _ _ _ _ => Lx); k_dflt (refine' join_go Lx ?jF5 ?j15 ?j25; (case jF5 => k_asm)); all_goals first | (intro od' h' tk' F' N' Ld'; clear Lx; k_sweep; (try dsimp only)) | skip)
  k_with "w:exec If" => ((with_reducible show wpAny _ _ (exec (Stmt.If (Expr.Compare _ _ [Expr.Constant (Const.int 3) _ _] _) _ _ _) _) _ _ _); (fail_if_success (have := hNj)); (rcases k with _ | j); all_goals first | (exfalso; omega) | (have hbj : bnd (j + 1) = 4 * bnd j + 30 := rfl; have hbp := bnd_pos j; have hNj : NodeS w j := @hN j rfl; have hdj : dmN (j + 1) = dmN j + 10 := (by unfold dmN; omega); have huj : umN (j + 1) = umN j + 100 := (by unfold umN; omega); have hd3 : dp + (dmN j + 10) < recursionLimit := (by rw [← hdj]; exact hd); have hu3 : un + (umN j + 100) < cLine := (by rw [← huj]; exact hu); have hd2 := hd1; have hu2 := hu1))
  k_with "w:CompSrc" => ((with_reducible rename Led _ _ _ _ _ _ _ => Lx); k_dflt (refine' u_range Lx ?qN4cc ?qF4cc ?qh4cc ?qr4cc ?q04cc ?q14cc (NodeV w.params (bnd j) fun T => wt T ≤ bnd j ∧ dpt T ≤ 2 * j + 1) NodeV.mono ?qt4cc ?qf4cc; (case qN4cc => assumption); (case qF4cc => k_asm); (case qh4cc => rfl); (case qr4cc => assumption); (case q04cc => omega); (case q14cc => omega)); all_goals first | (intro g v I oI C oC D ys x₁ od₁ oe₁ m₂ h tk E' hC hx F' N' Ld'; clear Lx; k_sweep) | (intro g ys₂ x₁ od₁ oe₁ hl₂ hg L1; refine' finA_nodes Lx L1 hg ?_; intro D' vs3 ts3 n3 h' tk' F' N' Ld' off3 hT3 hl3 hw3 hZ3; have hw4 : wts ts3 ≤ 3 * bnd j := Nat.le_trans hw3 (Nat.mul_le_mul_right _ (by omega)); have hl4 : 0 < vs3.length := (by omega); clear Lx L1 hg hw3; k_sweep; (try dsimp only)))
  k_with "w:TurnEnd" => exact TurnEnd.intro (by k_asm) (by assumption) (by assumption) ⟨_, NodeIn.mono hT' (by k_extra "m:lift"), hw', hw', hD'⟩
  k_with "w:subscriptTail Name Constant ref int" => ((with_reducible show wpAny _ _ (subscriptTail _ _ (Value.ref _) (Value.int 0 _)) _ _ _); k_dflt (refine' u_item0 ?iN8 ?im8 hT3 ?il8 ?_ ?is8; (case iN8 => assumption); (case im8 => k_mem); (case il8 => omega); (case is8 => with_unfolding_all rfl)); intro v0 T0 hv0 hm0; obtain ⟨hq1, hq2⟩ := hZ3 T0 hm0; clear hm0)
  k_with "w:subscriptTail Name UnaryOp ref int" => ((with_reducible show wpAny _ _ (subscriptTail _ _ (Value.ref _) (Value.int _ _)) _ _ _); k_dflt (refine' u_itemL ?iN7 ?im7 hT3 ?il7 ?_ ?is7; (case iN7 => assumption); (case im7 => k_mem); (case il7 => omega); (case is7 => with_unfolding_all rfl)); intro vl Tl hvl hml; obtain ⟨hq3, hq4⟩ := hZ3 Tl hml; clear hml)
  k_with "m:nodesl" => exact NodesIn.nil
  k_with "m:nodesl" => exact NodesIn.drop1 (NodesIn.mono hT3 (by k_extra "m:lift"))
  k_with "m:nodesl" => exact NodesIn.mono hT3 (by k_extra "m:lift")
  have hbp0 := bnd_pos k
  k_steps
  all_goals (refine built_end hret (by k_asm) ?_ Ld' (NodeIn.mono hT' (by k_extra "m:lift")) ?_ ?_; all_goals first | assumption | omega | (simp only [wt, wts, dpt, dpts]; omega) | (have a2 := wts_drop1 ts3; have b1 := dpts_le (d := 2 * j + 1) (fun t ht => (hZ3 t ht).2); have b3 := dpts_le (d := 2 * j + 1) (all_drop1 fun t ht => (hZ3 t ht).2); simp only [wt, wts, dpt, dpts]; omega))
theorem node_all (w : World) (k : Nat) : NodeS w k := by
  induction k with
  | zero => exact @node_step w 0 fun j h => nomatch h
  | succ k ih =>
    refine @node_step w (k + 1) fun j h => ?_
    have e : k = j := Nat.succ.inj h
    subst e
    exact @ih
theorem setup_14 : True := by
  k_with_none
  k_with "w:subscriptTail Name Constant ref int" => (k_here; (with_reducible show wpAny _ _ (subscriptTail _ _ (Value.ref _) (Value.int _ _)) _ _ _); (with_unfolding_all refine' item_at ?k1 ?k2 ?k3 ?k4 ?k5 ?_ ?k6; (case k1 => k_asm); (case k2 => k_mem); (case k3 => decide); (case k4 => decide); (case k5 => rfl); (case k6 => with_unfolding_all rfl); k_whole))
  k_with "w:call builtin:list.pop" => (k_here; (with_reducible show wpAny _ _ (call (Value.builtin _) [Value.ref _, Value.int 0 _]) _ _ _); k_dflt (refine' pop0 ?qF7 ?qN7 ?qU7 ?qz7 ?_; (case qF7 => k_asm); (case qN7 => k_asm); (case qU7 => k_upd); (case qz7 => (have hLen9 := IntsAre.length (by assumption); simp only [List.length_cons] at *; omega)); k_whole); intro h' F' N'; (try k_sweep))
  k_with "m:enter" => ((case kA => exact rfl); (case kF => exact rfl); (case kK => assumption); (case k1 => k_asm); (case k2 => k_asm); (case k3 => k_asm); (case k4 => k_asm); (case k5 => k_asm); (case k6 => k_is); (case k7 => k_is); (case k8 => k_extra "m:room0"); (case k9 => exact BindsTo.of_eq rfl); (case c5 => decide); (case kB => exact locs rfl); (case c2 => exact rfl); (case c3 => exact rfl); (case c4 => exact rfl); k_whole; intro g' L' h' FG' F' N' B' X' T'; (have XP' := Prims.keeps (by assumption) (Fr.keep FG')); (try dsimp only); (try k_fold); (refine' enterQ ?_); intro Q9 hQ9; (show let A9 := _; wpAny _ A9 _ _ _ _); intro A9)
  k_with "m:pick" => first | exact Pick.head | (apply Pick.tail; k_extra "m:pick") | (apply Pick.app; k_extra "m:pick")
  k_with "m:use" => ((case qB7 => k_asm); (case qF7 => k_asm); (case qX7 => k_asm); (case qXP7 => k_asm); (case qT7 => k_asm); (case qK7 => first | exact rfl | assumption); (case qhd7 => k_extra "m:room"); (case qhu7 => k_extra "m:units"))
  k_with "m:noX" => exact fun _ _ _ _ _ _ h => False.elim h
  k_with "w:call builtin:len" => (k_here; (with_reducible show wpAny _ _ (call (Value.builtin "len") [Value.ref _]) _ _ _); k_dflt (refine' kst_len ?k1 ?k2 ?k3 ?k4 ?_; (case k1 => k_asm); (case k2 => k_mem); (case k3 => exact IntsAre.length (by assumption)); (case k4 => omega); k_whole))
  k_with "w:subscriptTail Name Call ref int" => (k_here; (with_reducible show wpAny _ _ (subscriptTail _ _ (Value.ref _) (Value.int _ _)) _ _ _); k_dflt (refine' ksa_sub ?k1 ?k2 ?k3 ?k4 ?k5 ?k6 ?_ ?k7; (case k1 => k_asm); (case k2 => k_mem); (case k3 => with_reducible assumption); (case k4 => omega); (case k5 => omega); (case k6 => omega); (case k7 => with_unfolding_all rfl); k_whole); intro _)
  k_with "w:subscriptTail Name Name ref int" => (k_here; (with_reducible show wpAny _ _ (subscriptTail _ _ (Value.ref _) (Value.int _ _)) _ _ _); k_dflt (refine' ksa_sub ?k1 ?k2 ?k3 ?k4 ?k5 ?k6 ?_ ?k7; (case k1 => k_asm); (case k2 => k_mem); (case k3 => with_reducible assumption); (case k4 => omega); (case k5 => omega); (case k6 => omega); (case k7 => with_unfolding_all rfl); k_whole); intro _)
  k_with "m:in" => first | assumption | exact List.Mem.head _ | (apply List.mem_cons_of_mem; k_extra "m:in") | (apply List.mem_append_right; k_extra "m:in") | (apply List.mem_append_left; k_extra "m:in")
  k_with "m:sub" => first | exact List.forall_mem_nil _ | exact fun _ h => h | (refine' List.forall_mem_cons.mpr ⟨?a9, ?b9⟩; (case a9 => first | k_mem | k_extra "m:in"); (case b9 => k_extra "m:sub")) | (refine' List.forall_mem_append.mpr ⟨?a9, ?b9⟩; (case a9 => k_extra "m:sub"); (case b9 => k_extra "m:sub")) | (intro p9 h9; k_extra "m:in")
  k_with "m:mid" => first | (apply Mid.cons; k_extra "m:mid") | exact Mid.base
  k_with "m:enterC" => ((case kA => exact rfl); (case kF => exact rfl); (case kK => assumption); (case k1 => k_asm); (case k2 => k_asm); (case k3 => k_asm); (case k4 => k_asm); (case k5 => k_asm); (case k6 => k_is); (case k7 => k_is); (case k8 => k_extra "m:room0"); (case k9 => exact BindsTo.of_eq rfl); (case kB => exact rfl); (case kD => decide +kernel); (case c2 => exact rfl); (case c3 => exact rfl); (case c4 => exact rfl); k_whole; intro g' L' h' tk' cells' FG' F' N' Y' B' X' T' l1; (have lC' : CellsOff _ _ := l1); clear l1; (have XP' := Prims.keeps (by assumption) (Fr.keep FG')); (k_extra "m:cells"); (try simp only [List.cons_append, List.nil_append] at N'); (try dsimp only); (try k_fold); (refine' enterQ ?_); intro Q9 hQ9; (show let A9 := _; wpAny _ A9 _ _ _ _); intro A9)
  k_with "m:X" => (refine' mem_fresh ?m9 ?a9 ?b9 ?c9; (case m9 => k_mem); (case a9 => k_ne); (case b9 => k_ne); (case c9 => k_all))
  k_with "m:Xs" => (refine' sub_fresh ?m9 ?a9; (case m9 => k_extra "m:sub"); (case a9 => (refine' Above2.sub ?h8 ?s8; (case h8 => with_reducible assumption); (case s8 => k_extra "m:sub"))))
  k_with "m:h" => with_reducible assumption
  k_with "m:ne" => first | with_reducible assumption | (refine' Ne.symm ?s9; (case s9 => with_reducible assumption)) | (refine' AllLt.neL ?h9 ?m9; (case h9 => k_extra "m:h"); (case m9 => k_mem)) | (refine' AllLt.neR ?h9 ?m9; (case h9 => k_extra "m:h"); (case m9 => k_mem)) | (refine' NeA.out ?h9; (case h9 => k_extra "m:h")) | (refine' NeA.sym ?h9; (case h9 => k_extra "m:h")) | (refine' Off1.neL ?h9 ?m9; (case h9 => k_extra "m:h"); (case m9 => k_mem)) | (refine' Off1.neR ?h9 ?m9; (case h9 => k_extra "m:h"); (case m9 => k_mem)) | (refine' CellsOff.neL ?h9 ?m9 ?b9; (case h9 => k_extra "m:h"); (case m9 => k_mem); (case b9 => k_extra "m:up")) | (refine' CellsOff.neR ?h9 ?m9 ?b9; (case h9 => k_extra "m:h"); (case m9 => k_mem); (case b9 => k_extra "m:up")) | exact up12 | exact up12.symm | exact up13 | exact up13.symm | exact up14 | exact up14.symm | exact up15 | exact up15.symm | omega
  k_with "m:all" => first | with_reducible assumption | (refine' AllLt.neS ?h9 ?s9; (case h9 => k_extra "m:h"); (case s9 => k_extra "m:sub")) | (refine' Off1.neS ?h9 ?s9; (case h9 => k_extra "m:h"); (case s9 => k_extra "m:sub")) | (refine' Above2.ne1 ?h9; (case h9 => k_extra "m:h")) | (refine' Above2.ne2 ?h9; (case h9 => k_extra "m:h")) | (refine' Above2.ne ?h9 ?m9; (case h9 => k_extra "m:h"); (case m9 => k_mem)) | (refine' CellsOff.ne ?h9 ?b9 ?s9; (case h9 => k_extra "m:h"); (case b9 => k_extra "m:up"); (case s9 => k_extra "m:sub")) | (refine' ne_of_below ?h9; (case h9 => k_extra "m:h"))
  k_with "w:FinE" => ((unfold LCg.FinE); intro D' h' tk' F' N' o1'; (try simp only [List.nil_append, List.cons_append] at N'); (try dsimp only))
  k_with "w:FinA" => ((unfold LCg.FinA); intro D' h' tk' F' N' o1'; (try simp only [List.nil_append, List.cons_append] at N'); (try dsimp only))
  k_with "w:binaryOp Add ref ref" => (k_here; (with_reducible show wpAny _ _ (binaryOp _ (Value.ref _) (Value.ref _)) _ _ _); k_dflt (refine' add_ints_at ?F ?N ?a ?b ?i ?j ?z ?_; (case F => k_asm); (case N => k_asm); (case a => k_mem); (case b => k_mem); (case i => first | with_reducible assumption | exact .nil | exact .cons _ _ .nil); (case j => first | with_reducible assumption | exact .nil | exact .cons _ _ .nil); (case z => (simp only [List.length_append, List.length_cons, List.length_nil]; omega))); intro D' ws' h' F' N' l1 hI'; (try k_sweep))
  k_with "m:cells" => (have hY := cells_five Y'; obtain ⟨o1', o2', o3', o4', o5', hE', d1', d2', d3', d4', d5'⟩ := hY; subst hE'; clear Y'; (try replace d1' := cellSome d1' rfl); (try replace d2' := cellSome d2' rfl); (try replace d3' := cellSome d3' rfl); (try replace d4' := cellSome d4' rfl); (try replace d5' := cellSome d5' rfl))
  k_with "m:cells" => (have hY := cells_four Y'; obtain ⟨o1', o2', o3', o4', hE', d1', d2', d3', d4'⟩ := hY; subst hE'; clear Y'; (try replace d1' := cellSome d1' rfl); (try replace d2' := cellSome d2' rfl); (try replace d3' := cellSome d3' rfl); (try replace d4' := cellSome d4' rfl))
  k_with "m:cells" => (have hY := cells_two Y'; obtain ⟨o1', o2', hE', d1', d2'⟩ := hY; subst hE'; clear Y'; (try replace d1' := cellSome d1' rfl); (try replace d2' := cellSome d2' rfl))
  k_with "m:cells" => (have hY := cells_three Y'; obtain ⟨o1', o2', o3', hE', d1', d2', d3'⟩ := hY; subst hE'; clear Y'; (try replace d1' := cellSome d1' rfl); (try replace d2' := cellSome d2' rfl); (try replace d3' := cellSome d3' rfl))
  k_with "w:KAt" => ((refine' KAt.of ?kh9 ?_; (case kh9 => assumption)); (try dsimp only))
  k_with "m:room" => ktr_room
  k_with "m:units" => ktr_units
  k_with "m:room0" => first | (refine' room0 ?rh9; (case rh9 => assumption)) | ktr_room
  k_with "m:units2" => first | (refine' room1 ?rh9 ?re9; (case rh9 => assumption); (case re9 => exact rfl)) | (refine' room2 ?rh8 ?re8; (case rh8 => assumption); (case re8 => exact rfl)) | (refine' room3 ?rh7 ?re7; (case rh7 => assumption); (case re7 => exact rfl)) | (refine' room4 ?rh6 ?re6; (case rh6 => assumption); (case re6 => exact rfl)) | ((have hcL9 := cLine_is); (simp +zetaDelta only [units_in1, units_deeper, Around.mark_units, units_caller, cLine] at *); (try dsimp only [ktrTop] at *); omega)
  k_with "m:room2" => first | (refine' room1 ?rh9 ?re9; (case rh9 => assumption); (case re9 => exact rfl)) | (refine' room2 ?rh8 ?re8; (case rh8 => assumption); (case re8 => exact rfl)) | (refine' room3 ?rh7 ?re7; (case rh7 => assumption); (case re7 => exact rfl)) | (refine' room4 ?rh6 ?re6; (case rh6 => assumption); (case re6 => exact rfl)) | ((simp +zetaDelta only [depth_under_make, depth_under_kw, depth_in1, depth_deeper, depth_caller, recursionLimit] at *); (try dsimp only [ktrTop] at *); omega)
  k_with "m:up" => first | exact Nat.le_add_right _ 1 | exact Nat.le_add_right _ 2 | exact Nat.le_add_right _ 3 | exact Nat.le_add_right _ 4 | exact Nat.le_add_right _ 5 | omega
  k_with "w:call ref" => (k_here; (with_reducible show wpAny _ _ (call (Value.ref 756) [Value.ref _, Value.int _ _]) _ _ _); k_dflt (refine' Spec.use (draw_spec _ ?qI7 ?qne7 ?qm17 ?qm27 ?ql7) ?qB7 ?qF7 ?qX7 ?qXP7 (Pick.front ?qP7 ?qN7) ?qT7 ?qK7 ?qhd7 ?qhu7 ?_ ?qx7; (case qN7 => k_asm); (case qP7 => k_extra "m:pick"); (k_extra "m:use"); (case qI7 => assumption); (case qne7 => k_all); (case qm17 => first | decide | omega); (case qm27 => first | decide | omega); (case ql7 => first | assumption | (simp; done) | omega); (case qx7 => k_extra "m:noX"); (rintro _ _ h' tk' F' N' ⟨vs', ns', n', k', t', e1, e2, hI', hl', hk0, hk1⟩); subst e1 e2; (try k_sweep); (try dsimp only)))
  k_with "w:call ref" => (k_here; (with_reducible show wpAny _ _ (call (Value.ref 768) [Value.ref _, Value.ref _]) _ _ _); k_dflt (refine' Spec.use (one_spec _ ?qI7 ?qne7 ?ql7 ?qit7 ?qII7 ?qz07 ?qz17) ?qB7 ?qF7 ?qX7 ?qXP7 (Pick.front ?qP7 ?qN7) ?qT7 ?qK7 ?qhd7 ?qhu7 ?_ ?qx7; (case qN7 => k_asm); (case qP7 => k_extra "m:pick"); (case qit7 => k_mem); (k_extra "m:use"); (case qI7 => assumption); (case qII7 => assumption); (case qne7 => k_all); (case ql7 => first | assumption | (simp; done) | omega); (case qz07 => first | decide | omega); (case qz17 => first | decide | omega); (case qx7 => k_extra "m:noX"); (rintro _ _ h' tk' F' N' ⟨vs', ns', n', k', t', e1, e2, hI', hl'⟩); subst e1 e2; (try k_sweep); (try dsimp only)))
  k_with "w:call ref" => (k_here; (with_reducible show wpAny _ _ (call (Value.ref 775) [Value.ref _, Value.int _ _]) _ _ _); k_dflt (refine' Spec.use (new_spec _ ?qne7 ?qhb7 ?qha7) ?qB7 ?qF7 ?qX7 ?qXP7 (Pick.front ?qP7 ?qN7) ?qT7 ?qK7 ?qhd7 ?qhu7 ?_ ?qx7; (case qN7 => k_asm); (case qP7 => k_extra "m:pick"); (k_extra "m:use"); (case qne7 => k_all); (case qhb7 => omega); (case qha7 => first | assumption | omega); (case qx7 => k_extra "m:noX"); (rintro _ _ h' tk' F' N' ⟨a1', b1', ta1', tb1', n', k', t', e1, e2, hb', hk'⟩); subst e1 e2; (try k_sweep); (try dsimp only)))
  k_with "w:call ref" => (k_here; (with_reducible show wpAny _ _ (call (Value.ref 782) [Value.ref _, Value.ref _, Value.int _ _]) _ _ _); k_dflt (refine' Spec.use (bind_spec _ ?qI7 ?qds7 ?qne7 ?qne27 ?ql7 ?qhb7 ?qha7) ?qB7 ?qF7 ?qX7 ?qXP7 (Pick.front2 ?qP7 ?qP27 ?qN7) ?qT7 ?qK7 ?qhd7 ?qhu7 ?_ ?qx7; (case qN7 => k_asm); (case qP7 => k_extra "m:pick"); (case qP27 => k_extra "m:pick"); (k_extra "m:use"); (case qI7 => assumption); (case qds7 => assumption); (case qne7 => k_all); (case qne27 => k_all); (case ql7 => first | assumption | (simp; done) | omega); (case qhb7 => omega); (case qha7 => first | assumption | omega); (case qx7 => k_extra "m:noX"); (rintro _ _ h' tk' F' N' ⟨vs', ns', n', a1', b1', ta1', tb1', n2', k', t', e1, e2, hI', hl', hb', hk'⟩); subst e1 e2; (try k_sweep); (try dsimp only)))
  k_with "w:eval Name" => ((with_reducible show wpAny _ _ (eval (Expr.Name _ _) (envOf _ _ _ _ _)) _ _ _); first | (with_reducible refine' nm_L0 ?kZ8 ?FZ8 ?kfZ8 ?vZ8 ?_; (case kZ8 => assumption); (case FZ8 => k_asm); (case kfZ8 => assumption); (case vZ8 => k_extra "m:val"); k_whole) | (with_reducible refine' nm_K0 ?kZ7 ?FZ7 ?kfZ7 ?XZ7 ?TZ7 ?eZ7 ?_; (case kZ7 => assumption); (case FZ7 => k_asm); (case kfZ7 => assumption); (case XZ7 => k_asm); (case TZ7 => k_asm); (case eZ7 => k_is); k_whole))
  k_with "w:eval Name" => ((with_reducible show wpAny _ _ (eval (Expr.Name _ _) (envOfC _ _ _ _ _)) _ _ _); first | (with_reducible refine' nm_L ?kZ9 ?FZ9 ?kfZ9 ?vZ9 ?_; (case kZ9 => assumption); (case FZ9 => k_asm); (case kfZ9 => assumption); (case vZ9 => k_extra "m:val"); k_whole) | (with_reducible refine' nm_C ?kZ9 ?kfZ9 ?NZ9 ?mZ9 ?dZ9 ?_; (case kZ9 => assumption); (case kfZ9 => assumption); (case NZ9 => k_asm); (case mZ9 => k_mem); (case dZ9 => k_asm); k_whole) | (with_reducible refine' nm_K ?kZ9 ?FZ9 ?kfZ9 ?XZ9 ?TZ9 ?eZ9 ?_; (case kZ9 => assumption); (case FZ9 => k_asm); (case kfZ9 => assumption); (case XZ9 => k_asm); (case TZ9 => k_asm); (case eZ9 => k_is); k_whole))
  k_with "w:eval Name" => ((with_reducible show wpAny _ _ (eval (Expr.Name _ _) (compEnvC _ _ _ _)) _ _ _); k_dflt (refine' lcf_free ?NZ9 ?cZ9 ?mZ9 ?dZ9 ?_ ?aZ9 ?bZ9; (case bZ9 => rfl); (case aZ9 => rfl); (case NZ9 => k_asm); (case cZ9 => rfl); (case mZ9 => k_mem); (case dZ9 => k_asm); k_whole))
  k_with "m:val" => first | (with_reducible exact upd_hit) | ((with_reducible refine' upd_skip ?h9 ?k9); (case h9 => kernel_rfl!); (case k9 => k_extra "m:val")) | with_reducible assumption | (k_dflt exact rfl)
  k_with "m:led" => ((case qL7 => assumption); (case qN7 => assumption); (case qB7 => k_asm); (case qF7 => k_asm); (case qX7 => k_asm); (case qXP7 => k_asm); (case qT7 => k_asm); (case qK7 => first | exact rfl | assumption); (case qhd7 => k_extra "m:room"); (case qhu7 => k_extra "m:units"))
  k_with "w:newList" => (k_here; (with_reducible rename Led _ _ _ _ _ _ _ => Lx); k_dflt (refine' u_newList _ _ Lx ?qN7 ?qF7 ?qz7 ?_; (case qN7 => assumption); (case qF7 => k_asm); (case qz7 => exact Nat.le_of_ble_eq_true rfl); k_whole); intro D' h' F' N' Ld'; clear Lx; (try k_sweep); (try dsimp only))
  k_with "w:binaryOp Add ref ref" => (k_here; (with_reducible show wpAny _ _ (binaryOp _ (Value.ref _) (Value.ref _)) _ _ _); (with_reducible rename Led _ _ _ _ _ _ _ => Lx); k_dflt (refine' u_add _ _ Lx ?qN7 ?qF7 ?qa7 ?qb7 ?qz7 ?_; (case qN7 => assumption); (case qF7 => k_asm); (case qa7 => k_extra "m:intl"); (case qb7 => k_extra "m:intl"); (case qz7 => omega); k_whole); intro D' o' h' F' N' Ld' hL'; clear Lx; (try k_sweep); (try dsimp only))
  k_with "m:intl" => first | with_reducible assumption | exact intL_nil | exact intL_one | (refine' IntL.mono ?h9 ?s9 ?b9; (case h9 => with_reducible assumption); (case b9 => exact Nat.le_refl _); (case s9 => k_extra "m:lift"))
  k_with "m:lift" => first | (with_reducible exact id_sub) | (with_reducible exact left_sub) | ((with_reducible refine' tail_sub ?s9); (case s9 => k_extra "m:lift")) | ((with_reducible refine' app_sub ?s9); (case s9 => k_extra "m:lift")) | ((with_reducible refine' left_sub2 ?s9); (case s9 => k_extra "m:lift")) | with_reducible assumption
  k_with "w:call ref" => (k_here; (with_reducible show wpAny _ _ (call (Value.ref 756) [Value.ref _, Value.int _ _]) _ _ _); (with_reducible rename Led _ _ _ _ _ _ _ => Lx); k_dflt (refine' u_draw Lx ?qN7 ?qB7 ?qF7 ?qX7 ?qXP7 ?qT7 ?qK7 ?qhd7 ?qhu7 ?qm17 ?qm27 ?_; (k_extra "m:led1"); (case qm17 => first | decide | omega); (case qm27 => first | decide | omega)); intro od' k' t' h' tk' F' N' Ld' hk0 hk1; clear Lx; (try k_sweep); (try dsimp only))
  k_with "m:led1" => ((case qN7 => assumption); (case qB7 => k_asm); (case qF7 => k_asm); (case qX7 => k_asm); (case qXP7 => k_asm); (case qT7 => k_asm); (case qK7 => first | exact rfl | assumption); (case qhd7 => k_extra "m:room"); (case qhu7 => k_extra "m:units"))
  k_with "w:call ref" => (k_here; (with_reducible show wpAny _ _ (call (Value.ref 768) [Value.ref _, Value.ref _]) _ _ _); (with_reducible rename Led _ _ _ _ _ _ _ => Lx); k_dflt (refine' u_one Lx ?qN7 ?qB7 ?qF7 ?qX7 ?qXP7 ?qT7 ?qK7 ?qhd7 ?qhu7 ?qit7 ?qII7 ?qz07 ?qz17 ?_; (k_extra "m:led1"); (case qit7 => k_mem); (case qII7 => k_extra "m:ints"); (case qz07 => first | decide | omega); (case qz17 => first | decide | omega)); intro od' k' t' h' tk' F' N' Ld'; clear Lx; (try k_sweep); (try dsimp only))
  k_with "m:ints" => first | with_reducible assumption | (repeat' (first | exact IntsAre.nil | refine IntsAre.cons _ _ ?_))
  k_with "w:call ref" => (k_here; (with_reducible show wpAny _ _ (call (Value.ref 782) [Value.ref _, Value.ref _, Value.int _ _]) _ _ _); (with_reducible rename Led _ _ _ _ _ _ _ => Lx); k_dflt (refine' u_bind Lx ?qN7 ?qB7 ?qF7 ?qX7 ?qXP7 ?qT7 ?qK7 ?qhd7 ?qhu7 ?qha7 ?_; (k_extra "m:led1"); (case qha7 => first | exact .inl rfl | exact .inr rfl)); intro od' oe' k' t' h' tk' F' N' Ld' hk'; clear Lx; (try k_sweep); (try dsimp only))
  k_with "w:call ref" => (k_here; (with_reducible show wpAny _ _ (call (Value.ref 797) [Value.ref _, Value.ref _, Value.ref _, Value.int _ _]) _ _ _); (with_reducible rename Led _ _ _ _ _ _ _ => Lx); k_dflt (refine' u_node ?qhN7 Lx ?qN7 ?qB7 ?qF7 ?qX7 ?qXP7 ?qT7 ?qK7 ?qhd7 ?qhu7 ?qkn7 ?qkl7 ?qdp7 ?qdp27 ?_; (case qhN7 => assumption); (k_extra "m:led1"); (case qkn7 => k_extra "m:intl"); (case qkl7 => omega); (case qdp7 => omega); (case qdp27 => omega)); intro od' oe' x' r' T' h' tk' F' N' Ld' hT' hw' hD'; clear Lx; (try k_sweep); (try dsimp only))
  k_with "m:nodel" => first | with_reducible assumption | (refine' NodeIn.mono ?h9 ?s9; (case h9 => with_reducible assumption); (case s9 => k_extra "m:lift"))
  k_with "m:intx" => first | with_reducible assumption | (refine' IntX.mono ?h9 ?s9 ?b9; (case h9 => with_reducible assumption); (case b9 => exact Nat.le_refl _); (case s9 => k_extra "m:lift"))
  k_with "w:call ref" => (k_here; (with_reducible show wpAny _ _ (call (Value.ref 66) [_]) _ _ _); (with_reducible rename Led _ _ _ _ _ _ _ => Lx); k_dflt (refine' const_use Lx ?qN7 ?qB7 ?qF7 ?qX7 ?qXP7 ?qT7 ?qK7 ?qhd7 ?qhu7  ?_; (k_extra "m:led1"); skip); rintro y' r' h' tk' F' N' Ld' hA' hT'; clear Lx; (try k_sweep); (try dsimp only))
  k_with "w:call ref" => (k_here; (with_reducible show wpAny _ _ (call (Value.ref 85) [Value.int _ _]) _ _ _); (with_reducible rename Led _ _ _ _ _ _ _ => Lx); k_dflt (refine' local_use Lx ?qN7 ?qB7 ?qF7 ?qX7 ?qXP7 ?qT7 ?qK7 ?qhd7 ?qhu7  ?_; (k_extra "m:led1"); skip); rintro y' r' h' tk' F' N' Ld' hA' hT'; clear Lx; (try k_sweep); (try dsimp only))
  k_with "w:call ref" => (k_here; (with_reducible show wpAny _ _ (call (Value.ref 104) [Value.int _ _]) _ _ _); (with_reducible rename Led _ _ _ _ _ _ _ => Lx); k_dflt (refine' global_use Lx ?qN7 ?qB7 ?qF7 ?qX7 ?qXP7 ?qT7 ?qK7 ?qhd7 ?qhu7  ?_; (k_extra "m:led1"); skip); rintro y' r' h' tk' F' N' Ld' hA' hT'; clear Lx; (try k_sweep); (try dsimp only))
  k_with "w:call ref" => (k_here; (with_reducible show wpAny _ _ (call (Value.ref 137) [Value.int _ _, _]) _ _ _); (with_reducible rename Led _ _ _ _ _ _ _ => Lx); k_dflt (refine' setl_use Lx ?qN7 ?qB7 ?qF7 ?qX7 ?qXP7 ?qT7 ?qK7 ?qhd7 ?qhu7 ?q1 ?_; (k_extra "m:led1"); (case q1 => k_extra "m:nodel")); rintro y' r' h' tk' F' N' Ld' hA' hT'; clear Lx; (try k_sweep); (try dsimp only))
  k_with "w:call ref" => (k_here; (with_reducible show wpAny _ _ (call (Value.ref 170) [Value.int _ _, _]) _ _ _); (with_reducible rename Led _ _ _ _ _ _ _ => Lx); k_dflt (refine' setg_use Lx ?qN7 ?qB7 ?qF7 ?qX7 ?qXP7 ?qT7 ?qK7 ?qhd7 ?qhu7 ?q1 ?_; (k_extra "m:led1"); (case q1 => k_extra "m:nodel")); rintro y' r' h' tk' F' N' Ld' hA' hT'; clear Lx; (try k_sweep); (try dsimp only))
  k_with "w:call ref" => (k_here; (with_reducible show wpAny _ _ (call (Value.ref 203) [Value.int _ _, _]) _ _ _); (with_reducible rename Led _ _ _ _ _ _ _ => Lx); k_dflt (refine' define_use Lx ?qN7 ?qB7 ?qF7 ?qX7 ?qXP7 ?qT7 ?qK7 ?qhd7 ?qhu7 ?q1 ?_; (k_extra "m:led1"); (case q1 => k_extra "m:nodel")); rintro y' r' h' tk' F' N' Ld' hA' hT'; clear Lx; (try k_sweep); (try dsimp only))
  k_with "w:call ref" => (k_here; (with_reducible show wpAny _ _ (call (Value.ref 236) [_, _, _]) _ _ _); (with_reducible rename Led _ _ _ _ _ _ _ => Lx); k_dflt (refine' if_use Lx ?qN7 ?qB7 ?qF7 ?qX7 ?qXP7 ?qT7 ?qK7 ?qhd7 ?qhu7 ?q1 ?q2 ?q3 ?_; (k_extra "m:led1"); (case q1 => k_extra "m:nodel"); (case q2 => k_extra "m:nodel"); (case q3 => k_extra "m:nodel")); rintro y' r' h' tk' F' N' Ld' hA' hT'; clear Lx; (try k_sweep); (try dsimp only))
  k_with "w:call ref" => (k_here; (with_reducible show wpAny _ _ (call (Value.ref 283) [_, _, _, _]) _ _ _); (with_reducible rename Led _ _ _ _ _ _ _ => Lx); k_dflt (refine' lambda_use Lx ?qN7 ?qB7 ?qF7 ?qX7 ?qXP7 ?qT7 ?qK7 ?qhd7 ?qhu7 ?q1 ?q2 ?q3 ?_; (k_extra "m:led1"); (case q1 => k_extra "m:intx"); (case q2 => omega); (case q3 => k_extra "m:nodel")); rintro y' r' h' tk' F' N' Ld' hA' ⟨ps', hps', hT'⟩; clear Lx; (try k_sweep); (try dsimp only))
  k_with "w:call ref" => (k_here; (with_reducible show wpAny _ _ (call (Value.ref 316) [_, _]) _ _ _); (with_reducible rename Led _ _ _ _ _ _ _ => Lx); k_dflt (refine' call_use Lx ?qN7 ?qB7 ?qF7 ?qX7 ?qXP7 ?qT7 ?qK7 ?qhd7 ?qhu7 ?q1 ?q2 ?q3 ?_; (k_extra "m:led1"); (case q1 => k_extra "m:nodel"); (case q2 => k_mem); (case q3 => k_extra "m:nodesl")); rintro y' r' h' tk' F' N' Ld' hA' hT'; clear Lx; (try k_sweep); (try dsimp only))
  k_with "w:call ref" => (k_here; (with_reducible show wpAny _ _ (call (Value.ref 349) [_]) _ _ _); (with_reducible rename Led _ _ _ _ _ _ _ => Lx); k_dflt (refine' seq_use Lx ?qN7 ?qB7 ?qF7 ?qX7 ?qXP7 ?qT7 ?qK7 ?qhd7 ?qhu7 ?q2 ?q3 ?_; (k_extra "m:led1"); (case q2 => k_mem); (case q3 => k_extra "m:nodesl")); rintro y' r' h' tk' F' N' Ld' hA' hT'; clear Lx; (try k_sweep); (try dsimp only))
  k_with "w:call ref" => (k_here; (with_reducible show wpAny _ _ (call (Value.ref 382) [_, _]) _ _ _); (with_reducible rename Led _ _ _ _ _ _ _ => Lx); k_dflt (refine' prim_use Lx ?qN7 ?qB7 ?qF7 ?qX7 ?qXP7 ?qT7 ?qK7 ?qhd7 ?qhu7 ?q2 ?q3 ?_; (k_extra "m:led1"); (case q2 => k_mem); (case q3 => k_extra "m:nodesl")); rintro y' r' h' tk' F' N' Ld' hA' hT'; clear Lx; (try k_sweep); (try dsimp only))
  k_with "w:call ref" => (k_here; (with_reducible show wpAny _ _ (call (Value.ref 415) [_, _, _]) _ _ _); (with_reducible rename Led _ _ _ _ _ _ _ => Lx); k_dflt (refine' fix_use Lx ?qN7 ?qB7 ?qF7 ?qX7 ?qXP7 ?qT7 ?qK7 ?qhd7 ?qhu7 ?q1 ?q2 ?q3 ?q4 ?_; (k_extra "m:led1"); (case q1 => k_extra "m:intx"); (case q2 => k_mem); (case q3 => k_extra "m:nodesl"); (case q4 => k_extra "m:nodel")); rintro y' r' h' tk' F' N' Ld' hA' ⟨ps', hps', hT'⟩; clear Lx; (try k_sweep); (try dsimp only))
  k_with "m:nodesl" => first | with_reducible assumption | (refine' NodesIn.mono ?h9 ?s9; (case h9 => with_reducible assumption); (case s9 => k_extra "m:lift"))
  k_with "w:CompSrc" => ((with_reducible rename Led _ _ _ _ _ _ _ => Lx); k_dflt (refine' u_range Lx ?qN7 ?qF7 ?qh7 ?qr7 ?q07 ?q17 IntV (fun _ _ _ h _ => h) ?qt7 ?qf7; (case qN7 => assumption); (case qF7 => k_asm); (case qh7 => rfl); (case qr7 => assumption); (case q07 => omega); (case q17 => omega)); all_goals first | (intro g v I oI C oC D ys x₁ od₁ oe₁ m₂ h tk E' hC hx F' N' Ld'; clear Lx; k_sweep) | (intro g ys x₁ od₁ oe₁ hl hg L1; first | (refine' finA_ints 2 Lx L1 hg (by omega) ?_; intro D' o' h' tk' F' N' Ld' hL1' hL2'; clear Lx L1 hg hl; k_sweep; (try dsimp only)) | (refine' finE_ints 2 Lx L1 hg (by omega) ?_; intro D' vs' ns' n' h' tk' F' N' Ld' off' hI' hl1' hl2'; clear Lx L1 hg; k_sweep; (try dsimp only))))
  k_with "w:TurnEnd" => exact TurnEnd.intro (by k_asm) (by assumption) (by assumption) ⟨_, _, rfl⟩
  k_with "w:setItem ref int" => (k_here; (with_reducible show wpAny _ _ (setItem (Value.ref _) (Value.int 0 _) _) _ _ _); (with_reducible rename Led _ _ _ _ _ _ _ => Lx); (with_reducible rename Above2 _ _ _ _ => hAx); k_dflt (refine' u_set0 Lx ?qN7 ?qF7 hAx ?qo7 ?qs7 ?ql7 ?_; (case qN7 => assumption); (case qF7 => k_asm); (case qo7 => assumption); (case qs7 => k_extra "m:subX"); (case ql7 => omega)); intro h' F' N' Ld'; clear Lx hAx; (try k_sweep); (try dsimp only))
  k_with "m:subX" => first | with_reducible assumption | (with_reducible exact id_sub) | (refine' List.forall_mem_cons.mpr ⟨?a9, ?b9⟩; (case a9 => k_mem); (case b9 => k_extra "m:subX")) | (refine' List.forall_mem_append.mpr ⟨?a9, ?b9⟩; (case a9 => k_extra "m:lift"); (case b9 => k_extra "m:subX")) | exact List.forall_mem_nil _ | k_extra "m:lift"
  k_with "w:subscriptTail Name Slice ref ref" => first | (exfalso; omega) | (k_here; (with_reducible show wpAny _ _ (subscriptTail _ (PySem.Expr.Slice _ none none _) (Value.ref _) (Value.ref _)) _ _ _); (with_reducible rename Led _ _ _ _ _ _ _ => Lx); (try dsimp only); k_dflt (refine' u_slice1 Lx ?NZ9 ?FZ9 ?lZ9 ?zZ9 ?sZ9 ?tZ9 ?_; (case NZ9 => assumption); (case FZ9 => k_asm); (case lZ9 => k_mem); (case zZ9 => omega); (case sZ9 => with_unfolding_all rfl); (case tZ9 => kmk_pure)); intro D' h' F' N' Ld'; clear Lx; (try k_sweep))
  k_with "w:call ref" => (k_here; (with_reducible show wpAny _ _ (call (Value.ref 787) [Value.ref _, Value.ref _, Value.ref _, Value.int _ _]) _ _ _); (with_reducible rename Led _ _ _ _ _ _ _ => Lx); k_dflt (refine' u_lam ?qhN7 Lx ?qN7 ?qB7 ?qF7 ?qX7 ?qXP7 ?qT7 ?qK7 ?qhd7 ?qhu7 ?qkn7 ?qkl7 ?qdp7 ?qdp27 ?_; (case qhN7 => assumption); (k_extra "m:led1"); (case qkn7 => k_extra "m:intl"); (case qkl7 => omega); (case qdp7 => omega); (case qdp27 => omega)); intro od' oe' x' r' T' h' tk' F' N' Ld' hT' hw' hD' hZ'; clear Lx; (try k_sweep); (try dsimp only))
  k_with "w:call ref" => (k_here; (with_reducible show wpAny _ _ (call (Value.ref 792) [Value.ref _, Value.ref _, Value.ref _, Value.int _ _]) _ _ _); (with_reducible rename Led _ _ _ _ _ _ _ => Lx); k_dflt (refine' u_fix ?qhN7 Lx ?qN7 ?qB7 ?qF7 ?qX7 ?qXP7 ?qT7 ?qK7 ?qhd7 ?qhu7 ?qkn7 ?qkl7 ?qdp7 ?qdp27 ?_; (case qhN7 => assumption); (k_extra "m:led1"); (case qkn7 => k_extra "m:intl"); (case qkl7 => omega); (case qdp7 => omega); (case qdp27 => omega)); intro od' oe' x' r' T' h' tk' F' N' Ld' hT' hw' hD'; clear Lx; (try k_sweep); (try dsimp only))
  k_with "w:call ref" => (k_here; (with_reducible show wpAny _ _ (call (Value.ref 768) [Value.ref _, Value.ref _]) _ _ _); (with_reducible rename Led _ _ _ _ _ _ _ => Lx); k_dflt (refine' u_oneN Lx ?qN7 ?qB7 ?qF7 ?qX7 ?qXP7 ?qT7 ?qK7 ?qhd7 ?qhu7 ?qne7 ?_; (k_extra "m:led1"); (case qne7 => first | exact nonE_nine | (refine' NonE.mono ?h9 ?s9; (case h9 => with_reducible assumption); (case s9 => k_extra "m:lift")))); intro od' k' t' h' tk' F' N' Ld'; clear Lx; (try k_sweep); (try dsimp only))
  k_with "w:compareOp NotEq ref ref" => (k_here; (with_reducible show wpAny _ _ (compareOp CmpOp.NotEq (Value.ref _) (Value.ref _)) _ _ _); k_dflt (refine' u_neNil ?cN8 ?ck8 ?cb8 ?cD8 ?cu8 ?_ ?_; (case cN8 => assumption); (case ck8 => k_extra "m:intl"); (case cb8 => omega); (case cD8 => k_mem); (case cu8 => k_extra "m:units")); first | (intro hNE') | skip)
  k_with "w:compareOp Eq ref ref" => (k_here; (with_reducible show wpAny _ _ (compareOp CmpOp.Eq (Value.ref _) (Value.ref _)) _ _ _); k_dflt (refine' u_eqNil ?cN8 ?ck8 ?cD8 ?cu8 ?_ ?_; (case cN8 => assumption); (case ck8 => k_extra "m:intl"); (case cD8 => k_mem); (case cu8 => k_extra "m:units")))
  k_with "w:DrawJ" => (refine' DrawJ.intro ?jF8 ?jN8 ?jL8 ?jR8 ?jP8; (case jF8 => k_asm); (case jN8 => assumption); (case jL8 => assumption); (case jR8 => k_extra "m:lift"); (case jP8 => first | trivial | ((show _ ∧ _ ∧ _); refine ⟨?_, ?_, ?_⟩ <;> omega)))
  k_with "w:DrawG" => first | (refine' DrawG.next ?jF8 ?jN8 ?jL8; (case jF8 => k_asm); (case jN8 => assumption); (case jL8 => assumption)) | refine DrawG.go ?_
  trivial
/-! the rows of the primitives -/
theorem lookup_rows {g : Nat → Obj} {i : Nat} : ∀ {n : Nat}, i < n → (((List.range n).map fun i => ((445 + i : Nat), g i)) : List (Addr × Obj)).lookup (445 + i) = some (g i)
  | 0, h => absurd h (Nat.not_lt_zero _)
  | n + 1, h => by
    rw [List.range_succ, List.map_append, List.lookup_append]
    by_cases hi : i < n
    · rw [lookup_rows hi]; rfl
    · have e : i = n := by omega
      subst e
      have none : ∀ m, m ≤ i → (((List.range m).map fun i => ((445 + i : Nat), g i)) : List (Addr × Obj)).lookup (445 + i) = none := by
        intro m
        induction m with
        | zero => intro _; rfl
        | succ m ih =>
          intro hm
          rw [List.range_succ, List.map_append, List.lookup_append, ih (by omega)]
          show (match (445 + i : Nat) == 445 + m with | true => some (g m) | false => List.lookup (445 + i) []) = Option.none
          rw [beq_eq_false_iff_ne.mpr (by omega)]
          rfl
      rw [none i (Nat.le_refl _)]
      show (match (445 + i : Nat) == 445 + i with | true => some (g i) | false => List.lookup (445 + i) []) = _
      rw [beq_self_eq_true]
theorem kp_rows : KP.lookup 637 = some primRows := by
  unfold KP
  rw [List.lookup_cons, beq_self_eq_true]
theorem kp_row {i : Nat} (h : i < 192) : KP.lookup (445 + i) = some (primObj i) := by
  unfold KP
  rw [List.lookup_cons, beq_eq_false_iff_ne.mpr (show (445 + i : Nat) ≠ 637 by omega)]
  exact lookup_rows h
noncomputable def leastT (i : Nat) : Int := match primVals i with
  | [_, .int a _, _, _] => a
  | _ => 0
noncomputable def mostT (i : Nat) : Int := match primVals i with
  | [_, _, .int a _, _] => a
  | _ => 0
noncomputable def rowOk (l : List Value) : Bool := match l with
  | [_, .int _ _, .int _ _, _] => true
  | _ => false
theorem rows_ok : (List.range 192).all (fun i => rowOk (primVals i)) = true := by decide +kernel
theorem row_shape {i : Nat} (h : i < 192) : ∃ v0 v3 t1 t2, primVals i = [v0, .int (leastT i) t1, .int (mostT i) t2, v3] := by
  have := List.all_eq_true.mp rows_ok i (List.mem_range.mpr h)
  unfold leastT mostT
  unfold rowOk at this
  split at this
  · rename_i a t1 b t2 v3 e
    rw [e]; exact ⟨_, _, _, _, rfl⟩
  · cases this
section
variable {prog : Program} {w : World} {A : Around} {E : Value → Shared → Prop} {s : Shared} {h₀ : Heap} {L : Addr} {m : Str → Option Value} {Q : Value → Shared → Prop}
theorem rows_tup {h : Heap} (P : Prims h) : IsTup h 637 ((List.range 192).map fun i => Value.ref (445 + i)).toArray := ⟨_, P.at_ _ _ kp_rows, rfl, _, rfl⟩
theorem row_tup {h : Heap} (P : Prims h) {i : Nat} (hi : i < 192) : IsTup h (445 + i) (primVals i).toArray := ⟨_, P.at_ _ _ (kp_row hi), rfl, _, rfl⟩
theorem u_rowsLen (P : Prims h₀) (F : Fr h₀ L s.heap m) (h : Q (.int 192 (s.toks + 1)) { s with toks := s.toks + 1 + 1 }) : wpAny (model prog w) A (call (.builtin "len") [.ref 637]) Q E s :=
  PyProof.Rows.len_tuple (rows_tup (P.keeps F.keep)) (by rw [List.size_toArray, List.length_map, List.length_range]; decide) (by rw [List.size_toArray, List.length_map, List.length_range]; exact h)
theorem u_row {value slice : PySem.Expr} {op : Int} {u : Tok} (P : Prims h₀) (F : Fr h₀ L s.heap m) (h0 : 0 ≤ op) (h1 : op < 192) (h : Q (.ref (445 + op.toNat)) s)
    (hs : subscripted slice false (.ref 637) (.int op u) = operate [.ref 637, .int op u] (getItem (.ref 637) (.int op u))) : wpAny (model prog w) A (subscriptTail value slice (.ref 637) (.int op u)) Q E s :=
  item_tupleT (rows_tup (P.keeps F.keep)) (by omega) (by omega) (j := op.toNat) (by rw [List.length_map, List.length_range]; exact seqIndex_of h0 (by omega))
    (by rw [List.getElem?_map, List.getElem?_range (by omega)]; rfl) h hs
theorem u_least {value slice : PySem.Expr} {op : Int} {u : Tok} (P : Prims h₀) (F : Fr h₀ L s.heap m) (h0 : 0 ≤ op) (h1 : op < 192) (h : ∀ t, Q (.int (leastT op.toNat) t) s)
    (hs : subscripted slice false (.ref (445 + op.toNat)) (.int 1 u) = operate [.ref (445 + op.toNat), .int 1 u] (getItem (.ref (445 + op.toNat)) (.int 1 u))) : wpAny (model prog w) A (subscriptTail value slice (.ref (445 + op.toNat)) (.int 1 u)) Q E s := by
  have hi : op.toNat < 192 := by omega
  obtain ⟨v0, v3, t1, t2, e⟩ := row_shape hi
  have T := row_tup (P.keeps F.keep) hi
  rw [e] at T
  exact item_tupleT T (by decide) (by decide) (j := 1) (seqIndex_of (by decide) (by show (1 : Int) < 4; decide)) rfl (h t1) hs
theorem u_most {value slice : PySem.Expr} {op : Int} {u : Tok} (P : Prims h₀) (F : Fr h₀ L s.heap m) (h0 : 0 ≤ op) (h1 : op < 192) (h : ∀ t, Q (.int (mostT op.toNat) t) s)
    (hs : subscripted slice false (.ref (445 + op.toNat)) (.int 2 u) = operate [.ref (445 + op.toNat), .int 2 u] (getItem (.ref (445 + op.toNat)) (.int 2 u))) : wpAny (model prog w) A (subscriptTail value slice (.ref (445 + op.toNat)) (.int 2 u)) Q E s := by
  have hi : op.toNat < 192 := by omega
  obtain ⟨v0, v3, t1, t2, e⟩ := row_shape hi
  have T := row_tup (P.keeps F.keep) hi
  rw [e] at T
  exact item_tupleT T (by decide) (by decide) (j := 2) (seqIndex_of (by decide) (by show (2 : Int) < 4; decide)) rfl (h t2) hs
end
/-- what the law, and the check, ask of a primitive -/
noncomputable def primOk (op : Int) (n : Nat) : Bool := decide (0 ≤ op ∧ op < 192) && (decide (leastT op.toNat ≤ (n : Int)) && (decide (mostT op.toNat < 0) || decide ((n : Int) ≤ mostT op.toNat)))
theorem setup_15 : True := by
  k_with "w:call builtin:len" => (k_here; (with_reducible show wpAny _ _ (call (Value.builtin "len") [Value.ref 637]) _ _ _); k_dflt (refine' u_rowsLen ?rPa ?rFa ?_; (case rPa => assumption); (case rFa => k_asm); k_whole))
  k_with "w:call builtin:len" => (k_here; (with_reducible show wpAny _ _ (call (Value.builtin "len") [Value.ref _]) _ _ _); k_dflt (refine' kst_len ?rNb ?rmb ?reb ?rzb ?_; (case rNb => k_asm); (case rmb => k_mem); (case reb => exact rfl); (case rzb => omega); k_whole))
  k_with "w:subscriptTail Name Attribute ref int" => (k_here; (with_reducible show wpAny _ _ (subscriptTail _ _ (Value.ref 637) (Value.int _ _)) _ _ _); k_dflt (refine' u_row ?rPc ?rFc ?r0c ?r1c ?_ ?rsc; (case rPc => assumption); (case rFc => k_asm); (case r0c => omega); (case r1c => omega); (case rsc => with_unfolding_all rfl); k_whole))
  k_with "w:subscriptTail Name Name ref int" => (k_here; (with_reducible show wpAny _ _ (subscriptTail _ _ (Value.ref 637) (Value.int _ _)) _ _ _); k_dflt (refine' u_row ?rPc ?rFc ?r0c ?r1c ?_ ?rsc; (case rPc => assumption); (case rFc => k_asm); (case r0c => omega); (case r1c => omega); (case rsc => with_unfolding_all rfl); k_whole))
  k_with "w:subscriptTail Subscript" => (k_here; (with_reducible show wpAny _ _ (subscriptTail _ _ (Value.ref (445 + _)) (Value.int 1 _)) _ _ _); k_dflt (refine' u_least ?rPd ?rFd ?r0d ?r1d ?_ ?rsd; (case rPd => assumption); (case rFd => k_asm); (case r0d => omega); (case r1d => omega); (case rsd => with_unfolding_all rfl); k_whole); intro tl')
  k_with "w:subscriptTail Subscript" => (k_here; (with_reducible show wpAny _ _ (subscriptTail _ _ (Value.ref (445 + _)) (Value.int 2 _)) _ _ _); k_dflt (refine' u_most ?rPd ?rFd ?r0d ?r1d ?_ ?rsd; (case rPd => assumption); (case rFd => k_asm); (case r0d => omega); (case r1d => omega); (case rsd => with_unfolding_all rfl); k_whole); intro tm')
  trivial
set_option maxHeartbeats 1000000 in
theorem isPrim_spec (w : World) {x dx l : Addr} {op : Int} {to t1 t2 : Tok} {n nl : Nat} {vs : List Value} {news : List (Addr × Obj)} (h1 : (x, instObj 382 dx) ∈ news) (h2 : (dx, dictOf [fld w.params "op" t1 (.int op to), fld w.params "operands" t2 (.ref l)] n) ∈ news) (h3 : (l, listOf vs.toArray nl) ∈ news) (hl : vs.length ≤ 50000) :
    Spec w 804 20 200 [.ref x] news (fun r news' => r = .bool (primOk op vs.length) ∧ news' = news) NoX := by
  unfold Spec
  k_fill
  intro dp un gd cn cs a ccd cl outer A₀ base h₀ L m s Q E p loose mean mg mb B F X XP N T hk hd hu hret herr
  refine wpAny_call ?_
  k_dflt (refine' code_def (binds := [(Str.ofString "_law_node", .ref x)]) ?k1 ?k2 ?k3 ?k4 ?k5 ?kA ?kF ?kK ?k6 ?k7 ?k8 ?k9 ?kB ?_ ?c2 ?c3 ?c4 ?c5; k_extra "m:enter")
  k_steps
  all_goals (refine hret _ _ _ _ (by k_asm) (newsSub (by k_asm) (by k_extra "m:lift")) ⟨congrArg Value.bool ?_, rfl⟩)
  all_goals (unfold primOk; first | (simp only [decide_eq_true_eq, decide_eq_false_iff_not] at *; simp [*]; done) | (simp only [decide_eq_true_eq, decide_eq_false_iff_not] at *; simp [*]; omega))
/-! the plain law: the law's own walk answers as the check does -/
noncomputable abbrev St := List Int × List Int
noncomputable abbrev Bo := List (Int × Bool)
noncomputable abbrev St2 := Bo × List Int
noncomputable def own (ps : List Int) (r : Int) : List Int := ps ++ (if 0 ≤ r then [r] else [])
noncomputable def kids : Nd → List Nd
  | .const => []
  | .loc _ => []
  | .glob _ => []
  | .setL _ t => [t]
  | .setG _ t => [t]
  | .defn _ t => [t]
  | .iff a b c => [a, b, c]
  | .lam _ _ _ b => [b]
  | .call f as => f :: as
  | .seq ts => ts
  | .prim _ ts => ts
  | .fix _ ls b => ls ++ [b]
noncomputable def isSeq : Nd → Bool
  | .seq _ => true
  | _ => false
noncomputable def isL : Nd → Bool
  | .lam _ _ _ _ => true
  | _ => false
noncomputable def binders : Nd → List Int
  | .lam _ ps r _ => own ps r
  | .fix ns _ _ => ns
  | _ => []
noncomputable def binding : Nd → Bool
  | .lam _ _ _ _ => true
  | .fix _ _ _ => true
  | _ => false
noncomputable def once : List Int → List Int → Option (List Int)
  | met, [] => some met
  | met, x :: r => if x < 0 ∨ x ∈ met then none else once (met ++ [x]) r
noncomputable def keysOf (bo : Bo) : List Int := bo.map Prod.fst
noncomputable def binds : Bo → List Int → Option Bo
  | bo, [] => some bo
  | bo, x :: r => if x < 0 ∨ x ∈ keysOf bo then none else binds (bo ++ [(x, true)]) r
noncomputable def close (ns : List Int) (bo : Bo) : Bo := bo.map fun p => (p.1, if p.1 ∈ ns then false else p.2)
/-- what the law asks of one node, ahead of its parts: what is known within, and what is met -/
noncomputable def hdF (ok : Int → Nat → Bool) : Nd → List Int → Bool → St → Option (List Int × St)
  | .const, kn, _, s => some (kn, s)
  | .loc k, kn, _, s => if k ∈ kn then some (kn, s) else none
  | .glob y, kn, _, s => if y < 0 then none else some (kn, s)
  | .setL k _, kn, _, s => if k ∈ kn then some (kn, s) else none
  | .setG y _, kn, _, s => if y < 0 then none else some (kn, s)
  | .defn y _, kn, top, s => if y < 0 ∨ top = false then none else some (kn, s)
  | .iff _ _ _, kn, _, s => some (kn, s)
  | .lam lb ps r _, kn, _, s => if lb ∈ s.2 then none else (once s.1 (own ps r)).map fun m => (kn ++ own ps r, m, s.2 ++ [lb])
  | .call _ _, kn, _, s => some (kn, s)
  | .seq ts, kn, _, s => if ts.length = 0 then none else some (kn, s)
  | .prim op ts, kn, _, s => if ok op ts.length then some (kn, s) else none
  | .fix ns ls _, kn, _, s => if (ns.length ≠ ls.length ∨ ns.length = 0) ∨ ∃ t ∈ ls, isL t = false then none else (once s.1 ns).map fun m => (kn ++ ns, m, s.2)
noncomputable def hdC (ok : Int → Nat → Bool) : Nd → Bool → St2 → Option St2
  | .const, _, s => some s
  | .loc k, _, s => if (k, true) ∈ s.1 then some s else none
  | .glob y, _, s => if y < 0 then none else some s
  | .setL k _, _, s => if (k, true) ∈ s.1 then some s else none
  | .setG y _, _, s => if y < 0 then none else some s
  | .defn y _, top, s => if y < 0 ∨ top = false then none else some s
  | .iff _ _ _, _, s => some s
  | .lam lb ps r _, _, s => if lb ∈ s.2 then none else (binds s.1 (own ps r)).map fun b => (b, s.2 ++ [lb])
  | .call _ _, _, s => some s
  | .seq ts, _, s => if ts.length = 0 then none else some s
  | .prim op ts, _, s => if ok op ts.length then some s else none
  | .fix ns ls _, _, s => if (ns.length ≠ ls.length ∨ ns.length = 0) ∨ ∃ t ∈ ls, isL t = false then none else (binds s.1 ns).map fun b => (b, s.2)
noncomputable def runs {σ : Type} (f : Nd → σ → Option σ) : List Nd → σ → Option σ
  | [], s => some s
  | t :: r, s => (f t s).bind (runs f r)
noncomputable def fine (ok : Int → Nat → Bool) : Nat → Nd → List Int → Bool → St → Option St
  | 0, _, _, _, _ => none
  | d + 1, t, kn, top, s => (hdF ok t kn top s).bind fun p => runs (fun u s => fine ok d u p.1 (top && isSeq t) s) (kids t) p.2
noncomputable def leave (t : Nd) (s : St2) : St2 := (close (binders t) s.1, s.2)
noncomputable def chk (ok : Int → Nat → Bool) : Nat → Nd → Bool → St2 → Option St2
  | 0, _, _, _ => none
  | d + 1, t, top, s => (hdC ok t top s).bind fun s => (runs (fun u s => chk ok d u (top && isSeq t) s) (kids t) s).map (leave t)
noncomputable def Kn (kn : List Int) (bo : Bo) : Prop := ∀ x, x ∈ kn ↔ (x, true) ∈ bo
theorem keysOf_append (a b : Bo) : keysOf (a ++ b) = keysOf a ++ keysOf b := List.map_append
theorem keysOf_pair (l : List Int) (b : Bool) : keysOf (l.map fun x => (x, b)) = l := by
  unfold keysOf
  rw [List.map_map]
  exact List.map_id' l
theorem once_binds : ∀ (l : List Int) (bo : Bo), (keysOf bo).Nodup →
    (once (keysOf bo) l = none ∧ binds bo l = none) ∨ (once (keysOf bo) l = some (keysOf bo ++ l) ∧ binds bo l = some (bo ++ l.map fun x => (x, true)) ∧ (keysOf bo ++ l).Nodup)
  | [], bo, h => .inr ⟨by simp [once], by simp [binds], by simpa using h⟩
  | x :: r, bo, h => by
    unfold once binds
    by_cases hx : x < 0 ∨ x ∈ keysOf bo
    · rw [if_pos hx, if_pos hx]; exact .inl ⟨rfl, rfl⟩
    · rw [if_neg hx, if_neg hx]
      have hn : (keysOf (bo ++ [(x, true)])).Nodup := by
        rw [keysOf_append]
        refine List.nodup_append.mpr ⟨h, by simp [keysOf], fun a ha b hb => ?_⟩
        have : b = x := by simpa [keysOf] using hb
        subst this
        intro e; subst e; exact hx (.inr ha)
      have e : keysOf bo ++ [x] = keysOf (bo ++ [(x, true)]) := by rw [keysOf_append]; rfl
      rcases once_binds r (bo ++ [(x, true)]) hn with ⟨h1, h2⟩ | ⟨h1, h2, h3⟩
      · rw [e]; exact .inl ⟨h1, h2⟩
      · rw [e]
        refine .inr ⟨?_, ?_, ?_⟩
        · rw [h1, ← e, List.append_assoc]; rfl
        · rw [h2, List.append_assoc]; rfl
        · rw [← e, List.append_assoc] at h3; exact h3
/-- what the check has, and what the law has, after a walk that lets through -/
noncomputable def Agree (s : St2) (f : Option St) (c : Option St2) : Prop :=
  (f = none ∧ c = none) ∨ ∃ ext lbs, f = some (keysOf s.1 ++ ext, lbs) ∧ c = some (s.1 ++ ext.map (fun x => (x, false)), lbs) ∧ (keysOf s.1 ++ ext).Nodup
theorem Kn.ext {kn : List Int} {bo : Bo} (h : Kn kn bo) (ext : List Int) : Kn kn (bo ++ ext.map fun x => (x, false)) := fun x => by
  rw [List.mem_append, h x]
  refine ⟨.inl, fun h => h.elim id fun h => ?_⟩
  obtain ⟨y, _, e⟩ := List.mem_map.mp h
  cases e
theorem Agree.runs {f : Nd → St → Option St} {c : Nd → St2 → Option St2} {kn : List Int} (hfc : ∀ t (s : St2), Kn kn s.1 → (keysOf s.1).Nodup → Agree s (f t (keysOf s.1, s.2)) (c t s)) :
    ∀ (l : List Nd) (s : St2), Kn kn s.1 → (keysOf s.1).Nodup → Agree s (Mine.runs f l (keysOf s.1, s.2)) (Mine.runs c l s)
  | [], s, _, hn => .inr ⟨[], s.2, by simp [Mine.runs], by simp [Mine.runs], by simpa using hn⟩
  | t :: r, s, hk, hn => by
    unfold Mine.runs
    rcases hfc t s hk hn with ⟨h1, h2⟩ | ⟨ext, lbs, h1, h2, h3⟩
    · rw [h1, h2]; exact .inl ⟨rfl, rfl⟩
    · rw [h1, h2]
      simp only [Option.bind_some]
      have e : keysOf (s.1 ++ ext.map fun x => (x, false)) = keysOf s.1 ++ ext := by rw [keysOf_append, keysOf_pair]
      have := Agree.runs hfc r (s.1 ++ ext.map (fun x => (x, false)), lbs) (hk.ext ext) (by rw [e]; exact h3)
      simp only [e] at this
      rcases this with ⟨i1, i2⟩ | ⟨ext', lbs', i1, i2, i3⟩
      · exact .inl ⟨i1, i2⟩
      · simp only [e, List.append_assoc] at i1 i2 i3
        exact .inr ⟨ext ++ ext', lbs', i1, by rw [i2, List.map_append], i3⟩
theorem close_none {ns : List Int} {bo : Bo} (h : ∀ x ∈ ns, x ∉ keysOf bo) : close ns bo = bo := by
  unfold close
  conv => rhs; rw [← List.map_id' bo]
  refine List.map_congr_left fun p hp => ?_
  have : p.1 ∉ ns := fun hc => h _ hc (List.mem_map.mpr ⟨p, hp, rfl⟩)
  rw [if_neg this]
theorem close_own {ns : List Int} : ∀ {l : List Int}, (∀ x ∈ l, x ∈ ns) → close ns (l.map fun x => (x, true)) = l.map fun x => (x, false)
  | [], _ => rfl
  | x :: r, h => by
    have ih := close_own (ns := ns) (l := r) fun y hy => h y (.tail _ hy)
    unfold close at ih ⊢
    simp only [List.map_cons, if_pos (h x (.head _)), ih]
theorem close_append (ns : List Int) (a b : Bo) : close ns (a ++ b) = close ns a ++ close ns b := List.map_append
/-- a node that binds: what is bound within is closed at its end -/
theorem Agree.bind {F : List Int → St → Option St} {C : St2 → Option St2} {s : St2} {kn ns lbs : List Int} (hk : Kn kn s.1) (hn : (keysOf s.1).Nodup)
    (h : ∀ s₁ : St2, Kn (kn ++ ns) s₁.1 → (keysOf s₁.1).Nodup → Agree s₁ (F (kn ++ ns) (keysOf s₁.1, s₁.2)) (C s₁)) :
    Agree s (((once (keysOf s.1) ns).map fun m => (kn ++ ns, m, lbs)).bind fun p => F p.1 p.2) (((binds s.1 ns).map fun b => (b, lbs)).bind fun s₁ => (C s₁).map fun s₂ => (close ns s₂.1, s₂.2)) := by
  rcases once_binds ns s.1 hn with ⟨h1, h2⟩ | ⟨h1, h2, h3⟩
  · rw [h1, h2]; exact .inl ⟨rfl, rfl⟩
  · rw [h1, h2]
    simp only [Option.map_some, Option.bind_some]
    have e : keysOf (s.1 ++ ns.map fun x => (x, true)) = keysOf s.1 ++ ns := by rw [keysOf_append, keysOf_pair]
    have hk' : Kn (kn ++ ns) (s.1 ++ ns.map fun x => (x, true)) := fun x => by
      rw [List.mem_append, List.mem_append, hk x]
      refine or_congr Iff.rfl ⟨fun hx => List.mem_map.mpr ⟨x, hx, rfl⟩, fun hx => ?_⟩
      obtain ⟨y, hy, e⟩ := List.mem_map.mp hx
      cases e; exact hy
    have := h (s.1 ++ ns.map fun x => (x, true), lbs) hk' (by rw [e]; exact h3)
    simp only [e] at this
    rcases this with ⟨i1, i2⟩ | ⟨ext, lbs', i1, i2, i3⟩
    · rw [i1, i2]; exact .inl ⟨rfl, rfl⟩
    · refine .inr ⟨ns ++ ext, lbs', ?_, ?_, ?_⟩
      · rw [i1]; simp only [e, List.append_assoc]
      · rw [i2]
        simp only [Option.map_some, Option.some.injEq, Prod.mk.injEq, and_true]
        simp only [e] at i3
        have d := List.nodup_append.mp i3
        have d2 := List.nodup_append.mp h3
        rw [close_append, close_append, close_own fun _ h => h, close_none (bo := s.1), close_none (bo := ext.map _), List.map_append, List.append_assoc]
        · intro x hx hx2
          rw [keysOf_pair] at hx2
          exact d.2.2 x (List.mem_append_right _ hx) x hx2 rfl
        · intro x hx hx2
          exact d2.2.2 x hx2 x hx rfl
      · simp only [e, List.append_assoc] at i3; exact i3
theorem leave_id {t : Nd} (h : binders t = []) (s : St2) : leave t s = s := by
  unfold leave
  rw [h, close_none (bo := s.1) fun x hx => absurd hx List.not_mem_nil]
theorem map_leave_id {t : Nd} (h : binders t = []) (c : Option St2) : c.map (leave t) = c := by
  cases c with
  | none => rfl
  | some s => simp only [Option.map_some, leave_id h]
theorem Agree.mk_if {p : Prop} [Decidable p] {s : St2} {f : Option St} {c : Option St2} (h : Agree s f c) : Agree s (if p then none else f) (if p then none else c) := by
  split
  · exact .inl ⟨rfl, rfl⟩
  · exact h
/-- the check answers as the law's own walk -/
theorem chk_fine (ok : Int → Nat → Bool) : ∀ (d : Nat) (t : Nd) (kn : List Int) (top : Bool) (s : St2), Kn kn s.1 → (keysOf s.1).Nodup → Agree s (fine ok d t kn top (keysOf s.1, s.2)) (chk ok d t top s)
  | 0, _, _, _, _, _, _ => .inl ⟨rfl, rfl⟩
  | d + 1, t, kn, top, s, hk, hn => by
    have all := fun (tp : Bool) (kn' : List Int) (l : List Nd) (s₁ : St2) (h : Kn kn' s₁.1) (h' : (keysOf s₁.1).Nodup) =>
      Agree.runs (f := fun u s => fine ok d u kn' tp s) (c := fun u s => chk ok d u tp s) (kn := kn') (fun u s₁ h h' => chk_fine ok d u kn' tp s₁ h h') l s₁ h h'
    unfold fine chk
    cases t with
    | const => simp only [hdF, hdC, Option.bind_some]; rw [map_leave_id rfl]; exact all _ _ _ _ hk hn
    | loc k =>
      simp only [hdF, hdC]
      by_cases h : k ∈ kn
      · rw [if_pos h, if_pos ((hk k).mp h)]; simp only [Option.bind_some]; rw [map_leave_id rfl]; exact all _ _ _ _ hk hn
      · rw [if_neg h, if_neg fun hc => h ((hk k).mpr hc)]; exact .inl ⟨rfl, rfl⟩
    | glob y =>
      simp only [hdF, hdC]
      split
      · exact .inl ⟨rfl, rfl⟩
      · simp only [Option.bind_some]; rw [map_leave_id rfl]; exact all _ _ _ _ hk hn
    | setL k u =>
      simp only [hdF, hdC]
      by_cases h : k ∈ kn
      · rw [if_pos h, if_pos ((hk k).mp h)]; simp only [Option.bind_some]; rw [map_leave_id rfl]; exact all _ _ _ _ hk hn
      · rw [if_neg h, if_neg fun hc => h ((hk k).mpr hc)]; exact .inl ⟨rfl, rfl⟩
    | setG y u =>
      simp only [hdF, hdC]
      split
      · exact .inl ⟨rfl, rfl⟩
      · simp only [Option.bind_some]; rw [map_leave_id rfl]; exact all _ _ _ _ hk hn
    | defn y u =>
      simp only [hdF, hdC]
      split
      · exact .inl ⟨rfl, rfl⟩
      · simp only [Option.bind_some]; rw [map_leave_id rfl]; exact all _ _ _ _ hk hn
    | iff a b c => simp only [hdF, hdC, Option.bind_some]; rw [map_leave_id rfl]; exact all _ _ _ _ hk hn
    | call f as => simp only [hdF, hdC, Option.bind_some]; rw [map_leave_id rfl]; exact all _ _ _ _ hk hn
    | seq ts =>
      simp only [hdF, hdC]
      split
      · exact .inl ⟨rfl, rfl⟩
      · simp only [Option.bind_some]; rw [map_leave_id rfl]; exact all _ _ _ _ hk hn
    | prim op ts =>
      simp only [hdF, hdC]
      split
      · simp only [Option.bind_some]; rw [map_leave_id rfl]; exact all _ _ _ _ hk hn
      · exact .inl ⟨rfl, rfl⟩
    | lam lb ps r b =>
      simp only [hdF, hdC]
      split
      · exact .inl ⟨rfl, rfl⟩
      · exact Agree.bind (F := fun kn' s' => runs (fun u s => fine ok d u kn' (top && isSeq (.lam lb ps r b)) s) (kids (.lam lb ps r b)) s') (C := fun s₁ => runs (fun u s => chk ok d u (top && isSeq (.lam lb ps r b)) s) (kids (.lam lb ps r b)) s₁) hk hn fun s₁ h h' => all _ _ _ _ h h'
    | fix ns ls b =>
      simp only [hdF, hdC]
      split
      · exact .inl ⟨rfl, rfl⟩
      · exact Agree.bind (F := fun kn' s' => runs (fun u s => fine ok d u kn' (top && isSeq (.fix ns ls b)) s) (kids (.fix ns ls b)) s') (C := fun s₁ => runs (fun u s => chk ok d u (top && isSeq (.fix ns ls b)) s) (kids (.fix ns ls b)) s₁) hk hn fun s₁ h h' => all _ _ _ _ h h'
theorem runs_append {σ : Type} (f : Nd → σ → Option σ) : ∀ (a b : List Nd) (s : σ), runs f (a ++ b) s = (runs f a s).bind (runs f b)
  | [], _, _ => rfl
  | t :: a, b, s => by
    show (f t s).bind (runs f (a ++ b)) = ((f t s).bind (runs f a)).bind (runs f b)
    cases f t s with
    | none => rfl
    | some s' => exact runs_append f a b s'
/-! the check as a machine with a stack -/
inductive Ent where
  | enter (d : Nat) (t : Nd) (top : Bool)
  | leave (t : Nd)
noncomputable def machine (ok : Int → Nat → Bool) : List Ent → St2 → Option St2
  | [], s => some s
  | .enter d t top :: r, s => (chk ok d t top s).bind (machine ok r)
  | .leave t :: r, s => machine ok r (leave t s)
noncomputable def closing (t : Nd) : List Ent := if binding t then [.leave t] else []
theorem machine_append (ok : Int → Nat → Bool) : ∀ (a b : List Ent) (s : St2), machine ok (a ++ b) s = (machine ok a s).bind (machine ok b)
  | [], _, _ => rfl
  | .enter d t top :: a, b, s => by
    show (chk ok d t top s).bind (machine ok (a ++ b)) = ((chk ok d t top s).bind (machine ok a)).bind (machine ok b)
    cases chk ok d t top s with
    | none => rfl
    | some s' => exact machine_append ok a b s'
  | .leave t :: a, b, s => machine_append ok a b (leave t s)
theorem machine_map (ok : Int → Nat → Bool) (d : Nat) (tp : Bool) : ∀ (l : List Nd) (s : St2), machine ok (l.map fun u => Ent.enter d u tp) s = runs (fun u s => chk ok d u tp s) l s
  | [], _ => rfl
  | t :: l, s => by
    show (chk ok d t tp s).bind _ = (chk ok d t tp s).bind _
    congr 1
    funext s'
    exact machine_map ok d tp l s'
theorem machine_step (ok : Int → Nat → Bool) (d : Nat) (t : Nd) (top : Bool) (r : List Ent) (s : St2) :
    machine ok (.enter (d + 1) t top :: r) s = (hdC ok t top s).bind fun s' => machine ok ((kids t).map (fun u => Ent.enter d u (top && isSeq t)) ++ (closing t ++ r)) s' := by
  show (chk ok (d + 1) t top s).bind (machine ok r) = _
  unfold chk
  cases hdC ok t top s with
  | none => rfl
  | some s' =>
    simp only [Option.bind_some]
    rw [machine_append, machine_map]
    cases runs (fun u s => chk ok d u (top && isSeq t) s) (kids t) s' with
    | none => rfl
    | some s'' =>
      simp only [Option.map_some, Option.bind_some]
      unfold closing
      split
      · rfl
      · rename_i hb
        rw [leave_id (by cases t <;> first | rfl | exact absurd rfl hb)]; rfl
theorem u_inL {prog : Program} {w : World} {A : Around} {E : Value → Shared → Prop} {s : Shared} {h₀ : Heap} {L l : Addr} {vs : List Value} {ns : List Int} {n : Nat} {k : Int} {t : Tok} {news : List (Addr × Obj)} {Q : Value → Shared → Prop} (N : News h₀ L s.heap news) (hm : (l, listOf vs.toArray n) ∈ news) (hi : IntsAre vs ns)
    (h : Q (.bool (decide (k ∈ ns))) s) : wpAny (model prog w) A (compareOp .In (.int k t) (.ref l)) Q E s :=
  in_list_ints (is_list_at N hm) hi (by
    have e : ns.any (· == k) = decide (k ∈ ns) := by
      rw [Bool.eq_iff_iff, List.any_eq_true, decide_eq_true_eq]
      exact ⟨fun ⟨x, hx, e⟩ => by rw [← eq_of_beq e]; exact hx, fun hx => ⟨k, hx, beq_self_eq_true k⟩⟩
    rw [e]; exact h)
theorem once_cons (ms : List Int) (x : Int) (r : List Int) : once ms (x :: r) = if x < 0 ∨ x ∈ ms then none else once (ms ++ [x]) r := rfl
theorem drop_of_get {ns : List Int} {i : Nat} {x : Int} (h : ns[i]? = some x) : ns.drop i = x :: ns.drop (i + 1) := by
  obtain ⟨hi, e⟩ := List.getElem?_eq_some_iff.mp h
  rw [List.drop_eq_getElem_cons hi, e]
/-- between the turns of the law's own search for what is met twice -/
noncomputable def onceJ (mt : Addr) (R : List (Addr × Obj)) (ms ns : List Int) (i : Nat) (m₁ : Str → Option Value) (news₁ : List (Addr × Obj)) : Prop :=
  m₁ (Str.ofString "_law_met") = some (.ref mt) ∧ ∃ mvs' ms' mn', news₁ = (mt, listOf (List.toArray mvs') mn') :: R ∧ IntsAre mvs' ms' ∧ ms'.length ≤ ms.length + i ∧ once ms ns = once ms' (ns.drop i)
set_option maxHeartbeats 1000000 in
theorem once_spec (w : World) {mt ln : Addr} {mvs nvs : List Value} {ms ns : List Int} {mn nn : Nat} {R : List (Addr × Obj)} (hI : IntsAre mvs ms) (hne : ∀ p ∈ R, p.1 ≠ mt) (hln : (ln, listOf nvs.toArray nn) ∈ R) (hJ : IntsAre nvs ns) (hl : ms.length + ns.length ≤ 100000) :
    Spec w 811 10 100 [.ref mt, .ref ln] ((mt, listOf mvs.toArray mn) :: R)
      (fun r news' => ∃ mvs' ms' mn', news' = (mt, listOf (List.toArray mvs') mn') :: R ∧ IntsAre mvs' ms' ∧ ms'.length ≤ ms.length + ns.length ∧ ((once ms ns = some ms' ∧ r = .bool true) ∨ (once ms ns = none ∧ r = .bool false))) NoX := by
  unfold Spec
  k_fill
  intro dp un gd cn cs a ccd cl outer A₀ base h₀ L m s Q E p loose mean mg mb B F X XP N T hk hd hu hret herr
  refine wpAny_call ?_
  k_dflt (refine' code_def (binds := [(Str.ofString "_law_met", .ref mt), (Str.ofString "_law_numbers", .ref ln)]) ?k1 ?k2 ?k3 ?k4 ?k5 ?kA ?kF ?kK ?k6 ?k7 ?k8 ?k9 ?kB ?_ ?c2 ?c3 ?c4 ?c5; k_extra "m:enter")
  have kdF : KdF (fScope (stAt 55)) := by (unfold KdF; kernel_rfl!)
  have kd0 : KdL (fScope (stAt 55)) (Str.ofString "_law_met") := ⟨by kernel_rfl!, by kernel_rfl!⟩
  have kd1 : KdL (fScope (stAt 55)) (Str.ofString "_law_numbers") := ⟨by kernel_rfl!, by kernel_rfl!⟩
  have kd2 : KdL (fScope (stAt 55)) (Str.ofString "_law_number") := ⟨by kernel_rfl!, by kernel_rfl!⟩
  k_with "w:pyIter ref" => (k_dflt (refine' iter_invNL (onceJ mt R ms ns) ?oh ?ol ?oi ?oF ?oN ?oj ?ot ?od; (case oh => rfl); (case oN => k_asm); (case oF => k_asm); (case ol => k_mem); (case oi => assumption); (case oj => exact ⟨rfl, _, _, _, rfl, hI, Nat.le_refl _, rfl⟩)); all_goals first | (intro i n t m₁ news₁ h tk own hget hadr hoff hlm hJ₁ F₁ N₁; obtain ⟨hmet, mvs', ms', mn', rfl, hI', hl', ho'⟩ := hJ₁; clear hlm; have hoff' := OwnOff.ne hoff (b := mt) (.head _); rw [drop_of_get hget, once_cons] at ho'; have hi9 := (List.getElem?_eq_some_iff.mp hget).1; k_sweep; simp only [List.cons_append] at N₁; dsimp only [envOf] at F₁ N₁) | (intro m₁ news₁ h tk hlm hJ₁ F₁ N₁; obtain ⟨hmet, mvs', ms', mn', rfl, hI', hl', ho'⟩ := hJ₁; clear hlm; rw [List.drop_length] at ho'; k_sweep; dsimp only [envOf] at F₁ N₁))
  k_with "w:compareOp In int ref" => (k_dflt (refine' u_inL ?iN ?im ?ii ?_; (case iN => k_asm); (case im => k_mem); (case ii => exact hI'); k_whole))
  k_with "w:InvEndN" => k_dflt (refine' InvEndN.intro (nx := (mt, listOf (mvs'.toArray.push (.int n t)) (mn' + 1)) :: R) ?vF ?vN ⟨?vm, ?vq, mvs' ++ [.int n t], ms' ++ [n], mn' + 1, ?ve, ints_snoc hI', ?vl, ?vo⟩ ?va ?vn ?vw; (case vF => k_asm); (case vN => k_asm); (case vm => exact List.Mem.tail _ hln); (case vq => exact upd_skip (by kernel_rfl!) hmet); (case ve => rw [List.push_toArray]); (case vl => (rw [List.length_append]; simp only [List.length_cons, List.length_nil]; omega)); (case vo => (rw [ho', if_neg (fun h9 => h9.elim (by assumption) (by assumption))])); (case va => exact rfl); (case vn => k_extra "m:subX"); (case vw => k_extra "m:lift"))
  k_steps
  all_goals first
    | (refine hret _ _ _ _ (by k_asm) (newsSub (by k_asm) (by k_extra "m:subX")) ⟨mvs', ms', mn', rfl, hI', by omega, Or.inl ⟨?_, rfl⟩⟩; rw [ho']; rfl)
    | (refine hret _ _ _ _ (by k_asm) (newsSub (by k_asm) (by k_extra "m:subX")) ⟨mvs', ms', mn', rfl, hI', by omega, Or.inr ⟨?_, rfl⟩⟩; rw [ho', if_pos (by first | exact Or.inl (by assumption) | exact Or.inr (by assumption))])
theorem eqGives_bool (a b : Bool) : MeetsSeq.EqGives (.bool a) (.bool b) (a == b) := fun prog w A E s Q h => by
  unfold eqBool
  show wpAny _ _ (if (Value.bool a == Value.bool b) = true then _ else _) Q E s
  by_cases hab : (Value.bool a == Value.bool b) = true
  · rw [if_pos hab]
    have e : a = b := by have := eq_of_beq hab; injection this
    subst e
    exact wpAny_bind (wpAny_rule (wpAny_pure (by simpa using h)))
  · rw [if_neg hab]
    exact wpAny_bind (eq_bool (Q := fun v s' => wpAny (model prog w) A (truthOfDropped v) Q E s') (wpAny_truthy_bool h))
noncomputable def isB (b : Bool) : Value → Bool
  | .bool c => c == b
  | _ => false
theorem any_isB (b : Bool) (bs : List Bool) : (bs.map Value.bool).any (isB b) = decide (b ∈ bs) := by
  induction bs with
  | nil => rfl
  | cons c r ih =>
    rw [List.map_cons, List.any_cons, ih]
    show ((c == b) || decide (b ∈ r)) = _
    cases b <;> cases c <;> simp
theorem u_notinB {prog : Program} {w : World} {A : Around} {E : Value → Shared → Prop} {s : Shared} {h₀ : Heap} {L l : Addr} {bs : List Bool} {n : Nat} {b : Bool} {news : List (Addr × Obj)} {Q : Value → Shared → Prop} (N : News h₀ L s.heap news) (hm : (l, listOf (List.toArray (bs.map Value.bool)) n) ∈ news)
    (h : Q (.bool (!decide (b ∈ bs))) s) : wpAny (model prog w) A (compareOp .NotIn (.bool b) (.ref l)) Q E s :=
  SeqInW.notIn_listW (isB b) (fun y hy => by
    obtain ⟨c, _, rfl⟩ := List.mem_map.mp (List.mem_toArray.mp hy)
    exact eqGives_bool c b) (is_list_at N hm) (by
    rw [← Array.any_toList, show (List.toArray (bs.map Value.bool)).toList = bs.map Value.bool from rfl, any_isB]; exact h)
noncomputable def dmF (d : Nat) : Nat := 40 + 10 * d
noncomputable def umF (d : Nat) : Nat := 500 + 100 * d
/-- a list of ints at the ledger's head -/
structure LO (o : Obj) (ns : List Int) : Prop where
  at_ : ∃ vs n, o = listOf (List.toArray vs) n ∧ IntsAre vs ns
/-- a list of ints within a ledger -/
noncomputable def IntsAt (R : List (Addr × Obj)) (a : Addr) (ns : List Int) : Prop := ∃ vs n, (a, listOf (List.toArray vs) n) ∈ R ∧ IntsAre vs ns
/-- what the law's walk hands back -/
noncomputable def FineR (d : Nat) (T : Nd) (ks : List Int) (top : Bool) (ms ls : List Int) (mt lb : Addr) (R : List (Addr × Obj)) (r : Value) (news' : List (Addr × Obj)) : Prop :=
  ∃ om ol ms' ls', news' = (mt, om) :: (lb, ol) :: R ∧ LO om ms' ∧ LO ol ls' ∧ ms'.length ≤ ms.length + wt T ∧ ls'.length ≤ ls.length + wt T ∧ ((fine primOk d T ks top (ms, ls) = some (ms', ls') ∧ r = .bool true) ∨ (fine primOk d T ks top (ms, ls) = none ∧ r = .bool false))
noncomputable def FineS (w : World) (d : Nat) : Prop := ∀ {T : Nd} {v : Value} {kl mt lb : Addr} {ks ms ls : List Int} {om ol : Obj} {top : Bool} {R : List (Addr × Obj)},
  NodeIn w.params R v T → dpt T ≤ d → IntsAt R kl ks → LO om ms → LO ol ls → NeA mt lb → (∀ p ∈ R, p.1 ≠ mt) → (∀ p ∈ R, p.1 ≠ lb) → ms.length + wt T ≤ 20000 → ls.length + wt T ≤ 20000 → ks.length + wt T ≤ 20000 →
  Spec w 816 (dmF d) (umF d) [v, .ref kl, .ref mt, .ref lb, .bool top] ((mt, om) :: (lb, ol) :: R) (FineR d T ks top ms ls mt lb R) NoX
noncomputable def FTurn (h₀ : Heap) (L : Addr) (m : Str → Option Value) (s : Shared) (d : Nat) (T : Nd) (ks : List Int) (top : Bool) (ms ls : List Int) (mt lb : Addr) (R : List (Addr × Obj)) (y : Value) (s' : Shared) : Prop :=
  ∃ h' tk' news', s' = { s with heap := h', toks := tk' } ∧ Fr h₀ L h' m ∧ News h₀ L h' news' ∧ FineR d T ks top ms ls mt lb R y news'
/-- between the turns of the law's walk over a node's parts -/
noncomputable def FineJ (d : Nat) (ts : List Nd) (ks : List Int) (top : Bool) (ms ls : List Int) (mt lb : Addr) (R : List (Addr × Obj)) (i : Nat) (ys : List Value) (news : List (Addr × Obj)) : Prop :=
  ∃ (om ol : Obj) (ms' ls' : List Int) (bs : List Bool), news = (mt, om) :: (lb, ol) :: R ∧ LO om ms' ∧ LO ol ls' ∧ ms'.length ≤ ms.length + wts (ts.take i) ∧ ls'.length ≤ ls.length + wts (ts.take i) ∧ ys = bs.map Value.bool ∧ bs.length = i ∧
    ((runs (fun u s => fine primOk d u ks top s) (ts.take i) (ms, ls) = some (ms', ls') ∧ ¬ false ∈ bs) ∨ (runs (fun u s => fine primOk d u ks top s) (ts.take i) (ms, ls) = none ∧ false ∈ bs))
theorem wts_take_le (ts : List Nd) : ∀ i, wts (ts.take i) ≤ wts ts := by
  induction ts with
  | nil => intro i; rw [List.take_nil]; exact Nat.le_refl _
  | cons t r ih =>
    intro i
    cases i with
    | zero => exact Nat.zero_le _
    | succ i =>
      show wt t + wts (r.take i) ≤ wt t + wts r
      have := ih i
      omega
theorem wts_take_succ {ts : List Nd} {i : Nat} {T : Nd} (h : ts[i]? = some T) : wts (ts.take (i + 1)) = wts (ts.take i) + wt T := by
  rw [List.take_add_one, h, wts_append]
  show _ + (wt T + 0) = _
  rw [Nat.add_zero]
theorem fine_comp {prog : Program} {w : World} {A : Around} {h₀ : Heap} {L : Addr} {m : Str → Option Value} {env : Env} {elt : PySem.Expr} {x : Str} {scope : Scope} {cl : List (Str × Addr)} {s : Shared} {S : List (Addr × Obj) → Prop} {Fin : List Value → List (Addr × Obj) → Prop}
    {d : Nat} {ts : List Nd} {ks ms ls : List Int} {top : Bool} {mt lb : Addr} {R : List (Addr × Obj)} {om ol : Obj} {pvs : List Value} (hT : NodesIn w.params R pvs ts) (hS : ∀ news, (∀ p ∈ R, p ∈ news) → S news) (hm : LO om ms) (hl : LO ol ls) (hne : NeA mt lb) (h1 : ∀ p ∈ R, p.1 ≠ mt) (h2 : ∀ p ∈ R, p.1 ≠ lb)
    (turn : ∀ (i : Nat) (v : Value) (T : Nd) om₁ ol₁ ms₁ ls₁ I oI C oC D ys m₂ h tk (E' : Value → Shared → Prop), pvs[i]? = some v → ts[i]? = some T → NodeIn w.params R v T → LO om₁ ms₁ → LO ol₁ ls₁ → ms₁.length + wt T ≤ ms.length + wts ts → ls₁.length + wt T ≤ ls.length + wts ts → LCg.NsObj oC m₂ → m₂ x = some v → Fr h₀ L h m →
      News h₀ L h ((mt, om₁) :: (lb, ol₁) :: (I, oI) :: (C, oC) :: (D, LCg.lst ys) :: R) → (∀ p ∈ (I, oI) :: (C, oC) :: (D, LCg.lst ys) :: R, p.1 ≠ mt) → (∀ p ∈ (I, oI) :: (C, oC) :: (D, LCg.lst ys) :: R, p.1 ≠ lb) →
      wpAny (model prog w) A (eval elt (compEnvC scope cl C env)) (FTurn h₀ L m { s with heap := h, toks := tk } d T ks top ms₁ ls₁ mt lb ((I, oI) :: (C, oC) :: (D, LCg.lst ys) :: R)) E' { s with heap := h, toks := tk })
    (fin : ∀ ys news, FineJ d ts ks top ms ls mt lb R ts.length ys news → Fin ys news) :
    LCg.CompRest prog w A h₀ L m env elt x scope cl s S (fun i v => pvs.toArray[i]? = some v) Fin ts.length 0 [] ((mt, om) :: (lb, ol) :: R) := by
  refine compRest_of (FineJ d ts ks top ms ls mt lb R) ⟨om, ol, ms, ls, [], rfl, hm, hl, Nat.le_refl _, Nat.le_refl _, rfl, rfl, .inl ⟨rfl, List.not_mem_nil⟩⟩ (fun i ys news hi hJ v I oI C oC D m₂ h tk E' hP hC hx F N off ne => ?_) fin
  obtain ⟨om₁, ol₁, ms₁, ls₁, bs, rfl, hm₁, hl₁, b1, b2, rfl, hbl, hr⟩ := hJ
  obtain ⟨o1, o2, o3⟩ := off3_ne off
  have hv : pvs[i]? = some v := by simpa using hP
  have hTi : ts[i]? = some ts[i] := List.getElem?_eq_getElem hi
  have hws := wts_take_succ hTi
  have hwl := wts_take_le ts (i + 1)
  have N1 : News h₀ L h ((mt, om₁) :: (lb, ol₁) :: (I, oI) :: (C, oC) :: (D, LCg.lst (bs.map Value.bool)) :: R) := led_front (x := [(I, oI), (C, oC), (D, LCg.lst (bs.map Value.bool))]) N
  refine wpAny_mono (turn i v ts[i] om₁ ol₁ ms₁ ls₁ I oI C oC D (bs.map Value.bool) m₂ h tk E' hv hTi (hT.2 i v _ hv hTi) hm₁ hl₁ (by omega) (by omega) hC hx F N1
    (List.forall_mem_cons.mpr ⟨Ne.symm (o1 _ (.head _)), List.forall_mem_cons.mpr ⟨Ne.symm (o2 _ (.head _)), List.forall_mem_cons.mpr ⟨Ne.symm (o3 _ (.head _)), h1⟩⟩⟩)
    (List.forall_mem_cons.mpr ⟨Ne.symm (o1 _ (.tail _ (.head _))), List.forall_mem_cons.mpr ⟨Ne.symm (o2 _ (.tail _ (.head _))), List.forall_mem_cons.mpr ⟨Ne.symm (o3 _ (.tail _ (.head _))), h2⟩⟩⟩)) (fun y s' hE => ?_) fun _ _ e => e
  obtain ⟨h', tk', news', rfl, F', N', om', ol', ms', ls', rfl, hm', hl', c1, c2, hf⟩ := hE
  have ex : ∃ b, y = .bool b ∧ ((fine primOk d ts[i] ks top (ms₁, ls₁) = some (ms', ls') ∧ b = true) ∨ (fine primOk d ts[i] ks top (ms₁, ls₁) = none ∧ b = false)) := by
    rcases hf with ⟨q, rfl⟩ | ⟨q, rfl⟩
    · exact ⟨true, rfl, .inl ⟨q, rfl⟩⟩
    · exact ⟨false, rfl, .inr ⟨q, rfl⟩⟩
  obtain ⟨b, rfl, hg⟩ := ex
  clear hf
  refine LCg.CompEnd.intro F' N' ((mt, om') :: (lb, ol') :: R) ?_ ?_ ?_ ⟨om', ol', ms', ls', bs ++ [b], rfl, hm', hl', by omega, by omega, by rw [List.map_append]; rfl, by rw [List.length_append, hbl]; rfl, ?_⟩
  · exact List.forall_mem_cons.mpr ⟨.tail _ (.tail _ (.head _)), List.forall_mem_cons.mpr ⟨.tail _ (.tail _ (.tail _ (.head _))), List.forall_mem_cons.mpr ⟨.tail _ (.tail _ (.tail _ (.tail _ (.head _)))), List.forall_mem_cons.mpr ⟨.head _, List.forall_mem_cons.mpr ⟨.tail _ (.head _), fun p hp => .tail _ (.tail _ (.tail _ (.tail _ (.tail _ hp))))⟩⟩⟩⟩⟩
  · exact off3_of (List.forall_mem_cons.mpr ⟨o1 (mt, om₁) (.head _), List.forall_mem_cons.mpr ⟨o1 (lb, ol₁) (.tail _ (.head _)), fun p hp => o1 p (.tail _ (.tail _ hp))⟩⟩)
      (List.forall_mem_cons.mpr ⟨o2 (mt, om₁) (.head _), List.forall_mem_cons.mpr ⟨o2 (lb, ol₁) (.tail _ (.head _)), fun p hp => o2 p (.tail _ (.tail _ hp))⟩⟩)
      (List.forall_mem_cons.mpr ⟨o3 (mt, om₁) (.head _), List.forall_mem_cons.mpr ⟨o3 (lb, ol₁) (.tail _ (.head _)), fun p hp => o3 p (.tail _ (.tail _ hp))⟩⟩)
  · exact hS _ fun p hp => .tail _ (.tail _ hp)
  · rw [List.take_add_one, hTi, runs_append]
    rcases hr with ⟨q, nb⟩ | ⟨q, nb⟩
    · rw [q]
      rcases hg with ⟨z, rfl⟩ | ⟨z, rfl⟩
      · refine .inl ⟨?_, by simpa using nb⟩
        show (fine primOk d ts[i] ks top (ms₁, ls₁)).bind _ = _
        rw [z]; rfl
      · refine .inr ⟨?_, by simp⟩
        show (fine primOk d ts[i] ks top (ms₁, ls₁)).bind _ = _
        rw [z]; rfl
    · rw [q]
      exact .inr ⟨rfl, by simp [nb]⟩
/-- what a node's method parts hands back -/
noncomputable def PartsR (P : Params) (Xr news : List (Addr × Obj)) (ts : List Nd) (r : Value) (news' : List (Addr × Obj)) : Prop := ∃ D vs n, r = .ref D ∧ news' = (D, listOf (List.toArray vs) n) :: news ∧ (∀ p ∈ news, p.1 < D) ∧ NodesIn P Xr vs ts
theorem allLt_all {a : Addr} {l : List (Addr × Obj)} (h : AllLt a l) : ∀ p ∈ l, p.1 < a := fun p hp => allLt_mem h p hp
theorem NodesIn.app {P : Params} {R : List (Addr × Obj)} {vs us : List Value} {ts ss : List Nd} (h : NodesIn P R vs ts) (k : NodesIn P R us ss) : NodesIn P R (vs ++ us) (ts ++ ss) := by
  induction vs generalizing ts with
  | nil =>
    rcases h.cases with ⟨_, rfl⟩ | ⟨_, _, _, _, e, _⟩
    · exact k
    · cases e
  | cons w vs ih =>
    rcases h.cases with ⟨e, _⟩ | ⟨_, _, _, _, e, rfl, h1, h2⟩
    · cases e
    · cases e; exact .cons h1 (ih h2)
set_option maxHeartbeats 1000000 in
theorem parts_none (w : World) {x : Addr} {news Xr : List (Addr × Obj)}   :
    Spec w 35 10 100 [.ref x] news (PartsR w.params Xr news []) NoX := by
  unfold Spec
  k_fill
  intro dp un gd cn cs a ccd cl outer A₀ base h₀ L m s Q E p loose mean mg mb B F X XP N T hk hd hu hret herr
  refine wpAny_call ?_
  k_dflt (refine' code_def (binds := [(Str.ofString "self", .ref x)]) ?k1 ?k2 ?k3 ?k4 ?k5 ?kA ?kF ?kK ?k6 ?k7 ?k8 ?k9 ?kB ?_ ?c2 ?c3 ?c4 ?c5; k_extra "m:enter")
  k_with "w:call type:list" => (k_here; (with_reducible show wpAny _ _ (call (Value.type _) [Value.ref _]) _ _ _); k_dflt (refine' list_copyK ?lF ?lN ?ll ?_ ?lz; (case lF => k_asm); (case lN => k_asm); (case ll => exact is_list_at (by k_asm) h3); (case lz => (rw [sizeLine_eq, List.size_toArray]; omega))); intro D' c' h' F' N' l1; (replace l1 := allLt_of l1); (try k_sweep); (try dsimp only))
  k_with "w:binaryOp Add ref ref" => (k_here; (with_reducible show wpAny _ _ (binaryOp _ (Value.ref _) (Value.ref _)) _ _ _); k_dflt (refine' kmk_add_lit ?lF ?lN ?la ?lb ?le ?_ ?lz; (case lF => k_asm); (case lN => k_asm); (case la => exact is_list_at (by k_asm) (by k_mem)); (case lb => exact is_list_at (by k_asm) (by k_mem)); (case le => exact rfl); (case lz => ((show List.length _ + List.length _ ≤ _); rw [sizeLine_eq]; (try simp only [List.length_cons, List.length_nil]); omega))); intro D' h' F' N' l1; (replace l1 := allLt_of l1); (try k_sweep); (try dsimp only))
  k_steps
  exact hret _ _ _ _ (by k_asm) (newsSub (by k_asm) (by k_extra "m:subX")) ⟨_, _, _, rfl, rfl, fun p hp => allLt_all (by assumption) p (by first | exact hp | exact .tail _ hp), .nil⟩
set_option maxHeartbeats 1000000 in
theorem parts_setl (w : World) {x : Addr} {news Xr : List (Addr × Obj)} {dx : Addr} {t1 t2 : Tok} {n : Nat} {k c : Value} {U : Nd} (h1 : (x, instObj 137 dx) ∈ news) (h2 : (dx, dictOf [fld w.params "number" t1 k, fld w.params "value" t2 c] n) ∈ news) (q1 : NodeIn w.params Xr c U) :
    Spec w 127 10 100 [.ref x] news (PartsR w.params Xr news [U]) NoX := by
  unfold Spec
  k_fill
  intro dp un gd cn cs a ccd cl outer A₀ base h₀ L m s Q E p loose mean mg mb B F X XP N T hk hd hu hret herr
  refine wpAny_call ?_
  k_dflt (refine' code_def (binds := [(Str.ofString "self", .ref x)]) ?k1 ?k2 ?k3 ?k4 ?k5 ?kA ?kF ?kK ?k6 ?k7 ?k8 ?k9 ?kB ?_ ?c2 ?c3 ?c4 ?c5; k_extra "m:enter")
  k_steps
  exact hret _ _ _ _ (by k_asm) (newsSub (by k_asm) (by k_extra "m:subX")) ⟨_, _, _, rfl, rfl, fun p hp => allLt_all (by assumption) p (by first | exact hp | exact .tail _ hp), .cons q1 .nil⟩
set_option maxHeartbeats 1000000 in
theorem parts_setg (w : World) {x : Addr} {news Xr : List (Addr × Obj)} {dx : Addr} {t1 t2 : Tok} {n : Nat} {k c : Value} {U : Nd} (h1 : (x, instObj 170 dx) ∈ news) (h2 : (dx, dictOf [fld w.params "symbol" t1 k, fld w.params "value" t2 c] n) ∈ news) (q1 : NodeIn w.params Xr c U) :
    Spec w 160 10 100 [.ref x] news (PartsR w.params Xr news [U]) NoX := by
  unfold Spec
  k_fill
  intro dp un gd cn cs a ccd cl outer A₀ base h₀ L m s Q E p loose mean mg mb B F X XP N T hk hd hu hret herr
  refine wpAny_call ?_
  k_dflt (refine' code_def (binds := [(Str.ofString "self", .ref x)]) ?k1 ?k2 ?k3 ?k4 ?k5 ?kA ?kF ?kK ?k6 ?k7 ?k8 ?k9 ?kB ?_ ?c2 ?c3 ?c4 ?c5; k_extra "m:enter")
  k_steps
  exact hret _ _ _ _ (by k_asm) (newsSub (by k_asm) (by k_extra "m:subX")) ⟨_, _, _, rfl, rfl, fun p hp => allLt_all (by assumption) p (by first | exact hp | exact .tail _ hp), .cons q1 .nil⟩
set_option maxHeartbeats 1000000 in
theorem parts_define (w : World) {x : Addr} {news Xr : List (Addr × Obj)} {dx : Addr} {t1 t2 : Tok} {n : Nat} {k c : Value} {U : Nd} (h1 : (x, instObj 203 dx) ∈ news) (h2 : (dx, dictOf [fld w.params "symbol" t1 k, fld w.params "value" t2 c] n) ∈ news) (q1 : NodeIn w.params Xr c U) :
    Spec w 193 10 100 [.ref x] news (PartsR w.params Xr news [U]) NoX := by
  unfold Spec
  k_fill
  intro dp un gd cn cs a ccd cl outer A₀ base h₀ L m s Q E p loose mean mg mb B F X XP N T hk hd hu hret herr
  refine wpAny_call ?_
  k_dflt (refine' code_def (binds := [(Str.ofString "self", .ref x)]) ?k1 ?k2 ?k3 ?k4 ?k5 ?kA ?kF ?kK ?k6 ?k7 ?k8 ?k9 ?kB ?_ ?c2 ?c3 ?c4 ?c5; k_extra "m:enter")
  k_steps
  exact hret _ _ _ _ (by k_asm) (newsSub (by k_asm) (by k_extra "m:subX")) ⟨_, _, _, rfl, rfl, fun p hp => allLt_all (by assumption) p (by first | exact hp | exact .tail _ hp), .cons q1 .nil⟩
set_option maxHeartbeats 1000000 in
theorem parts_if (w : World) {x : Addr} {news Xr : List (Addr × Obj)} {dx : Addr} {t1 t2 t3 : Tok} {n : Nat} {a1 b1 c1 : Value} {A1 B1 C1 : Nd} (h1 : (x, instObj 236 dx) ∈ news) (h2 : (dx, dictOf [fld w.params "test" t1 a1, fld w.params "yes" t2 b1, fld w.params "no" t3 c1] n) ∈ news) (q1 : NodeIn w.params Xr a1 A1) (q2 : NodeIn w.params Xr b1 B1) (q3 : NodeIn w.params Xr c1 C1) :
    Spec w 226 10 100 [.ref x] news (PartsR w.params Xr news [A1, B1, C1]) NoX := by
  unfold Spec
  k_fill
  intro dp un gd cn cs a ccd cl outer A₀ base h₀ L m s Q E p loose mean mg mb B F X XP N T hk hd hu hret herr
  refine wpAny_call ?_
  k_dflt (refine' code_def (binds := [(Str.ofString "self", .ref x)]) ?k1 ?k2 ?k3 ?k4 ?k5 ?kA ?kF ?kK ?k6 ?k7 ?k8 ?k9 ?kB ?_ ?c2 ?c3 ?c4 ?c5; k_extra "m:enter")
  k_steps
  exact hret _ _ _ _ (by k_asm) (newsSub (by k_asm) (by k_extra "m:subX")) ⟨_, _, _, rfl, rfl, fun p hp => allLt_all (by assumption) p (by first | exact hp | exact .tail _ hp), .cons q1 (.cons q2 (.cons q3 .nil))⟩
set_option maxHeartbeats 1000000 in
theorem parts_lambda (w : World) {x : Addr} {news Xr : List (Addr × Obj)} {dx : Addr} {t1 t2 t3 t4 : Tok} {n : Nat} {v1 v2 v3 c : Value} {U : Nd} (h1 : (x, instObj 283 dx) ∈ news) (h2 : (dx, dictOf [fld w.params "label" t1 v1, fld w.params "params" t2 v2, fld w.params "rest" t3 v3, fld w.params "body" t4 c] n) ∈ news) (q1 : NodeIn w.params Xr c U) :
    Spec w 259 10 100 [.ref x] news (PartsR w.params Xr news [U]) NoX := by
  unfold Spec
  k_fill
  intro dp un gd cn cs a ccd cl outer A₀ base h₀ L m s Q E p loose mean mg mb B F X XP N T hk hd hu hret herr
  refine wpAny_call ?_
  k_dflt (refine' code_def (binds := [(Str.ofString "self", .ref x)]) ?k1 ?k2 ?k3 ?k4 ?k5 ?kA ?kF ?kK ?k6 ?k7 ?k8 ?k9 ?kB ?_ ?c2 ?c3 ?c4 ?c5; k_extra "m:enter")
  k_steps
  exact hret _ _ _ _ (by k_asm) (newsSub (by k_asm) (by k_extra "m:subX")) ⟨_, _, _, rfl, rfl, fun p hp => allLt_all (by assumption) p (by first | exact hp | exact .tail _ hp), .cons q1 .nil⟩
set_option maxHeartbeats 1000000 in
theorem parts_call (w : World) {x : Addr} {news Xr : List (Addr × Obj)} {dx l1 : Addr} {t1 t2 : Tok} {n nl : Nat} {f1 : Value} {F1 : Nd} {vs : List Value} {ts : List Nd} (h1 : (x, instObj 316 dx) ∈ news) (h2 : (dx, dictOf [fld w.params "operator" t1 f1, fld w.params "operands" t2 (.ref l1)] n) ∈ news) (h3 : (l1, listOf vs.toArray nl) ∈ news) (hz : vs.length ≤ 50000) (q1 : NodeIn w.params Xr f1 F1) (q2 : NodesIn w.params Xr vs ts) :
    Spec w 306 10 100 [.ref x] news (PartsR w.params Xr news (F1 :: ts)) NoX := by
  unfold Spec
  k_fill
  intro dp un gd cn cs a ccd cl outer A₀ base h₀ L m s Q E p loose mean mg mb B F X XP N T hk hd hu hret herr
  refine wpAny_call ?_
  k_dflt (refine' code_def (binds := [(Str.ofString "self", .ref x)]) ?k1 ?k2 ?k3 ?k4 ?k5 ?kA ?kF ?kK ?k6 ?k7 ?k8 ?k9 ?kB ?_ ?c2 ?c3 ?c4 ?c5; k_extra "m:enter")
  k_steps
  exact hret _ _ _ _ (by k_asm) (newsSub (by k_asm) (by k_extra "m:subX")) ⟨_, _, _, rfl, rfl, fun p hp => allLt_all (by assumption) p (by first | exact hp | exact .tail _ hp), .cons q1 q2⟩
set_option maxHeartbeats 1000000 in
theorem parts_seq (w : World) {x : Addr} {news Xr : List (Addr × Obj)} {dx l1 : Addr} {t1 : Tok} {n nl : Nat} {vs : List Value} {ts : List Nd} (h1 : (x, instObj 349 dx) ∈ news) (h2 : (dx, dictOf [fld w.params "items" t1 (.ref l1)] n) ∈ news) (h3 : (l1, listOf vs.toArray nl) ∈ news) (hz : vs.length ≤ 50000) (q2 : NodesIn w.params Xr vs ts) :
    Spec w 339 10 100 [.ref x] news (PartsR w.params Xr news ts) NoX := by
  unfold Spec
  k_fill
  intro dp un gd cn cs a ccd cl outer A₀ base h₀ L m s Q E p loose mean mg mb B F X XP N T hk hd hu hret herr
  refine wpAny_call ?_
  k_dflt (refine' code_def (binds := [(Str.ofString "self", .ref x)]) ?k1 ?k2 ?k3 ?k4 ?k5 ?kA ?kF ?kK ?k6 ?k7 ?k8 ?k9 ?kB ?_ ?c2 ?c3 ?c4 ?c5; k_extra "m:enter")
  k_steps
  exact hret _ _ _ _ (by k_asm) (newsSub (by k_asm) (by k_extra "m:subX")) ⟨_, _, _, rfl, rfl, fun p hp => allLt_all (by assumption) p (by first | exact hp | exact .tail _ hp), q2⟩
set_option maxHeartbeats 1000000 in
theorem parts_prim (w : World) {x : Addr} {news Xr : List (Addr × Obj)} {dx l1 : Addr} {t1 t2 : Tok} {n nl : Nat} {f1 : Value} {vs : List Value} {ts : List Nd} (h1 : (x, instObj 382 dx) ∈ news) (h2 : (dx, dictOf [fld w.params "op" t1 f1, fld w.params "operands" t2 (.ref l1)] n) ∈ news) (h3 : (l1, listOf vs.toArray nl) ∈ news) (hz : vs.length ≤ 50000) (q2 : NodesIn w.params Xr vs ts) :
    Spec w 372 10 100 [.ref x] news (PartsR w.params Xr news ts) NoX := by
  unfold Spec
  k_fill
  intro dp un gd cn cs a ccd cl outer A₀ base h₀ L m s Q E p loose mean mg mb B F X XP N T hk hd hu hret herr
  refine wpAny_call ?_
  k_dflt (refine' code_def (binds := [(Str.ofString "self", .ref x)]) ?k1 ?k2 ?k3 ?k4 ?k5 ?kA ?kF ?kK ?k6 ?k7 ?k8 ?k9 ?kB ?_ ?c2 ?c3 ?c4 ?c5; k_extra "m:enter")
  k_steps
  exact hret _ _ _ _ (by k_asm) (newsSub (by k_asm) (by k_extra "m:subX")) ⟨_, _, _, rfl, rfl, fun p hp => allLt_all (by assumption) p (by first | exact hp | exact .tail _ hp), q2⟩
set_option maxHeartbeats 1000000 in
theorem parts_fix (w : World) {x : Addr} {news Xr : List (Addr × Obj)} {dx l1 : Addr} {t1 t2 t3 : Tok} {n nl : Nat} {f1 c : Value} {U : Nd} {vs : List Value} {ts : List Nd} (h1 : (x, instObj 415 dx) ∈ news) (h2 : (dx, dictOf [fld w.params "numbers" t1 f1, fld w.params "lambdas" t2 (.ref l1), fld w.params "body" t3 c] n) ∈ news) (h3 : (l1, listOf vs.toArray nl) ∈ news) (hz : vs.length ≤ 50000) (q1 : NodeIn w.params Xr c U) (q2 : NodesIn w.params Xr vs ts) :
    Spec w 405 10 100 [.ref x] news (PartsR w.params Xr news (ts ++ [U])) NoX := by
  unfold Spec
  k_fill
  intro dp un gd cn cs a ccd cl outer A₀ base h₀ L m s Q E p loose mean mg mb B F X XP N T hk hd hu hret herr
  refine wpAny_call ?_
  k_dflt (refine' code_def (binds := [(Str.ofString "self", .ref x)]) ?k1 ?k2 ?k3 ?k4 ?k5 ?kA ?kF ?kK ?k6 ?k7 ?k8 ?k9 ?kB ?_ ?c2 ?c3 ?c4 ?c5; k_extra "m:enter")
  k_steps
  exact hret _ _ _ _ (by k_asm) (newsSub (by k_asm) (by k_extra "m:subX")) ⟨_, _, _, rfl, rfl, fun p hp => allLt_all (by assumption) p (by first | exact hp | exact .tail _ hp), NodesIn.app q2 (.cons q1 .nil)⟩
theorem setup_20 : True := by
  k_with "w:call ref" => (k_here; (with_reducible show wpAny _ _ (call (Value.ref 35) [Value.ref _]) _ _ _); k_dflt (refine' Spec.use (parts_none _ (Xr := [])) ?qB7 ?qF7 ?qX7 ?qXP7 ?qN7 ?qT7 ?qK7 ?qhd7 ?qhu7 ?_ ?qx7; (case qN7 => k_asm); (k_extra "m:use"); (case qx7 => k_extra "m:noX")); (rintro _ _ h' tk' F' N' ⟨D', pvs', pn', e1, e2, lD', hP'⟩); subst e1 e2; (replace lD' := allLt_of lD'); (try k_sweep); (try dsimp only))
  k_with "w:call ref" => (k_here; (with_reducible show wpAny _ _ (call (Value.ref 127) [Value.ref _]) _ _ _); k_dflt (refine' Spec.use (parts_setl _ ?e0p ?e1p ?e2p) ?qB7 ?qF7 ?qX7 ?qXP7 ?qN7 ?qT7 ?qK7 ?qhd7 ?qhu7 ?_ ?qx7; (case qN7 => k_asm); (k_extra "m:use"); (case e0p => k_mem); (case e1p => k_mem); (case e2p => k_extra "m:nodel"); (case qx7 => k_extra "m:noX")); (rintro _ _ h' tk' F' N' ⟨D', pvs', pn', e1, e2, lD', hP'⟩); subst e1 e2; (replace lD' := allLt_of lD'); (try k_sweep); (try dsimp only))
  k_with "w:call ref" => (k_here; (with_reducible show wpAny _ _ (call (Value.ref 160) [Value.ref _]) _ _ _); k_dflt (refine' Spec.use (parts_setg _ ?e0p ?e1p ?e2p) ?qB7 ?qF7 ?qX7 ?qXP7 ?qN7 ?qT7 ?qK7 ?qhd7 ?qhu7 ?_ ?qx7; (case qN7 => k_asm); (k_extra "m:use"); (case e0p => k_mem); (case e1p => k_mem); (case e2p => k_extra "m:nodel"); (case qx7 => k_extra "m:noX")); (rintro _ _ h' tk' F' N' ⟨D', pvs', pn', e1, e2, lD', hP'⟩); subst e1 e2; (replace lD' := allLt_of lD'); (try k_sweep); (try dsimp only))
  k_with "w:call ref" => (k_here; (with_reducible show wpAny _ _ (call (Value.ref 193) [Value.ref _]) _ _ _); k_dflt (refine' Spec.use (parts_define _ ?e0p ?e1p ?e2p) ?qB7 ?qF7 ?qX7 ?qXP7 ?qN7 ?qT7 ?qK7 ?qhd7 ?qhu7 ?_ ?qx7; (case qN7 => k_asm); (k_extra "m:use"); (case e0p => k_mem); (case e1p => k_mem); (case e2p => k_extra "m:nodel"); (case qx7 => k_extra "m:noX")); (rintro _ _ h' tk' F' N' ⟨D', pvs', pn', e1, e2, lD', hP'⟩); subst e1 e2; (replace lD' := allLt_of lD'); (try k_sweep); (try dsimp only))
  k_with "w:call ref" => (k_here; (with_reducible show wpAny _ _ (call (Value.ref 226) [Value.ref _]) _ _ _); k_dflt (refine' Spec.use (parts_if _ ?e0p ?e1p ?e2p ?e3p ?e4p) ?qB7 ?qF7 ?qX7 ?qXP7 ?qN7 ?qT7 ?qK7 ?qhd7 ?qhu7 ?_ ?qx7; (case qN7 => k_asm); (k_extra "m:use"); (case e0p => k_mem); (case e1p => k_mem); (case e2p => k_extra "m:nodel"); (case e3p => k_extra "m:nodel"); (case e4p => k_extra "m:nodel"); (case qx7 => k_extra "m:noX")); (rintro _ _ h' tk' F' N' ⟨D', pvs', pn', e1, e2, lD', hP'⟩); subst e1 e2; (replace lD' := allLt_of lD'); (try k_sweep); (try dsimp only))
  k_with "w:call ref" => (k_here; (with_reducible show wpAny _ _ (call (Value.ref 259) [Value.ref _]) _ _ _); k_dflt (refine' Spec.use (parts_lambda _ ?e0p ?e1p ?e2p) ?qB7 ?qF7 ?qX7 ?qXP7 ?qN7 ?qT7 ?qK7 ?qhd7 ?qhu7 ?_ ?qx7; (case qN7 => k_asm); (k_extra "m:use"); (case e0p => k_mem); (case e1p => k_mem); (case e2p => k_extra "m:nodel"); (case qx7 => k_extra "m:noX")); (rintro _ _ h' tk' F' N' ⟨D', pvs', pn', e1, e2, lD', hP'⟩); subst e1 e2; (replace lD' := allLt_of lD'); (try k_sweep); (try dsimp only))
  k_with "w:call ref" => (k_here; (with_reducible show wpAny _ _ (call (Value.ref 306) [Value.ref _]) _ _ _); k_dflt (refine' Spec.use (parts_call _ ?e0p ?e1p ?e2p ?e3p ?e4p ?e5p) ?qB7 ?qF7 ?qX7 ?qXP7 ?qN7 ?qT7 ?qK7 ?qhd7 ?qhu7 ?_ ?qx7; (case qN7 => k_asm); (k_extra "m:use"); (case e0p => k_mem); (case e1p => k_mem); (case e2p => k_mem); (case e3p => first | assumption | omega); (case e4p => k_extra "m:nodel"); (case e5p => k_extra "m:nodesl"); (case qx7 => k_extra "m:noX")); (rintro _ _ h' tk' F' N' ⟨D', pvs', pn', e1, e2, lD', hP'⟩); subst e1 e2; (replace lD' := allLt_of lD'); (try k_sweep); (try dsimp only))
  k_with "w:call ref" => (k_here; (with_reducible show wpAny _ _ (call (Value.ref 339) [Value.ref _]) _ _ _); k_dflt (refine' Spec.use (parts_seq _ ?e0p ?e1p ?e2p ?e3p ?e4p) ?qB7 ?qF7 ?qX7 ?qXP7 ?qN7 ?qT7 ?qK7 ?qhd7 ?qhu7 ?_ ?qx7; (case qN7 => k_asm); (k_extra "m:use"); (case e0p => k_mem); (case e1p => k_mem); (case e2p => k_mem); (case e3p => first | assumption | omega); (case e4p => k_extra "m:nodesl"); (case qx7 => k_extra "m:noX")); (rintro _ _ h' tk' F' N' ⟨D', pvs', pn', e1, e2, lD', hP'⟩); subst e1 e2; (replace lD' := allLt_of lD'); (try k_sweep); (try dsimp only))
  k_with "w:call ref" => (k_here; (with_reducible show wpAny _ _ (call (Value.ref 372) [Value.ref _]) _ _ _); k_dflt (refine' Spec.use (parts_prim _ ?e0p ?e1p ?e2p ?e3p ?e4p) ?qB7 ?qF7 ?qX7 ?qXP7 ?qN7 ?qT7 ?qK7 ?qhd7 ?qhu7 ?_ ?qx7; (case qN7 => k_asm); (k_extra "m:use"); (case e0p => k_mem); (case e1p => k_mem); (case e2p => k_mem); (case e3p => first | assumption | omega); (case e4p => k_extra "m:nodesl"); (case qx7 => k_extra "m:noX")); (rintro _ _ h' tk' F' N' ⟨D', pvs', pn', e1, e2, lD', hP'⟩); subst e1 e2; (replace lD' := allLt_of lD'); (try k_sweep); (try dsimp only))
  k_with "w:call ref" => (k_here; (with_reducible show wpAny _ _ (call (Value.ref 405) [Value.ref _]) _ _ _); k_dflt (refine' Spec.use (parts_fix _ ?e0p ?e1p ?e2p ?e3p ?e4p ?e5p) ?qB7 ?qF7 ?qX7 ?qXP7 ?qN7 ?qT7 ?qK7 ?qhd7 ?qhu7 ?_ ?qx7; (case qN7 => k_asm); (k_extra "m:use"); (case e0p => k_mem); (case e1p => k_mem); (case e2p => k_mem); (case e3p => first | assumption | omega); (case e4p => k_extra "m:nodel"); (case e5p => k_extra "m:nodesl"); (case qx7 => k_extra "m:noX")); (rintro _ _ h' tk' F' N' ⟨D', pvs', pn', e1, e2, lD', hP'⟩); subst e1 e2; (replace lD' := allLt_of lD'); (try k_sweep); (try dsimp only))
  k_with "w:call ref" => ((dsimp only [List.cons_append, List.nil_append]); k_extra "w:call ref")
  k_with "w:ite" => first | (with_reducible refine PySem.W.ite_neg (by decide) ?_) | (with_reducible refine PySem.W.ite_pos (by decide) ?_)
  trivial
theorem u_fineSrc {prog : Program} {w : World} {A : Around} {h₀ : Heap} {L : Addr} {m : Str → Option Value} {s : Shared} {env : Env} {elt : PySem.Expr} {y : Str} {scope : Scope} {cl : List (Str × Addr)} {Fin : Shared → List Value → List (Addr × Obj) → Prop}
    {d : Nat} {ts : List Nd} {ks ms ls : List Int} {top : Bool} {mt lb pl : Addr} {R : List (Addr × Obj)} {om ol : Obj} {pvs : List Value} {pn : Nat} (hh : A.handled = none) (F : Fr h₀ L s.heap m) (N : News h₀ L s.heap ((mt, om) :: (lb, ol) :: R)) (hpl : (pl, listOf pvs.toArray pn) ∈ R) (hz : pvs.length ≤ 50000) (hT : NodesIn w.params R pvs ts) (hm : LO om ms) (hl : LO ol ls) (hne : NeA mt lb) (h1 : ∀ p ∈ R, p.1 ≠ mt) (h2 : ∀ p ∈ R, p.1 ≠ lb)
    (turn : ∀ (i : Nat) (v : Value) (T : Nd) om₁ ol₁ ms₁ ls₁ I oI C oC D ys m₂ h tk (E' : Value → Shared → Prop), pvs[i]? = some v → ts[i]? = some T → NodeIn w.params R v T → LO om₁ ms₁ → LO ol₁ ls₁ → ms₁.length + wt T ≤ ms.length + wts ts → ls₁.length + wt T ≤ ls.length + wts ts → LCg.NsObj oC m₂ → m₂ y = some v → Fr h₀ L h m →
      News h₀ L h ((mt, om₁) :: (lb, ol₁) :: (I, oI) :: (C, oC) :: (D, LCg.lst ys) :: R) → (∀ p ∈ (I, oI) :: (C, oC) :: (D, LCg.lst ys) :: R, p.1 ≠ mt) → (∀ p ∈ (I, oI) :: (C, oC) :: (D, LCg.lst ys) :: R, p.1 ≠ lb) →
      wpAny (model prog w) A (eval elt (compEnvC scope cl C env)) (FTurn h₀ L m { s with heap := h, toks := tk } d T ks top ms₁ ls₁ mt lb ((I, oI) :: (C, oC) :: (D, LCg.lst ys) :: R)) E' { s with heap := h, toks := tk })
    (fin : ∀ (g : Heap) ys news, FineJ d ts ks top ms ls mt lb R ts.length ys news → Fin { s with heap := g } ys news) : LCg.CompSrc prog w A h₀ L m env elt y scope cl Fin (.ref pl) s := by
  refine LCg.CompSrc.ledger hh F N (.tail _ (.tail _ hpl)) (by rw [sizeLine_eq, List.size_toArray]; omega) fun g => ?_
  rw [show pvs.toArray.size = ts.length from (List.size_toArray).trans hT.1]
  exact fine_comp (s := { s with heap := g }) hT (fun news h => .inr ⟨_, h _ hpl, rfl, _, rfl⟩) hm hl hne h1 h2 (fun i v T om₁ ol₁ ms₁ ls₁ I oI C oC D ys m₂ h tk E' => turn i v T om₁ ol₁ ms₁ ls₁ I oI C oC D ys m₂ h tk E') (fin g)
theorem IntsAt.mono {R R' : List (Addr × Obj)} {a : Addr} {ns : List Int} (h : IntsAt R a ns) (s : ∀ p ∈ R, p ∈ R') : IntsAt R' a ns := let ⟨vs, n, hm, hi⟩ := h; ⟨vs, n, s _ hm, hi⟩
theorem wt_le_of_mem {ts : List Nd} {T : Nd} (h : T ∈ ts) : wt T ≤ wts ts := by
  induction ts with
  | nil => cases h
  | cons t r ih =>
    show wt T ≤ wt t + wts r
    rcases List.mem_cons.mp h with rfl | h
    · omega
    · have := ih h; omega
/-- the last statement of the law's walk: the node's parts -/
noncomputable def TailR (d : Nat) (ts : List Nd) (ks : List Int) (top : Bool) (ms ls : List Int) (om' ol' : Obj) (b : Bool) : Prop :=
  ∃ ms' ls', LO om' ms' ∧ LO ol' ls' ∧ ms'.length ≤ ms.length + wts ts ∧ ls'.length ≤ ls.length + wts ts ∧
    ((runs (fun u s => fine primOk d u ks top s) ts (ms, ls) = some (ms', ls') ∧ b = true) ∨ (runs (fun u s => fine primOk d u ks top s) ts (ms, ls) = none ∧ b = false))
set_option maxHeartbeats 1000000 in
theorem fine_tail (w : World) {d : Nat} (hF : FineS w d) {dp un : Nat} {gd : Option (List Code)} {cn : Str} {cs : Scope} {L a : Addr} {ccd : Value} {cl : List (Str × Addr)} {outer : List Env} {base g : Heap} {L' : Nat} {m : Str → Option Value} {s : Shared}
    {Q : Flow → Shared → Prop} {E : Value → Shared → Prop} {p : Program} {loose : List Str} {mean : ExcName → Option Value} {mg mb : Str → Option Value} {mt lb pl il : Addr} {om ol o1 o2 o3 o4 o5 : Obj} {kd : Int} {tk4 : Tok} {ms ls ks : List Int} {top : Bool} {R : List (Addr × Obj)} {pvs : List Value} {ts : List Nd} {pn : Nat}
    (B' : Below (ktrTop dp un gd cn cs L a ccd cl outer) base (envX cn cs L a ccd cl :: outer) g) (F' : Fr g L' s.heap m) (X' : (KK w.params).In g) (XP' : Prims g) (T' : Top p loose mean mg mb g) (hk : cs.kind = .function) (hd : dp + (dmF d + 10) < recursionLimit) (hu : un + (umF d + 100) < cLine)
    (N' : News g L' s.heap ((mt, om) :: (lb, ol) :: (L' + 1 + 1 + 1 + 1 + 1, o1) :: (L' + 1 + 1 + 1 + 1, o2) :: (L' + 1 + 1 + 1, o3) :: (L' + 1 + 1, o4) :: (L' + 1, o5) :: R))
    (d1 : o1.data = .cell (some (.ref il))) (d2 : o2.data = .cell (some (.int kd tk4))) (d3 : o3.data = .cell (some (.bool top))) (d4 : o4.data = .cell (some (.ref lb))) (d5 : o5.data = .cell (some (.ref mt)))
    (hmv : m (Str.ofString "_law_parts") = some (.ref pl)) (hpl : (pl, listOf pvs.toArray pn) ∈ R) (hT : NodesIn w.params R pvs ts) (hz : pvs.length ≤ 50000) (hil : IntsAt R il ks) (hm : LO om ms) (hl : LO ol ls) (hne : NeA mt lb)
    (h1 : ∀ p ∈ (L' + 1 + 1 + 1 + 1 + 1, o1) :: (L' + 1 + 1 + 1 + 1, o2) :: (L' + 1 + 1 + 1, o3) :: (L' + 1 + 1, o4) :: (L' + 1, o5) :: R, p.1 ≠ mt) (h2 : ∀ p ∈ (L' + 1 + 1 + 1 + 1 + 1, o1) :: (L' + 1 + 1 + 1 + 1, o2) :: (L' + 1 + 1 + 1, o3) :: (L' + 1 + 1, o4) :: (L' + 1, o5) :: R, p.1 ≠ lb)
    (hdp : ∀ t ∈ ts, dpt t ≤ d) (z1 : ms.length + wts ts ≤ 20000) (z2 : ls.length + wts ts ≤ 20000) (z3 : ks.length + wts ts ≤ 20000)
    (fin : ∀ om' ol' b h' tk', Fr g L' h' m → News g L' h' ((mt, om') :: (lb, ol') :: R) → TailR d ts ks (top && decide (kd = 9)) ms ls om' ol' b → Q (.ret (.bool b)) { s with heap := h', toks := tk' }) :
    wpAny (model lw.row.prog w) ((ktrTop dp un gd cn cs L a ccd cl outer).deeper (envOfC (Str.ofString "_law_is_fine") (fScope (stAt 56)) L' 816 (.ref 815))) (execs ((fBody (stAt 56)).drop 7) (envOfC (Str.ofString "_law_is_fine") (fScope (stAt 56)) L' 816 (.ref 815))) Q E s := by
  revert X'
  k_fill
  intro X'
  have kdF : KdF (fScope (stAt 56)) := by (unfold KdF; kernel_rfl!)
  have kd0 : KdL (fScope (stAt 56)) (Str.ofString "_law_node") := ⟨by kernel_rfl!, by kernel_rfl!⟩
  have kd1 : KdL (fScope (stAt 56)) (Str.ofString "_law_known") := ⟨by kernel_rfl!, by kernel_rfl!⟩
  have kd2 : KdC (fScope (stAt 56)) L' (Str.ofString "_law_met") (L' + 1) := ⟨by kernel_rfl!, by kernel_rfl!, by kernel_rfl!⟩
  have kd3 : KdC (fScope (stAt 56)) L' (Str.ofString "_law_labels") (L' + 1 + 1) := ⟨by kernel_rfl!, by kernel_rfl!, by kernel_rfl!⟩
  have kd4 : KdC (fScope (stAt 56)) L' (Str.ofString "_law_is_top") (L' + 1 + 1 + 1) := ⟨by kernel_rfl!, by kernel_rfl!, by kernel_rfl!⟩
  have kd5 : KdC (fScope (stAt 56)) L' (Str.ofString "_law_kind") (L' + 1 + 1 + 1 + 1) := ⟨by kernel_rfl!, by kernel_rfl!, by kernel_rfl!⟩
  have kd6 : KdC (fScope (stAt 56)) L' (Str.ofString "_law_inner") (L' + 1 + 1 + 1 + 1 + 1) := ⟨by kernel_rfl!, by kernel_rfl!, by kernel_rfl!⟩
  have kd7 : KdL (fScope (stAt 56)) (Str.ofString "_law_parts") := ⟨by kernel_rfl!, by kernel_rfl!⟩
  have kd8 : KdL (fScope (stAt 56)) (Str.ofString "_law_own") := ⟨by kernel_rfl!, by kernel_rfl!⟩
  have kd9 : KdG (fScope (stAt 56)) (Str.ofString "LOCAL") := ⟨by kernel_rfl!, by kernel_rfl!⟩
  have kd10 : KdG (fScope (stAt 56)) (Str.ofString "SET_LOCAL") := ⟨by kernel_rfl!, by kernel_rfl!⟩
  have kd11 : KdG (fScope (stAt 56)) (Str.ofString "DEFINE") := ⟨by kernel_rfl!, by kernel_rfl!⟩
  have kd12 : KdG (fScope (stAt 56)) (Str.ofString "SEQ") := ⟨by kernel_rfl!, by kernel_rfl!⟩
  have kd13 : KdG (fScope (stAt 56)) (Str.ofString "PRIM") := ⟨by kernel_rfl!, by kernel_rfl!⟩
  have kd14 : KdG (fScope (stAt 56)) (Str.ofString "_law_is_prim") := ⟨by kernel_rfl!, by kernel_rfl!⟩
  have kd15 : KdG (fScope (stAt 56)) (Str.ofString "GLOBAL") := ⟨by kernel_rfl!, by kernel_rfl!⟩
  have kd16 : KdG (fScope (stAt 56)) (Str.ofString "SET_GLOBAL") := ⟨by kernel_rfl!, by kernel_rfl!⟩
  have kd17 : KdG (fScope (stAt 56)) (Str.ofString "LAMBDA") := ⟨by kernel_rfl!, by kernel_rfl!⟩
  have kd18 : KdG (fScope (stAt 56)) (Str.ofString "_law_once") := ⟨by kernel_rfl!, by kernel_rfl!⟩
  have kd19 : KdG (fScope (stAt 56)) (Str.ofString "FIX") := ⟨by kernel_rfl!, by kernel_rfl!⟩
  have hdm : 40 ≤ dmF d := by unfold dmF; omega
  have hum : 500 ≤ umF d := by unfold umF; omega
  have hd1 : dp + 50 < recursionLimit := by omega
  have hu1 : un + 600 < cLine := by omega
  k_with "w:CompSrc" => (k_dflt (refine' u_fineSrc (R := (L' + 1 + 1 + 1 + 1 + 1, o1) :: (L' + 1 + 1 + 1 + 1, o2) :: (L' + 1 + 1 + 1, o3) :: (L' + 1 + 1, o4) :: (L' + 1, o5) :: R) (ks := ks) (top := tt) (d := d) ?fh1 ?fF1 ?fN1 ?fp1 hz (hT.mono ?fs1) hm hl hne h1 h2 ?_ ?_; (case fh1 => rfl); (case fF1 => k_asm); (case fN1 => k_asm); (case fp1 => k_mem); (case fs1 => k_extra "m:lift")); all_goals first | (intro i v T om₁ ol₁ ms₁ ls₁ I oI C oC D ys m₂ h tk E' hv hTi hnd hm₁ hl₁ b1 b2 hC hx F' N' n1 n2; have hTm := List.mem_of_getElem? hTi; have hTw := wt_le_of_mem hTm; have hnd' := NodeIn.mono (R' := (I, oI) :: (C, oC) :: (D, LCg.lst ys) :: _) hnd (fun p hp => .tail _ (.tail _ (.tail _ hp))); k_sweep) | (intro g0 ys news hJ; obtain ⟨om', ol', ms', ls', bs, rfl, hm', hl', b1, b2, rfl, hbl, hr⟩ := hJ; rw [List.take_length] at b1 b2 hr; unfold LCg.FinE; intro D' h' tk' F' N' o1'; k_sweep; (try dsimp only)))
  k_with "w:call ref" => (k_here; (with_reducible show wpAny _ _ (call (Value.ref 816) [_, Value.ref _, Value.ref _, Value.ref _, Value.bool _]) _ _ _); k_dflt (refine' Spec.use (hF hnd' ?gd1 ?gk1 hm₁ hl₁ hne n1 n2 ?gz1 ?gz2 ?gz3) ?qB7 ?qF7 ?qX7 ?qXP7 ?qN7 ?qT7 ?qK7 ?qhd7 ?qhu7 ?_ ?qx7; (case qN7 => k_asm); (k_extra "m:use"); (case gd1 => exact hdp _ hTm); (case gk1 => exact hil.mono (by k_extra "m:lift")); (case gz1 => omega); (case gz2 => omega); (case gz3 => omega); (case qx7 => k_extra "m:noX")); intro r' news' h' tk' F' N' hR'; (try k_sweep); (try dsimp only))
  k_with "w:FTurn" => exact ⟨_, _, _, rfl, by k_asm, by k_asm, by rw [htt]; exact hR'⟩
  k_with "w:compareOp NotIn bool ref" => (k_dflt (refine' u_notinB ?bN1 ?bm1 ?_; (case bN1 => k_asm); (case bm1 => exact List.Mem.head _); k_whole))
  obtain ⟨tt, htt⟩ : ∃ tt, tt = (top && decide (kd = 9)) := ⟨_, rfl⟩
  rw [← htt] at fin
  rcases top with _ | _
  all_goals k_steps
  all_goals (refine fin om' ol' _ _ _ (by k_asm) (newsSub (by k_asm) (by k_extra "m:subX")) ⟨ms', ls', hm', hl', b1, b2, ?_⟩)
  all_goals (rcases hr with ⟨q9, n9⟩ | ⟨q9, n9⟩; exact .inl ⟨q9, by simp [n9]⟩; exact .inr ⟨q9, by simp [n9]⟩)
theorem wt_kids (T : Nd) : wts (kids T) + 1 ≤ wt T := by
  cases T <;> (simp only [kids, wt, wts, wts_append]; omega)
theorem dpt_kids {T : Nd} {d : Nat} (h : dpt T ≤ d + 1) : ∀ t ∈ kids T, dpt t ≤ d := by
  have key : ∀ {l : List Nd}, dpts l ≤ d → ∀ t ∈ l, dpt t ≤ d := fun hl t ht => Nat.le_trans (dpts_mem ht) hl
  have one : ∀ {u : Nd}, dpt u ≤ d → ∀ t ∈ [u], dpt t ≤ d := fun hu t ht => by rw [List.mem_singleton.mp ht]; exact hu
  cases T with
  | const => exact fun t ht => absurd ht List.not_mem_nil
  | loc => exact fun t ht => absurd ht List.not_mem_nil
  | glob => exact fun t ht => absurd ht List.not_mem_nil
  | setL k u => simp only [dpt] at h; exact one (by omega)
  | setG k u => simp only [dpt] at h; exact one (by omega)
  | defn k u => simp only [dpt] at h; exact one (by omega)
  | lam a b c u => simp only [dpt] at h; exact one (by omega)
  | iff a b c => simp only [dpt] at h; exact List.forall_mem_cons.mpr ⟨by omega, List.forall_mem_cons.mpr ⟨by omega, one (by omega)⟩⟩
  | call f as => simp only [dpt] at h; exact List.forall_mem_cons.mpr ⟨by omega, key (by omega)⟩
  | seq ts => simp only [dpt] at h; exact key (by show dpts ts ≤ d; omega)
  | prim op ts => simp only [dpt] at h; exact key (by show dpts ts ≤ d; omega)
  | fix ns ls b => simp only [dpt] at h; exact List.forall_mem_append.mpr ⟨key (by omega), one (by omega)⟩
theorem len_le_wts : ∀ ts : List Nd, ts.length ≤ wts ts
  | [] => Nat.le_refl _
  | t :: r => by
    have := len_le_wts r
    have := wt_pos t
    show r.length + 1 ≤ wt t + wts r
    omega
/-- from the parts' answer to the node's -/
theorem fineR_tail {d : Nat} {T : Nd} {ks ks' ms ls ms₁ ls₁ : List Int} {top tt b : Bool} {om' ol' : Obj} {mt lb : Addr} {R : List (Addr × Obj)} (h : hdF primOk T ks top (ms, ls) = some (ks', ms₁, ls₁)) (ht : (top && isSeq T) = tt) (hT : TailR d (kids T) ks' tt ms₁ ls₁ om' ol' b)
    (h1 : ms₁.length + wts (kids T) ≤ ms.length + wt T) (h2 : ls₁.length + wts (kids T) ≤ ls.length + wt T) : FineR (d + 1) T ks top ms ls mt lb R (.bool b) ((mt, om') :: (lb, ol') :: R) := by
  obtain ⟨ms', ls', hm, hl, b1, b2, hr⟩ := hT
  have e : fine primOk (d + 1) T ks top (ms, ls) = runs (fun u s => fine primOk d u ks' tt s) (kids T) (ms₁, ls₁) := by
    show (hdF primOk T ks top (ms, ls)).bind _ = _
    rw [h, ← ht]; rfl
  refine ⟨om', ol', ms', ls', rfl, hm, hl, by omega, by omega, ?_⟩
  rcases hr with ⟨q, rfl⟩ | ⟨q, rfl⟩
  · exact .inl ⟨e.trans q, rfl⟩
  · exact .inr ⟨e.trans q, rfl⟩
theorem fineR_none {d : Nat} {T : Nd} {ks ms ls ms₁ ls₁ : List Int} {top : Bool} {om' ol' : Obj} {mt lb : Addr} {R : List (Addr × Obj)} (h : hdF primOk T ks top (ms, ls) = none) (hm : LO om' ms₁) (hl : LO ol' ls₁)
    (h1 : ms₁.length ≤ ms.length + wt T) (h2 : ls₁.length ≤ ls.length + wt T) : FineR (d + 1) T ks top ms ls mt lb R (.bool false) ((mt, om') :: (lb, ol') :: R) :=
  ⟨om', ol', ms₁, ls₁, rfl, hm, hl, h1, h2, .inr ⟨by show (hdF primOk T ks top (ms, ls)).bind _ = _; rw [h]; rfl, rfl⟩⟩
section
variable {prog : Program} {w : World} {A : Around} {E : Value → Shared → Prop} {s : Shared} {h₀ : Heap} {L l D : Addr} {vs : List Value} {ns : List Int} {n n2 : Nat} {k : Int} {t : Tok} {news : List (Addr × Obj)} {Q : Value → Shared → Prop}
theorem any_mem (ns : List Int) (k : Int) : ns.any (· == k) = decide (k ∈ ns) := by
  rw [Bool.eq_iff_iff, List.any_eq_true, decide_eq_true_eq]
  exact ⟨fun ⟨x, hx, e⟩ => by rw [← eq_of_beq e]; exact hx, fun hx => ⟨k, hx, beq_self_eq_true k⟩⟩
theorem u_inT (N : News h₀ L s.heap news) (hm : (l, listOf vs.toArray n) ∈ news) (hi : IntsAre vs ns) (hk : k ∈ ns) (h : Q (.bool true) s) : wpAny (model prog w) A (compareOp .In (.int k t) (.ref l)) Q E s :=
  in_list_ints (is_list_at N hm) hi (by rw [any_mem, decide_eq_true hk]; exact h)
theorem u_inF (N : News h₀ L s.heap news) (hm : (l, listOf vs.toArray n) ∈ news) (hi : IntsAre vs ns) (hk : ¬ k ∈ ns) (h : Q (.bool false) s) : wpAny (model prog w) A (compareOp .In (.int k t) (.ref l)) Q E s :=
  in_list_ints (is_list_at N hm) hi (by rw [any_mem, decide_eq_false hk]; exact h)
theorem u_notT (N : News h₀ L s.heap news) (hm : (l, listOf vs.toArray n) ∈ news) (hi : IntsAre vs ns) (hk : ¬ k ∈ ns) (h : Q (.bool true) s) : wpAny (model prog w) A (compareOp .NotIn (.int k t) (.ref l)) Q E s :=
  notin_list_ints (is_list_at N hm) hi (by rw [any_mem, decide_eq_false hk]; exact h)
theorem u_notF (N : News h₀ L s.heap news) (hm : (l, listOf vs.toArray n) ∈ news) (hi : IntsAre vs ns) (hk : k ∈ ns) (h : Q (.bool false) s) : wpAny (model prog w) A (compareOp .NotIn (.int k t) (.ref l)) Q E s :=
  notin_list_ints (is_list_at N hm) hi (by rw [any_mem, decide_eq_true hk]; exact h)
theorem u_nilV (N : News h₀ L s.heap news) (hm : (l, listOf vs.toArray n) ∈ news) (hD : (D, listOf (List.toArray ([] : List Value)) n2) ∈ news) (hu : A.units < cLine) (h : Q (.bool (decide (vs.length = 0))) s) : wpAny (model prog w) A (compareOp .Eq (.ref l) (.ref D)) Q E s := by
  cases vs with
  | nil => exact P.eq_list (e := fun _ => true) (N _ hm).1 (N _ hD).1 rfl (fun j h1 _ => absurd h1 (Nat.not_lt_zero _)) hu h
  | cons v r => exact P.eq_list_lengths (N _ hm).1 (N _ hD).1 rfl hu h
end
theorem fineR_loc {d : Nat} {k : Int} {ks ms ls : List Int} {top b : Bool} {om' ol' : Obj} {mt lb : Addr} {R : List (Addr × Obj)} (h : decide (k ∈ ks) = b) (hm : LO om' ms) (hl : LO ol' ls) : FineR (d + 1) (.loc k) ks top ms ls mt lb R (.bool b) ((mt, om') :: (lb, ol') :: R) := by
  subst h
  refine ⟨om', ol', ms, ls, rfl, hm, hl, by omega, by omega, ?_⟩
  by_cases hk : k ∈ ks
  · refine .inl ⟨?_, by rw [decide_eq_true hk]⟩
    show (hdF primOk (.loc k) ks top (ms, ls)).bind _ = _
    simp only [hdF]
    rw [if_pos hk]; rfl
  · refine .inr ⟨?_, by rw [decide_eq_false hk]⟩
    show (hdF primOk (.loc k) ks top (ms, ls)).bind _ = _
    simp only [hdF]
    rw [if_neg hk]; rfl
theorem own_len (ps : List Int) (r : Int) : (own ps r).length ≤ ps.length + 1 := by
  unfold own
  rw [List.length_append]
  split <;> simp
theorem once_one {ls : List Int} {x : Int} (h : 0 ≤ x) : once ls [x] = if x ∈ ls then none else some (ls ++ [x]) := by
  rw [once_cons]
  by_cases hx : x ∈ ls
  · rw [if_pos (.inr hx), if_pos hx]
  · rw [if_neg (fun q => q.elim (by omega) hx), if_neg hx]; rfl
theorem lam_some {ok : Int → Nat → Bool} {lx r : Int} {ps ks ms ls ms' ls' : List Int} {U : Nd} {top : Bool} (h : 0 ≤ lx) (h1 : once ls [lx] = some ls') (h2 : once ms (own ps r) = some ms') : hdF ok (.lam lx ps r U) ks top (ms, ls) = some (ks ++ own ps r, ms', ls') := by
  rw [once_one h] at h1
  simp only [hdF]
  by_cases hx : lx ∈ ls
  · rw [if_pos hx] at h1; cases h1
  · rw [if_neg hx] at h1
    cases h1
    rw [if_neg hx, h2]; rfl
theorem lam_none1 {ok : Int → Nat → Bool} {lx r : Int} {ps ks ms ls : List Int} {U : Nd} {top : Bool} (h : 0 ≤ lx) (h1 : once ls [lx] = none) : hdF ok (.lam lx ps r U) ks top (ms, ls) = none := by
  rw [once_one h] at h1
  simp only [hdF]
  by_cases hx : lx ∈ ls
  · rw [if_pos hx]
  · rw [if_neg hx] at h1; cases h1
theorem lam_none2 {ok : Int → Nat → Bool} {lx r : Int} {ps ks ms ls : List Int} {U : Nd} {top : Bool} (h2 : once ms (own ps r) = none) : hdF ok (.lam lx ps r U) ks top (ms, ls) = none := by
  simp only [hdF]
  split
  · rfl
  · rw [h2]; rfl
theorem own_split (ps : List Int) (r : Int) : ∃ q, ps ++ q = own ps r ∧ ((0 ≤ r ∧ q = [r]) ∨ (r < 0 ∧ q = [])) := by
  unfold own
  by_cases h : 0 ≤ r
  · rw [if_pos h]; exact ⟨_, rfl, .inl ⟨h, rfl⟩⟩
  · rw [if_neg h]; exact ⟨_, rfl, .inr ⟨by omega, rfl⟩⟩
/-! a comprehension that sorts a node's parts out -/
noncomputable def FEnd (h₀ : Heap) (L : Addr) (m : Str → Option Value) (s : Shared) (all : List (Addr × Obj)) (P : Value → Prop) (y : Value) (s' : Shared) : Prop := ∃ h' tk', s' = { s with heap := h', toks := tk' } ∧ Fr h₀ L h' m ∧ News h₀ L h' all ∧ P y
theorem u_filt {prog : Program} {w : World} {A : Around} {h₀ : Heap} {L : Addr} {m : Str → Option Value} {s : Shared} {env : Env} {ct elt : PySem.Expr} {y : Str} {scope : Scope} {cl : List (Str × Addr)} {Fin : Shared → List Value → List (Addr × Obj) → Prop}
    {pl : Addr} {pvs : List Value} {pn : Nat} {ts : List Nd} {R news : List (Addr × Obj)} (hh : A.handled = none) (F : Fr h₀ L s.heap m) (N : News h₀ L s.heap news) (hpl : (pl, listOf pvs.toArray pn) ∈ news) (hz : pvs.length ≤ 50000) (hT : NodesIn w.params R pvs ts)
    (turn : ∀ v T I oI C oC D ys m₂ h tk (E' : Value → Shared → Prop), NodeIn w.params R v T → LCg.NsObj oC m₂ → m₂ y = some v → Fr h₀ L h m → News h₀ L h ((I, oI) :: (C, oC) :: (D, LCg.lst ys) :: news) →
      wpAny (model prog w) A (PySem.isTrue ct (compEnvC scope cl C env) (eval ct (compEnvC scope cl C env))) (fun ok s' => if ok = true then
        wpAny (model prog w) A (eval elt (compEnvC scope cl C env)) (FEnd h₀ L m { s with heap := h, toks := tk } ((I, oI) :: (C, oC) :: (D, LCg.lst ys) :: news) (fun v => isL T = false ∧ ∃ k t, v = .int k t)) E' s'
        else FEnd h₀ L m { s with heap := h, toks := tk } ((I, oI) :: (C, oC) :: (D, LCg.lst ys) :: news) (fun _ => isL T = true) Value.none s') E' { s with heap := h, toks := tk })
    (fin : ∀ (g : Heap) ys ns, IntsAre ys ns → (ns = [] ↔ ∀ t ∈ ts, isL t = true) → ns.length ≤ ts.length → Fin { s with heap := g } ys news) : LCt.CompSrcT prog w A h₀ L m env ct elt y scope cl Fin (.ref pl) s := by
  refine LCt.CompSrcT.ledger hh F N hpl (by rw [sizeLine_eq, List.size_toArray]; omega) fun g => ?_
  rw [show pvs.toArray.size = ts.length from (List.size_toArray).trans hT.1]
  have key : ∀ (j i : Nat) (ys : List Value) (ns : List Int), i + j = ts.length → IntsAre ys ns → (ns = [] ↔ ∀ t ∈ ts.take i, isL t = true) → ns.length ≤ i →
      LCt.CompRestT prog w A h₀ L m env ct elt y scope cl { s with heap := g } (LCg.SrcAt h₀ pl pvs.toArray) (fun i v => pvs.toArray[i]? = some v) (Fin { s with heap := g }) j i ys news := by
    intro j
    induction j with
    | zero =>
      intro i ys ns hi hy hb hl
      have e : i = ts.length := by omega
      subst e
      rw [List.take_length] at hb
      exact LCt.CompRestT.zero (fin g ys ns hy hb hl)
    | succ j ih =>
      intro i ys ns hi hy hb hl
      refine LCt.CompRestT.succ fun v I oI C oC D m₂ h tk E' hv hC hx F N off ne => ?_
      have hv' : pvs[i]? = some v := by simpa using hv
      have hil : i < ts.length := by omega
      have hTi : ts[i]? = some ts[i] := List.getElem?_eq_getElem hil
      have ht : ts.take (i + 1) = ts.take i ++ [ts[i]] := by rw [List.take_add_one, hTi]; rfl
      have hall : ∀ q ∈ news, q ∈ (I, oI) :: (C, oC) :: (D, LCg.lst ys) :: news := fun q hq => .tail _ (.tail _ (.tail _ hq))
      refine wpAny_mono (turn v ts[i] I oI C oC D ys m₂ h tk E' (hT.2 i v _ hv' hTi) hC hx F N) (fun ok s₂ hq => ?_) fun _ _ e => e
      have hS : LCg.SrcAt h₀ pl pvs.toArray news := .inr ⟨_, hpl, rfl, _, rfl⟩
      cases ok with
      | true =>
        simp only [if_true] at hq ⊢
        refine wpAny_mono hq (fun y' s₃ hr => ?_) fun _ _ e => e
        obtain ⟨h', tk', e, F', N', hL, k, t, hy'⟩ := hr
        refine ⟨h', tk', news, e, F', N', off, hS, ?_⟩
        rw [hy']
        refine ih (i + 1) _ (ns ++ [k]) (by omega) (ints_snoc hy) ?_ (by rw [List.length_append]; simp only [List.length_cons, List.length_nil]; omega)
        rw [ht]
        constructor
        · intro q; simp at q
        · intro q
          have := q ts[i] (List.mem_append_right _ (.head _))
          rw [hL] at this; cases this
      | false =>
        simp only [Bool.false_eq_true, if_false] at hq ⊢
        obtain ⟨h', tk', e, F', N', hL⟩ := hq
        refine ⟨h', tk', news, e, F', N', off, hS, ih (i + 1) _ ns (by omega) hy ?_ (by omega)⟩
        rw [ht, hb]
        constructor
        · intro q t' ht'
          rcases List.mem_append.mp ht' with ht' | ht'
          · exact q t' ht'
          · rw [List.mem_singleton.mp ht']; exact hL
        · exact fun q t' ht' => q t' (List.mem_append_left _ ht')
  exact key ts.length 0 [] [] (by omega) .nil (by simp) (Nat.zero_le _)
noncomputable def kindOf : Nd → Int
  | .const => 0
  | .loc _ => 1
  | .glob _ => 2
  | .setL _ _ => 3
  | .setG _ _ => 4
  | .defn _ _ => 5
  | .iff _ _ _ => 6
  | .lam _ _ _ _ => 7
  | .call _ _ => 8
  | .seq _ => 9
  | .prim _ _ => 10
  | .fix _ _ _ => 11
theorem kind_isL {T : Nd} (h : kindOf T = 7) : isL T = true := by cases T <;> first | rfl | (exact nomatch h) | (simp [kindOf] at h)
theorem kind_notL {T : Nd} (h : kindOf T ≠ 7) : isL T = false := by cases T <;> first | rfl | (exact nomatch h) | (simp [kindOf] at h)
section
variable {ok : Int → Nat → Bool} {ns ks ms ls ms' : List Int} {ts : List Nd} {U : Nd} {top : Bool}
theorem fix_none1 (h : ¬ ns.length = ts.length) : hdF ok (.fix ns ts U) ks top (ms, ls) = none := by simp only [hdF]; exact if_pos (.inl (.inl h))
theorem fix_none2 (h : ¬ ∀ t ∈ ts, isL t = true) : hdF ok (.fix ns ts U) ks top (ms, ls) = none := by
  simp only [hdF]
  refine if_pos (.inr (Classical.byContradiction fun q => h fun t ht => ?_))
  cases e : isL t with
  | true => rfl
  | false => exact absurd ⟨t, ht, e⟩ q
theorem fix_none3 (h : ns.length = 0) : hdF ok (.fix ns ts U) ks top (ms, ls) = none := by simp only [hdF]; exact if_pos (.inl (.inr h))
theorem fix_none4 (h : once ms ns = none) : hdF ok (.fix ns ts U) ks top (ms, ls) = none := by
  simp only [hdF]
  split
  · rfl
  · rw [h]; rfl
theorem fix_some (h1 : ns.length = ts.length) (h2 : ¬ ns.length = 0) (h3 : ∀ t ∈ ts, isL t = true) (h4 : once ms ns = some ms') : hdF ok (.fix ns ts U) ks top (ms, ls) = some (ks ++ ns, ms', ls) := by
  simp only [hdF]
  rw [if_neg (fun q => q.elim (fun q => q.elim (fun q => q h1) h2) fun ⟨t, ht, e⟩ => by rw [h3 t ht] at e; cases e), h4]; rfl
end
theorem setup_22 : True := by
  k_with "w:ite" => first | (with_reducible refine PySem.W.ite_isFalse (by with_reducible assumption) ?_) | (with_reducible refine PySem.W.ite_pos (by with_reducible assumption) ?_)
  k_with "w:compareOp In int ref" => (k_here; (with_reducible show wpAny _ _ (compareOp CmpOp.In (Value.int _ _) (Value.ref _)) _ _ _); k_dflt (refine' u_inT ?iN ?im ?ii ?ik ?_; (case ik => with_reducible assumption); (case iN => k_asm); (case im => k_mem); (case ii => with_reducible assumption); k_whole))
  k_with "w:compareOp In int ref" => (k_here; (with_reducible show wpAny _ _ (compareOp CmpOp.In (Value.int _ _) (Value.ref _)) _ _ _); k_dflt (refine' u_inF ?iN ?im ?ii ?ik ?_; (case ik => with_reducible assumption); (case iN => k_asm); (case im => k_mem); (case ii => with_reducible assumption); k_whole))
  k_with "w:compareOp NotIn int ref" => (k_here; (with_reducible show wpAny _ _ (compareOp CmpOp.NotIn (Value.int _ _) (Value.ref _)) _ _ _); k_dflt (refine' u_notT ?iN ?im ?ii ?ik ?_; (case ik => with_reducible assumption); (case iN => k_asm); (case im => k_mem); (case ii => with_reducible assumption); k_whole))
  k_with "w:compareOp NotIn int ref" => (k_here; (with_reducible show wpAny _ _ (compareOp CmpOp.NotIn (Value.int _ _) (Value.ref _)) _ _ _); k_dflt (refine' u_notF ?iN ?im ?ii ?ik ?_; (case ik => with_reducible assumption); (case iN => k_asm); (case im => k_mem); (case ii => with_reducible assumption); k_whole))
  k_with "w:compareOp Eq ref ref" => (k_here; (with_reducible show wpAny _ _ (compareOp CmpOp.Eq (Value.ref _) (Value.ref _)) _ _ _); k_dflt (refine' u_nilV ?iN ?im ?iD ?iu ?_; (case iN => k_asm); (case im => k_mem); (case iD => k_mem); (case iu => k_extra "m:units"); k_whole))
  trivial
/-! statements of the law's walk that do not ask a kind -/
noncomputable abbrev fEnv (L' : Nat) : Env := envOfC (Str.ofString "_law_is_fine") (fScope (stAt 56)) L' 816 (.ref 815)
section
variable {w : World} {dp un : Nat} {gd : Option (List Code)} {cn : Str} {cs : Scope} {L a : Addr} {ccd : Value} {cl : List (Str × Addr)} {outer : List Env} {base g : Heap} {L' : Nat} {m : Str → Option Value} {s : Shared}
    {Q : Flow → Shared → Prop} {E : Value → Shared → Prop} {p : Program} {loose : List Str} {mean : ExcName → Option Value} {mg mb : Str → Option Value} {o2 : Obj} {kd : Int} {tk4 : Tok} {news : List (Addr × Obj)}
set_option maxHeartbeats 600000 in
theorem skip5 (B' : Below (ktrTop dp un gd cn cs L a ccd cl outer) base (envX cn cs L a ccd cl :: outer) g) (F' : Fr g L' s.heap m) (X' : (KK w.params).In g) (XP' : Prims g) (T' : Top p loose mean mg mb g)
    (N' : News g L' s.heap news) (hm2 : (L' + 1 + 1 + 1 + 1, o2) ∈ news) (d2 : o2.data = .cell (some (.int kd tk4))) (hd : dp + 20 < recursionLimit) (hu : un + 200 < cLine) (k7 : (kd == 7) = false)
    (next : ∀ h' tk', Fr g L' h' m → News g L' h' news → wpAny (model lw.row.prog w) ((ktrTop dp un gd cn cs L a ccd cl outer).deeper (fEnv L')) (execs ((fBody (stAt 56)).drop 6) (fEnv L')) Q E { s with heap := h', toks := tk' }) :
    wpAny (model lw.row.prog w) ((ktrTop dp un gd cn cs L a ccd cl outer).deeper (fEnv L')) (execs ((fBody (stAt 56)).drop 5) (fEnv L')) Q E s := by
  revert X'
  k_fill
  intro X'
  have kdF : KdF (fScope (stAt 56)) := by (unfold KdF; kernel_rfl!)
  have kd0 : KdC (fScope (stAt 56)) L' (Str.ofString "_law_kind") (L' + 1 + 1 + 1 + 1) := ⟨by kernel_rfl!, by kernel_rfl!, by kernel_rfl!⟩
  have kd1 : KdG (fScope (stAt 56)) (Str.ofString "LOCAL") := ⟨by kernel_rfl!, by kernel_rfl!⟩
  have kd2 : KdG (fScope (stAt 56)) (Str.ofString "SET_LOCAL") := ⟨by kernel_rfl!, by kernel_rfl!⟩
  have kd3 : KdG (fScope (stAt 56)) (Str.ofString "DEFINE") := ⟨by kernel_rfl!, by kernel_rfl!⟩
  have kd4 : KdG (fScope (stAt 56)) (Str.ofString "SEQ") := ⟨by kernel_rfl!, by kernel_rfl!⟩
  have kd5 : KdG (fScope (stAt 56)) (Str.ofString "PRIM") := ⟨by kernel_rfl!, by kernel_rfl!⟩
  have kd6 : KdG (fScope (stAt 56)) (Str.ofString "GLOBAL") := ⟨by kernel_rfl!, by kernel_rfl!⟩
  have kd7 : KdG (fScope (stAt 56)) (Str.ofString "SET_GLOBAL") := ⟨by kernel_rfl!, by kernel_rfl!⟩
  have kd8 : KdG (fScope (stAt 56)) (Str.ofString "LAMBDA") := ⟨by kernel_rfl!, by kernel_rfl!⟩
  have kd9 : KdG (fScope (stAt 56)) (Str.ofString "FIX") := ⟨by kernel_rfl!, by kernel_rfl!⟩
  k_with "w:execs cons" => ((with_reducible show wpAny _ _ (execs (Stmt.If (Expr.Compare _ _ [Expr.Name (Str.ofString "FIX") _] _) _ _ _ :: _) _) _ _ _); k_dflt (refine' next _ _ ?nxF ?nxN; (case nxF => k_asm); (case nxN => first | k_asm | (refine' newsSub ?nxA ?nxB; (case nxA => k_asm); (case nxB => k_extra "m:subX")))))
  k_steps
set_option maxHeartbeats 600000 in
theorem skip6 (B' : Below (ktrTop dp un gd cn cs L a ccd cl outer) base (envX cn cs L a ccd cl :: outer) g) (F' : Fr g L' s.heap m) (X' : (KK w.params).In g) (XP' : Prims g) (T' : Top p loose mean mg mb g)
    (N' : News g L' s.heap news) (hm2 : (L' + 1 + 1 + 1 + 1, o2) ∈ news) (d2 : o2.data = .cell (some (.int kd tk4))) (hd : dp + 20 < recursionLimit) (hu : un + 200 < cLine) (k11 : (kd == 11) = false)
    (next : ∀ h' tk', Fr g L' h' m → News g L' h' news → wpAny (model lw.row.prog w) ((ktrTop dp un gd cn cs L a ccd cl outer).deeper (fEnv L')) (execs ((fBody (stAt 56)).drop 7) (fEnv L')) Q E { s with heap := h', toks := tk' }) :
    wpAny (model lw.row.prog w) ((ktrTop dp un gd cn cs L a ccd cl outer).deeper (fEnv L')) (execs ((fBody (stAt 56)).drop 6) (fEnv L')) Q E s := by
  revert X'
  k_fill
  intro X'
  have kdF : KdF (fScope (stAt 56)) := by (unfold KdF; kernel_rfl!)
  have kd0 : KdC (fScope (stAt 56)) L' (Str.ofString "_law_kind") (L' + 1 + 1 + 1 + 1) := ⟨by kernel_rfl!, by kernel_rfl!, by kernel_rfl!⟩
  have kd1 : KdG (fScope (stAt 56)) (Str.ofString "LOCAL") := ⟨by kernel_rfl!, by kernel_rfl!⟩
  have kd2 : KdG (fScope (stAt 56)) (Str.ofString "SET_LOCAL") := ⟨by kernel_rfl!, by kernel_rfl!⟩
  have kd3 : KdG (fScope (stAt 56)) (Str.ofString "DEFINE") := ⟨by kernel_rfl!, by kernel_rfl!⟩
  have kd4 : KdG (fScope (stAt 56)) (Str.ofString "SEQ") := ⟨by kernel_rfl!, by kernel_rfl!⟩
  have kd5 : KdG (fScope (stAt 56)) (Str.ofString "PRIM") := ⟨by kernel_rfl!, by kernel_rfl!⟩
  have kd6 : KdG (fScope (stAt 56)) (Str.ofString "GLOBAL") := ⟨by kernel_rfl!, by kernel_rfl!⟩
  have kd7 : KdG (fScope (stAt 56)) (Str.ofString "SET_GLOBAL") := ⟨by kernel_rfl!, by kernel_rfl!⟩
  have kd8 : KdG (fScope (stAt 56)) (Str.ofString "LAMBDA") := ⟨by kernel_rfl!, by kernel_rfl!⟩
  have kd9 : KdG (fScope (stAt 56)) (Str.ofString "FIX") := ⟨by kernel_rfl!, by kernel_rfl!⟩
  k_with "w:execs cons" => ((with_reducible show wpAny _ _ (execs (Stmt.Return _ _ :: _) _) _ _ _); k_dflt (refine' next _ _ ?nxF ?nxN; (case nxF => k_asm); (case nxN => first | k_asm | (refine' newsSub ?nxA ?nxB; (case nxA => k_asm); (case nxB => k_extra "m:subX")))))
  k_steps
end
section
variable {w : World} {A : Around} {E : Value → Shared → Prop} {h₀ : Heap} {L : Addr} {m : Str → Option Value} {s : Shared} {news : List (Addr × Obj)} {Q : Value → Shared → Prop}
set_option maxHeartbeats 400000 in
theorem kind_const {x dx : Addr} {t0 : Tok} {v0 : Value} {n : Nat} (h1 : (x, instObj 66 dx) ∈ news) (h2 : (dx, dictOf [fld w.params "value" t0 v0] n) ∈ news) (N : News h₀ L s.heap news) (F : Fr h₀ L s.heap m) (X : (KK w.params).In h₀) (h : ∀ t, Q (.int 0 t) { s with toks := s.toks + 1 }) : wpAny (model lw.row.prog w) A (getAttr (.ref x) (Str.ofString "kind") true) Q E s := by
  revert X
  k_fill
  intro X
  k_steps
  exact h _
set_option maxHeartbeats 400000 in
theorem kind_loc {x dx : Addr} {t0 : Tok} {v0 : Value} {n : Nat} (h1 : (x, instObj 85 dx) ∈ news) (h2 : (dx, dictOf [fld w.params "number" t0 v0] n) ∈ news) (N : News h₀ L s.heap news) (F : Fr h₀ L s.heap m) (X : (KK w.params).In h₀) (h : ∀ t, Q (.int 1 t) { s with toks := s.toks + 1 }) : wpAny (model lw.row.prog w) A (getAttr (.ref x) (Str.ofString "kind") true) Q E s := by
  revert X
  k_fill
  intro X
  k_steps
  exact h _
set_option maxHeartbeats 400000 in
theorem kind_glob {x dx : Addr} {t0 : Tok} {v0 : Value} {n : Nat} (h1 : (x, instObj 104 dx) ∈ news) (h2 : (dx, dictOf [fld w.params "symbol" t0 v0] n) ∈ news) (N : News h₀ L s.heap news) (F : Fr h₀ L s.heap m) (X : (KK w.params).In h₀) (h : ∀ t, Q (.int 2 t) { s with toks := s.toks + 1 }) : wpAny (model lw.row.prog w) A (getAttr (.ref x) (Str.ofString "kind") true) Q E s := by
  revert X
  k_fill
  intro X
  k_steps
  exact h _
set_option maxHeartbeats 400000 in
theorem kind_setL {x dx : Addr} {t0 t1 : Tok} {v0 v1 : Value} {n : Nat} (h1 : (x, instObj 137 dx) ∈ news) (h2 : (dx, dictOf [fld w.params "number" t0 v0, fld w.params "value" t1 v1] n) ∈ news) (N : News h₀ L s.heap news) (F : Fr h₀ L s.heap m) (X : (KK w.params).In h₀) (h : ∀ t, Q (.int 3 t) { s with toks := s.toks + 1 }) : wpAny (model lw.row.prog w) A (getAttr (.ref x) (Str.ofString "kind") true) Q E s := by
  revert X
  k_fill
  intro X
  k_steps
  exact h _
set_option maxHeartbeats 400000 in
theorem kind_setG {x dx : Addr} {t0 t1 : Tok} {v0 v1 : Value} {n : Nat} (h1 : (x, instObj 170 dx) ∈ news) (h2 : (dx, dictOf [fld w.params "symbol" t0 v0, fld w.params "value" t1 v1] n) ∈ news) (N : News h₀ L s.heap news) (F : Fr h₀ L s.heap m) (X : (KK w.params).In h₀) (h : ∀ t, Q (.int 4 t) { s with toks := s.toks + 1 }) : wpAny (model lw.row.prog w) A (getAttr (.ref x) (Str.ofString "kind") true) Q E s := by
  revert X
  k_fill
  intro X
  k_steps
  exact h _
set_option maxHeartbeats 400000 in
theorem kind_defn {x dx : Addr} {t0 t1 : Tok} {v0 v1 : Value} {n : Nat} (h1 : (x, instObj 203 dx) ∈ news) (h2 : (dx, dictOf [fld w.params "symbol" t0 v0, fld w.params "value" t1 v1] n) ∈ news) (N : News h₀ L s.heap news) (F : Fr h₀ L s.heap m) (X : (KK w.params).In h₀) (h : ∀ t, Q (.int 5 t) { s with toks := s.toks + 1 }) : wpAny (model lw.row.prog w) A (getAttr (.ref x) (Str.ofString "kind") true) Q E s := by
  revert X
  k_fill
  intro X
  k_steps
  exact h _
set_option maxHeartbeats 400000 in
theorem kind_iff {x dx : Addr} {t0 t1 t2 : Tok} {v0 v1 v2 : Value} {n : Nat} (h1 : (x, instObj 236 dx) ∈ news) (h2 : (dx, dictOf [fld w.params "test" t0 v0, fld w.params "yes" t1 v1, fld w.params "no" t2 v2] n) ∈ news) (N : News h₀ L s.heap news) (F : Fr h₀ L s.heap m) (X : (KK w.params).In h₀) (h : ∀ t, Q (.int 6 t) { s with toks := s.toks + 1 }) : wpAny (model lw.row.prog w) A (getAttr (.ref x) (Str.ofString "kind") true) Q E s := by
  revert X
  k_fill
  intro X
  k_steps
  exact h _
set_option maxHeartbeats 400000 in
theorem kind_lam {x dx : Addr} {t0 t1 t2 t3 : Tok} {v0 v1 v2 v3 : Value} {n : Nat} (h1 : (x, instObj 283 dx) ∈ news) (h2 : (dx, dictOf [fld w.params "label" t0 v0, fld w.params "params" t1 v1, fld w.params "rest" t2 v2, fld w.params "body" t3 v3] n) ∈ news) (N : News h₀ L s.heap news) (F : Fr h₀ L s.heap m) (X : (KK w.params).In h₀) (h : ∀ t, Q (.int 7 t) { s with toks := s.toks + 1 }) : wpAny (model lw.row.prog w) A (getAttr (.ref x) (Str.ofString "kind") true) Q E s := by
  revert X
  k_fill
  intro X
  k_steps
  exact h _
set_option maxHeartbeats 400000 in
theorem kind_call {x dx : Addr} {t0 t1 : Tok} {v0 v1 : Value} {n : Nat} (h1 : (x, instObj 316 dx) ∈ news) (h2 : (dx, dictOf [fld w.params "operator" t0 v0, fld w.params "operands" t1 v1] n) ∈ news) (N : News h₀ L s.heap news) (F : Fr h₀ L s.heap m) (X : (KK w.params).In h₀) (h : ∀ t, Q (.int 8 t) { s with toks := s.toks + 1 }) : wpAny (model lw.row.prog w) A (getAttr (.ref x) (Str.ofString "kind") true) Q E s := by
  revert X
  k_fill
  intro X
  k_steps
  exact h _
set_option maxHeartbeats 400000 in
theorem kind_seq {x dx : Addr} {t0 : Tok} {v0 : Value} {n : Nat} (h1 : (x, instObj 349 dx) ∈ news) (h2 : (dx, dictOf [fld w.params "items" t0 v0] n) ∈ news) (N : News h₀ L s.heap news) (F : Fr h₀ L s.heap m) (X : (KK w.params).In h₀) (h : ∀ t, Q (.int 9 t) { s with toks := s.toks + 1 }) : wpAny (model lw.row.prog w) A (getAttr (.ref x) (Str.ofString "kind") true) Q E s := by
  revert X
  k_fill
  intro X
  k_steps
  exact h _
set_option maxHeartbeats 400000 in
theorem kind_prim {x dx : Addr} {t0 t1 : Tok} {v0 v1 : Value} {n : Nat} (h1 : (x, instObj 382 dx) ∈ news) (h2 : (dx, dictOf [fld w.params "op" t0 v0, fld w.params "operands" t1 v1] n) ∈ news) (N : News h₀ L s.heap news) (F : Fr h₀ L s.heap m) (X : (KK w.params).In h₀) (h : ∀ t, Q (.int 10 t) { s with toks := s.toks + 1 }) : wpAny (model lw.row.prog w) A (getAttr (.ref x) (Str.ofString "kind") true) Q E s := by
  revert X
  k_fill
  intro X
  k_steps
  exact h _
set_option maxHeartbeats 400000 in
theorem kind_fix {x dx : Addr} {t0 t1 t2 : Tok} {v0 v1 v2 : Value} {n : Nat} (h1 : (x, instObj 415 dx) ∈ news) (h2 : (dx, dictOf [fld w.params "numbers" t0 v0, fld w.params "lambdas" t1 v1, fld w.params "body" t2 v2] n) ∈ news) (N : News h₀ L s.heap news) (F : Fr h₀ L s.heap m) (X : (KK w.params).In h₀) (h : ∀ t, Q (.int 11 t) { s with toks := s.toks + 1 }) : wpAny (model lw.row.prog w) A (getAttr (.ref x) (Str.ofString "kind") true) Q E s := by
  revert X
  k_fill
  intro X
  k_steps
  exact h _
theorem node_kind {R : List (Addr × Obj)} {v : Value} {T : Nd} (hn : NodeIn w.params R v T) (sub : ∀ p ∈ R, p ∈ news) (N : News h₀ L s.heap news) (F : Fr h₀ L s.heap m) (X : (KK w.params).In h₀) (h : ∀ t, Q (.int (kindOf T) t) { s with toks := s.toks + 1 }) : wpAny (model lw.row.prog w) A (getAttr v (Str.ofString "kind") true) Q E s := by
  cases hn with
  | const h1 h2  => exact kind_const (sub _ h1) (sub _ h2) N F X h
  | loc h1 h2  => exact kind_loc (sub _ h1) (sub _ h2) N F X h
  | glob h1 h2  => exact kind_glob (sub _ h1) (sub _ h2) N F X h
  | setL h1 h2 _ => exact kind_setL (sub _ h1) (sub _ h2) N F X h
  | setG h1 h2 _ => exact kind_setG (sub _ h1) (sub _ h2) N F X h
  | defn h1 h2 _ => exact kind_defn (sub _ h1) (sub _ h2) N F X h
  | iff h1 h2 _ _ _ => exact kind_iff (sub _ h1) (sub _ h2) N F X h
  | lam h1 h2 _ _ _ _ => exact kind_lam (sub _ h1) (sub _ h2) N F X h
  | call h1 h2 _ _ _ _ => exact kind_call (sub _ h1) (sub _ h2) N F X h
  | seq h1 h2 _ _ _ => exact kind_seq (sub _ h1) (sub _ h2) N F X h
  | prim h1 h2 _ _ _ => exact kind_prim (sub _ h1) (sub _ h2) N F X h
  | fix h1 h2 _ _ _ _ _ _ => exact kind_fix (sub _ h1) (sub _ h2) N F X h
end
theorem setup_23 : True := by
  k_with "w:execs cons" => ((with_reducible show wpAny _ _ (execs (Stmt.If (Expr.Compare _ _ [Expr.Name (Str.ofString "LAMBDA") _] _) _ _ _ :: _) _) _ _ _); k_dflt (refine' skip5 ?sB ?sF ?sX ?sP ?sT ?sN ?sm ?sd ?shd ?shu ?sk7 ?_;  (case sB => k_asm); (case sF => k_asm); (case sX => k_asm); (case sP => k_asm); (case sT => k_asm); (case sN => k_asm); (case sm => k_mem); (case sd => with_reducible assumption); (case sk7 => decide); (case shd => omega); (case shu => omega)); intro h' tk' F' N'; (try k_sweep); (try dsimp only))
  k_with "w:execs" => ((with_reducible show wpAny _ _ (execs (List.drop 5 (fBody (stAt 56))) _) _ _ _); k_dflt (refine' skip5 ?sB ?sF ?sX ?sP ?sT ?sN ?sm ?sd ?shd ?shu ?sk7 ?_;  (case sB => k_asm); (case sF => k_asm); (case sX => k_asm); (case sP => k_asm); (case sT => k_asm); (case sN => k_asm); (case sm => k_mem); (case sd => with_reducible assumption); (case sk7 => decide); (case shd => omega); (case shu => omega)); intro h' tk' F' N'; (try k_sweep); (try dsimp only))
  k_with "w:execs cons" => ((with_reducible show wpAny _ _ (execs (Stmt.If (Expr.Compare _ _ [Expr.Name (Str.ofString "FIX") _] _) _ _ _ :: _) _) _ _ _); k_dflt (refine' skip6 ?sB ?sF ?sX ?sP ?sT ?sN ?sm ?sd ?shd ?shu ?sk11 ?_;  (case sB => k_asm); (case sF => k_asm); (case sX => k_asm); (case sP => k_asm); (case sT => k_asm); (case sN => k_asm); (case sm => k_mem); (case sd => with_reducible assumption); (case sk11 => decide); (case shd => omega); (case shu => omega)); intro h' tk' F' N'; (try k_sweep); (try dsimp only))
  k_with "w:execs" => ((with_reducible show wpAny _ _ (execs (List.drop 6 (fBody (stAt 56))) _) _ _ _); k_dflt (refine' skip6 ?sB ?sF ?sX ?sP ?sT ?sN ?sm ?sd ?shd ?shu ?sk11 ?_;  (case sB => k_asm); (case sF => k_asm); (case sX => k_asm); (case sP => k_asm); (case sT => k_asm); (case sN => k_asm); (case sm => k_mem); (case sd => with_reducible assumption); (case sk11 => decide); (case shd => omega); (case shu => omega)); intro h' tk' F' N'; (try k_sweep); (try dsimp only))
  k_with "w:getAttr ref" => (k_here; (with_reducible show wpAny _ _ (getAttr (Value.ref _) (Str.ofString "kind") true) _ _ _); k_dflt (refine' node_kind ?ahn ?asu ?aN ?aF ?aX ?_; (case ahn => with_reducible assumption); (case aN => k_asm); (case asu => k_extra "m:subX"); (case aF => k_asm); (case aX => k_asm)); intro tk9; (try dsimp only))
  trivial
/-! attributes of a node that is known by its kind alone -/
noncomputable def numOf : Nd → Int
  | .loc k => k
  | .setL k _ => k
  | _ => 0
noncomputable def symOf : Nd → Int
  | .glob y => y
  | .setG y _ => y
  | .defn y _ => y
  | _ => 0
section
variable {w : World} {A : Around} {E : Value → Shared → Prop} {h₀ : Heap} {L : Addr} {m : Str → Option Value} {s : Shared} {news : List (Addr × Obj)} {Q : Value → Shared → Prop}
set_option maxHeartbeats 400000 in
theorem attr_loc {x dx : Addr} {k0 : Int} {tk0 : Tok} {t0 : Tok}  {n : Nat} (h1 : (x, instObj 85 dx) ∈ news) (h2 : (dx, dictOf [fld w.params "number" t0 (.int k0 tk0)] n) ∈ news) (N : News h₀ L s.heap news) (F : Fr h₀ L s.heap m) (X : (KK w.params).In h₀) (h : Q (.int k0 tk0) { s with toks := s.toks + 1 }) : wpAny (model lw.row.prog w) A (getAttr (.ref x) (Str.ofString "number") true) Q E s := by
  revert X
  k_fill
  intro X
  k_steps
  exact h
set_option maxHeartbeats 400000 in
theorem attr_setL {x dx : Addr} {k0 : Int} {tk0 : Tok} {t0 t1 : Tok} {v1 : Value} {n : Nat} (h1 : (x, instObj 137 dx) ∈ news) (h2 : (dx, dictOf [fld w.params "number" t0 (.int k0 tk0), fld w.params "value" t1 v1] n) ∈ news) (N : News h₀ L s.heap news) (F : Fr h₀ L s.heap m) (X : (KK w.params).In h₀) (h : Q (.int k0 tk0) { s with toks := s.toks + 1 }) : wpAny (model lw.row.prog w) A (getAttr (.ref x) (Str.ofString "number") true) Q E s := by
  revert X
  k_fill
  intro X
  k_steps
  exact h
set_option maxHeartbeats 400000 in
theorem attr_glob {x dx : Addr} {k0 : Int} {tk0 : Tok} {t0 : Tok}  {n : Nat} (h1 : (x, instObj 104 dx) ∈ news) (h2 : (dx, dictOf [fld w.params "symbol" t0 (.int k0 tk0)] n) ∈ news) (N : News h₀ L s.heap news) (F : Fr h₀ L s.heap m) (X : (KK w.params).In h₀) (h : Q (.int k0 tk0) { s with toks := s.toks + 1 }) : wpAny (model lw.row.prog w) A (getAttr (.ref x) (Str.ofString "symbol") true) Q E s := by
  revert X
  k_fill
  intro X
  k_steps
  exact h
set_option maxHeartbeats 400000 in
theorem attr_setG {x dx : Addr} {k0 : Int} {tk0 : Tok} {t0 t1 : Tok} {v1 : Value} {n : Nat} (h1 : (x, instObj 170 dx) ∈ news) (h2 : (dx, dictOf [fld w.params "symbol" t0 (.int k0 tk0), fld w.params "value" t1 v1] n) ∈ news) (N : News h₀ L s.heap news) (F : Fr h₀ L s.heap m) (X : (KK w.params).In h₀) (h : Q (.int k0 tk0) { s with toks := s.toks + 1 }) : wpAny (model lw.row.prog w) A (getAttr (.ref x) (Str.ofString "symbol") true) Q E s := by
  revert X
  k_fill
  intro X
  k_steps
  exact h
set_option maxHeartbeats 400000 in
theorem attr_defn {x dx : Addr} {k0 : Int} {tk0 : Tok} {t0 t1 : Tok} {v1 : Value} {n : Nat} (h1 : (x, instObj 203 dx) ∈ news) (h2 : (dx, dictOf [fld w.params "symbol" t0 (.int k0 tk0), fld w.params "value" t1 v1] n) ∈ news) (N : News h₀ L s.heap news) (F : Fr h₀ L s.heap m) (X : (KK w.params).In h₀) (h : Q (.int k0 tk0) { s with toks := s.toks + 1 }) : wpAny (model lw.row.prog w) A (getAttr (.ref x) (Str.ofString "symbol") true) Q E s := by
  revert X
  k_fill
  intro X
  k_steps
  exact h
set_option maxHeartbeats 400000 in
theorem attr_seq {x dx l0 : Addr}  {t0 : Tok}  {n : Nat} (h1 : (x, instObj 349 dx) ∈ news) (h2 : (dx, dictOf [fld w.params "items" t0 (.ref l0)] n) ∈ news) (N : News h₀ L s.heap news) (F : Fr h₀ L s.heap m) (X : (KK w.params).In h₀) (h : Q (.ref l0) { s with toks := s.toks + 1 }) : wpAny (model lw.row.prog w) A (getAttr (.ref x) (Str.ofString "items") true) Q E s := by
  revert X
  k_fill
  intro X
  k_steps
  exact h
variable {R : List (Addr × Obj)} {v : Value} {T : Nd}
theorem node_number (hn : NodeIn w.params R v T) (sub : ∀ p ∈ R, p ∈ news) (hk : ([1, 3].any fun x => x == kindOf T) = true) (N : News h₀ L s.heap news) (F : Fr h₀ L s.heap m) (X : (KK w.params).In h₀) (h : ∀ t, Q (.int (numOf T) t) { s with toks := s.toks + 1 }) : wpAny (model lw.row.prog w) A (getAttr v (Str.ofString "number") true) Q E s := by
  cases hn with
  | loc h1 h2 => exact attr_loc (sub _ h1) (sub _ h2) N F X (h _)
  | setL h1 h2 _ => exact attr_setL (sub _ h1) (sub _ h2) N F X (h _)
  | _ => cases hk
theorem node_symbol (hn : NodeIn w.params R v T) (sub : ∀ p ∈ R, p ∈ news) (hk : ([2, 4, 5].any fun x => x == kindOf T) = true) (N : News h₀ L s.heap news) (F : Fr h₀ L s.heap m) (X : (KK w.params).In h₀) (h : ∀ t, Q (.int (symOf T) t) { s with toks := s.toks + 1 }) : wpAny (model lw.row.prog w) A (getAttr v (Str.ofString "symbol") true) Q E s := by
  cases hn with
  | glob h1 h2 => exact attr_glob (sub _ h1) (sub _ h2) N F X (h _)
  | setG h1 h2 _ => exact attr_setG (sub _ h1) (sub _ h2) N F X (h _)
  | defn h1 h2 _ => exact attr_defn (sub _ h1) (sub _ h2) N F X (h _)
  | _ => cases hk
theorem node_items (hn : NodeIn w.params R v T) (sub : ∀ p ∈ R, p ∈ news) (hk : kindOf T = 9) (N : News h₀ L s.heap news) (F : Fr h₀ L s.heap m) (X : (KK w.params).In h₀)
    (h : ∀ l vs n, (l, listOf (List.toArray vs) n) ∈ news → vs.length = (kids T).length → Q (.ref l) { s with toks := s.toks + 1 }) : wpAny (model lw.row.prog w) A (getAttr v (Str.ofString "items") true) Q E s := by
  cases hn with
  | seq h1 h2 h3 hz _ => exact attr_seq (sub _ h1) (sub _ h2) N F X (h _ _ _ (sub _ h3) hz)
  | _ => cases hk
end
/-! a node's own method parts, by its kind -/
noncomputable def partsFn : Nd → Addr
  | .const => 35
  | .loc _ => 35
  | .glob _ => 35
  | .setL _ _ => 127
  | .setG _ _ => 160
  | .defn _ _ => 193
  | .iff _ _ _ => 226
  | .lam _ _ _ _ => 259
  | .call _ _ => 306
  | .seq _ => 339
  | .prim _ _ => 372
  | .fix _ _ _ => 405
section
variable {w : World} {A : Around} {E : Value → Shared → Prop} {h₀ : Heap} {L : Addr} {m : Str → Option Value} {s : Shared} {news : List (Addr × Obj)} {Q : Value × List Value → Shared → Prop} {pl : Sem Bool}
set_option maxHeartbeats 400000 in
theorem meth_const {x dx : Addr} {t0 : Tok} {v0 : Value} {n : Nat} (h1 : (x, instObj 66 dx) ∈ news) (h2 : (dx, dictOf [fld w.params "value" t0 v0] n) ∈ news) (N : News h₀ L s.heap news) (F : Fr h₀ L s.heap m) (X : (KK w.params).In h₀) (h : ∀ tk, Q (.ref 35, [.ref x]) { s with toks := tk }) : wpAny (model lw.row.prog w) A (getMethod (.ref x) (Str.ofString "parts") pl) Q E s := by
  revert X
  k_fill
  intro X
  k_steps
  exact h _
set_option maxHeartbeats 400000 in
theorem meth_loc {x dx : Addr} {t0 : Tok} {v0 : Value} {n : Nat} (h1 : (x, instObj 85 dx) ∈ news) (h2 : (dx, dictOf [fld w.params "number" t0 v0] n) ∈ news) (N : News h₀ L s.heap news) (F : Fr h₀ L s.heap m) (X : (KK w.params).In h₀) (h : ∀ tk, Q (.ref 35, [.ref x]) { s with toks := tk }) : wpAny (model lw.row.prog w) A (getMethod (.ref x) (Str.ofString "parts") pl) Q E s := by
  revert X
  k_fill
  intro X
  k_steps
  exact h _
set_option maxHeartbeats 400000 in
theorem meth_glob {x dx : Addr} {t0 : Tok} {v0 : Value} {n : Nat} (h1 : (x, instObj 104 dx) ∈ news) (h2 : (dx, dictOf [fld w.params "symbol" t0 v0] n) ∈ news) (N : News h₀ L s.heap news) (F : Fr h₀ L s.heap m) (X : (KK w.params).In h₀) (h : ∀ tk, Q (.ref 35, [.ref x]) { s with toks := tk }) : wpAny (model lw.row.prog w) A (getMethod (.ref x) (Str.ofString "parts") pl) Q E s := by
  revert X
  k_fill
  intro X
  k_steps
  exact h _
set_option maxHeartbeats 400000 in
theorem meth_setL {x dx : Addr} {t0 t1 : Tok} {v0 v1 : Value} {n : Nat} (h1 : (x, instObj 137 dx) ∈ news) (h2 : (dx, dictOf [fld w.params "number" t0 v0, fld w.params "value" t1 v1] n) ∈ news) (N : News h₀ L s.heap news) (F : Fr h₀ L s.heap m) (X : (KK w.params).In h₀) (h : ∀ tk, Q (.ref 127, [.ref x]) { s with toks := tk }) : wpAny (model lw.row.prog w) A (getMethod (.ref x) (Str.ofString "parts") pl) Q E s := by
  revert X
  k_fill
  intro X
  k_steps
  exact h _
set_option maxHeartbeats 400000 in
theorem meth_setG {x dx : Addr} {t0 t1 : Tok} {v0 v1 : Value} {n : Nat} (h1 : (x, instObj 170 dx) ∈ news) (h2 : (dx, dictOf [fld w.params "symbol" t0 v0, fld w.params "value" t1 v1] n) ∈ news) (N : News h₀ L s.heap news) (F : Fr h₀ L s.heap m) (X : (KK w.params).In h₀) (h : ∀ tk, Q (.ref 160, [.ref x]) { s with toks := tk }) : wpAny (model lw.row.prog w) A (getMethod (.ref x) (Str.ofString "parts") pl) Q E s := by
  revert X
  k_fill
  intro X
  k_steps
  exact h _
set_option maxHeartbeats 400000 in
theorem meth_defn {x dx : Addr} {t0 t1 : Tok} {v0 v1 : Value} {n : Nat} (h1 : (x, instObj 203 dx) ∈ news) (h2 : (dx, dictOf [fld w.params "symbol" t0 v0, fld w.params "value" t1 v1] n) ∈ news) (N : News h₀ L s.heap news) (F : Fr h₀ L s.heap m) (X : (KK w.params).In h₀) (h : ∀ tk, Q (.ref 193, [.ref x]) { s with toks := tk }) : wpAny (model lw.row.prog w) A (getMethod (.ref x) (Str.ofString "parts") pl) Q E s := by
  revert X
  k_fill
  intro X
  k_steps
  exact h _
set_option maxHeartbeats 400000 in
theorem meth_iff {x dx : Addr} {t0 t1 t2 : Tok} {v0 v1 v2 : Value} {n : Nat} (h1 : (x, instObj 236 dx) ∈ news) (h2 : (dx, dictOf [fld w.params "test" t0 v0, fld w.params "yes" t1 v1, fld w.params "no" t2 v2] n) ∈ news) (N : News h₀ L s.heap news) (F : Fr h₀ L s.heap m) (X : (KK w.params).In h₀) (h : ∀ tk, Q (.ref 226, [.ref x]) { s with toks := tk }) : wpAny (model lw.row.prog w) A (getMethod (.ref x) (Str.ofString "parts") pl) Q E s := by
  revert X
  k_fill
  intro X
  k_steps
  exact h _
set_option maxHeartbeats 400000 in
theorem meth_lam {x dx : Addr} {t0 t1 t2 t3 : Tok} {v0 v1 v2 v3 : Value} {n : Nat} (h1 : (x, instObj 283 dx) ∈ news) (h2 : (dx, dictOf [fld w.params "label" t0 v0, fld w.params "params" t1 v1, fld w.params "rest" t2 v2, fld w.params "body" t3 v3] n) ∈ news) (N : News h₀ L s.heap news) (F : Fr h₀ L s.heap m) (X : (KK w.params).In h₀) (h : ∀ tk, Q (.ref 259, [.ref x]) { s with toks := tk }) : wpAny (model lw.row.prog w) A (getMethod (.ref x) (Str.ofString "parts") pl) Q E s := by
  revert X
  k_fill
  intro X
  k_steps
  exact h _
set_option maxHeartbeats 400000 in
theorem meth_call {x dx : Addr} {t0 t1 : Tok} {v0 v1 : Value} {n : Nat} (h1 : (x, instObj 316 dx) ∈ news) (h2 : (dx, dictOf [fld w.params "operator" t0 v0, fld w.params "operands" t1 v1] n) ∈ news) (N : News h₀ L s.heap news) (F : Fr h₀ L s.heap m) (X : (KK w.params).In h₀) (h : ∀ tk, Q (.ref 306, [.ref x]) { s with toks := tk }) : wpAny (model lw.row.prog w) A (getMethod (.ref x) (Str.ofString "parts") pl) Q E s := by
  revert X
  k_fill
  intro X
  k_steps
  exact h _
set_option maxHeartbeats 400000 in
theorem meth_seq {x dx : Addr} {t0 : Tok} {v0 : Value} {n : Nat} (h1 : (x, instObj 349 dx) ∈ news) (h2 : (dx, dictOf [fld w.params "items" t0 v0] n) ∈ news) (N : News h₀ L s.heap news) (F : Fr h₀ L s.heap m) (X : (KK w.params).In h₀) (h : ∀ tk, Q (.ref 339, [.ref x]) { s with toks := tk }) : wpAny (model lw.row.prog w) A (getMethod (.ref x) (Str.ofString "parts") pl) Q E s := by
  revert X
  k_fill
  intro X
  k_steps
  exact h _
set_option maxHeartbeats 400000 in
theorem meth_prim {x dx : Addr} {t0 t1 : Tok} {v0 v1 : Value} {n : Nat} (h1 : (x, instObj 382 dx) ∈ news) (h2 : (dx, dictOf [fld w.params "op" t0 v0, fld w.params "operands" t1 v1] n) ∈ news) (N : News h₀ L s.heap news) (F : Fr h₀ L s.heap m) (X : (KK w.params).In h₀) (h : ∀ tk, Q (.ref 372, [.ref x]) { s with toks := tk }) : wpAny (model lw.row.prog w) A (getMethod (.ref x) (Str.ofString "parts") pl) Q E s := by
  revert X
  k_fill
  intro X
  k_steps
  exact h _
set_option maxHeartbeats 400000 in
theorem meth_fix {x dx : Addr} {t0 t1 t2 : Tok} {v0 v1 v2 : Value} {n : Nat} (h1 : (x, instObj 415 dx) ∈ news) (h2 : (dx, dictOf [fld w.params "numbers" t0 v0, fld w.params "lambdas" t1 v1, fld w.params "body" t2 v2] n) ∈ news) (N : News h₀ L s.heap news) (F : Fr h₀ L s.heap m) (X : (KK w.params).In h₀) (h : ∀ tk, Q (.ref 405, [.ref x]) { s with toks := tk }) : wpAny (model lw.row.prog w) A (getMethod (.ref x) (Str.ofString "parts") pl) Q E s := by
  revert X
  k_fill
  intro X
  k_steps
  exact h _
variable {R : List (Addr × Obj)} {v : Value} {T : Nd}
theorem node_parts (hn : NodeIn w.params R v T) (sub : ∀ p ∈ R, p ∈ news) (N : News h₀ L s.heap news) (F : Fr h₀ L s.heap m) (X : (KK w.params).In h₀) (h : ∀ tk, Q (.ref (partsFn T), [v]) { s with toks := tk }) : wpAny (model lw.row.prog w) A (getMethod v (Str.ofString "parts") pl) Q E s := by
  cases hn with
  | const h1 h2 => exact meth_const (sub _ h1) (sub _ h2) N F X h
  | loc h1 h2 => exact meth_loc (sub _ h1) (sub _ h2) N F X h
  | glob h1 h2 => exact meth_glob (sub _ h1) (sub _ h2) N F X h
  | setL h1 h2 _ => exact meth_setL (sub _ h1) (sub _ h2) N F X h
  | setG h1 h2 _ => exact meth_setG (sub _ h1) (sub _ h2) N F X h
  | defn h1 h2 _ => exact meth_defn (sub _ h1) (sub _ h2) N F X h
  | iff h1 h2 _ _ _ => exact meth_iff (sub _ h1) (sub _ h2) N F X h
  | lam h1 h2 _ _ _ _ => exact meth_lam (sub _ h1) (sub _ h2) N F X h
  | call h1 h2 _ _ _ _ => exact meth_call (sub _ h1) (sub _ h2) N F X h
  | seq h1 h2 _ _ _ => exact meth_seq (sub _ h1) (sub _ h2) N F X h
  | prim h1 h2 _ _ _ => exact meth_prim (sub _ h1) (sub _ h2) N F X h
  | fix h1 h2 _ _ _ _ _ _ => exact meth_fix (sub _ h1) (sub _ h2) N F X h
end
theorem parts_any (w : World) {R news : List (Addr × Obj)} {v : Value} {T : Nd} (hn : NodeIn w.params R v T) (sub : ∀ p ∈ R, p ∈ news) (hwt : wt T ≤ 50000) : Spec w (partsFn T) 10 100 [v] news (PartsR w.params R news (kids T)) NoX := by
  cases hn with
  | const h1 h2 => exact parts_none w
  | loc h1 h2 => exact parts_none w
  | glob h1 h2 => exact parts_none w
  | setL h1 h2 h3 => exact parts_setl w (sub _ h1) (sub _ h2) h3
  | setG h1 h2 h3 => exact parts_setg w (sub _ h1) (sub _ h2) h3
  | defn h1 h2 h3 => exact parts_define w (sub _ h1) (sub _ h2) h3
  | iff h1 h2 h3 h4 h5 => exact parts_if w (sub _ h1) (sub _ h2) h3 h4 h5
  | lam h1 h2 h3 h4 h5 h6 => exact parts_lambda w (sub _ h1) (sub _ h2) h6
  | call h1 h2 h3 h4 h5 h6 => exact parts_call w (sub _ h1) (sub _ h2) (sub _ h3) (by have := len_le_wts ‹List Nd›; simp only [wt] at hwt; omega) h4 ⟨h5, h6⟩
  | seq h1 h2 h3 h4 h5 => exact parts_seq w (sub _ h1) (sub _ h2) (sub _ h3) (by have := len_le_wts ‹List Nd›; simp only [wt] at hwt; omega) ⟨h4, h5⟩
  | prim h1 h2 h3 h4 h5 => exact parts_prim w (sub _ h1) (sub _ h2) (sub _ h3) (by have := len_le_wts ‹List Nd›; simp only [wt] at hwt; omega) ⟨h4, h5⟩
  | fix h1 h2 h3 h4 h5 h6 h7 h8 => exact parts_fix w (sub _ h1) (sub _ h2) (sub _ h5) (by have := len_le_wts ‹List Nd›; simp only [wt] at hwt; omega) h8 ⟨h6, h7⟩
theorem parts_keep (P : Params) (T : Nd) : keepIn (KK P) (.ref (partsFn T)) = true := by cases T <;> kernel_rfl
theorem u_callParts {w : World} {A : Around} {E : Value → Shared → Prop} {h₀ : Heap} {L : Addr} {m : Str → Option Value} {s : Shared} {Q : Value → Shared → Prop} {T : Nd} {pos : Pos} {env : Env} {v : Value} (X : (KK w.params).In h₀) (F : Fr h₀ L s.heap m) (h : wpAny (model lw.row.prog w) A (call (.ref (partsFn T)) [v]) Q E s) :
    wpAny (model lw.row.prog w) A (callWith pos (.ref (partsFn T)) [v] (backTo pos (starEach [] env)) []) Q E s := callWith_K0 (X.keeps F.keep) (parts_keep _ _) h
theorem NodeIn.elim_lam {P : Params} {R : List (Addr × Obj)} {x : Addr} {T : Nd} {C : Prop} (h : NodeIn P R (.ref x) T) (k : kindOf T = 7)
    (f : ∀ {dx lp : Addr} {lb r : Int} {tl tr t1 t2 t3 t4 : Tok} {n np : Nat} {ps : List Int} {vps : List Value} {b : Value} {B : Nd}, T = .lam lb ps r B → (x, instObj 283 dx) ∈ R → (dx, dictOf [fld P "label" t1 (.int lb tl), fld P "params" t2 (.ref lp), fld P "rest" t3 (.int r tr), fld P "body" t4 b] n) ∈ R → (lp, listOf vps.toArray np) ∈ R → IntsAre vps ps → 0 ≤ lb → NodeIn P R b B → C) : C := by
  cases h with
  | lam a b c d e g => exact f rfl a b c d e g
  | _ => cases k
theorem NodeIn.elim_fix {P : Params} {R : List (Addr × Obj)} {x : Addr} {T : Nd} {C : Prop} (h : NodeIn P R (.ref x) T) (k : kindOf T = 11)
    (f : ∀ {dx ln l : Addr} {t1 t2 t3 : Tok} {n nn nl : Nat} {ns : List Int} {vns : List Value} {vs : List Value} {ts : List Nd} {b : Value} {B : Nd}, T = .fix ns ts B → (x, instObj 415 dx) ∈ R → (dx, dictOf [fld P "numbers" t1 (.ref ln), fld P "lambdas" t2 (.ref l), fld P "body" t3 b] n) ∈ R → (ln, listOf vns.toArray nn) ∈ R → IntsAre vns ns → (l, listOf vs.toArray nl) ∈ R → NodesIn P R vs ts → NodeIn P R b B → C) : C := by
  cases h with
  | fix a b c d e g i j => exact f rfl a b c d e ⟨g, i⟩ j
  | _ => cases k
theorem NodeIn.elim_prim {P : Params} {R : List (Addr × Obj)} {x : Addr} {T : Nd} {C : Prop} (h : NodeIn P R (.ref x) T) (k : kindOf T = 10)
    (f : ∀ {dx l : Addr} {op : Int} {to t1 t2 : Tok} {n nl : Nat} {vs : List Value} {ts : List Nd}, T = .prim op ts → (x, instObj 382 dx) ∈ R → (dx, dictOf [fld P "op" t1 (.int op to), fld P "operands" t2 (.ref l)] n) ∈ R → (l, listOf vs.toArray nl) ∈ R → NodesIn P R vs ts → C) : C := by
  cases h with
  | prim a b c d e => exact f rfl a b c ⟨d, e⟩
  | _ => cases k
noncomputable def primOkT : Nd → Bool
  | .prim op ts => primOk op ts.length
  | _ => false
theorem isPrim_any (w : World) {x : Addr} {T : Nd} {R news : List (Addr × Obj)} (hT : NodeIn w.params R (.ref x) T) (hs : ∀ p ∈ R, p ∈ news) (hk : kindOf T = 10) (hwt : wt T ≤ 50000) :
    Spec w 804 20 200 [.ref x] news (fun r news' => r = .bool (primOkT T) ∧ news' = news) NoX := by
  refine hT.elim_prim hk fun e h1 h2 h3 h4 => ?_
  subst e
  have := len_le_wts ‹List Nd›
  simp only [wt] at hwt
  have h5 := isPrim_spec w (hs _ h1) (hs _ h2) (hs _ h3) (by rw [h4.1]; omega)
  rw [h4.1] at h5
  exact h5
/-- what the second statement refuses -/
noncomputable def bad2 (T : Nd) (top : Bool) : Prop := (kindOf T = 5 ∧ top = false) ∨ (kindOf T = 9 ∧ (kids T).length = 0) ∨ (kindOf T = 10 ∧ primOkT T = false)
noncomputable def bad4 (T : Nd) : Prop := ([2, 4, 5].any fun x => x == kindOf T) = true ∧ symOf T < 0
theorem hdF_gen1 {T : Nd} {ks : List Int} {top : Bool} {s : St} (h3 : kindOf T = 3) (h : ¬ numOf T ∈ ks) : hdF primOk T ks top s = none := by
  cases T <;> first | (cases h3; done) | exact if_neg h
theorem hdF_gen2 {T : Nd} {ks : List Int} {top : Bool} {s : St} (h : bad2 T top) : hdF primOk T ks top s = none := by
  rcases h with ⟨h, h2⟩ | ⟨h, h2⟩ | ⟨h, h2⟩
  · cases T <;> first | (cases h; done) | exact if_pos (.inr h2)
  · cases T <;> first | (cases h; done) | exact if_pos h2
  · cases T <;> first | (cases h; done) | exact if_neg (by rw [show primOk _ _ = false from h2]; decide)
theorem hdF_gen4 {T : Nd} {ks : List Int} {top : Bool} {s : St} (h : bad4 T) : hdF primOk T ks top s = none := by
  obtain ⟨h, h2⟩ := h
  cases T <;> first | (cases h; done) | exact if_pos h2 | exact if_pos (.inl h2)
theorem hdF_gen {T : Nd} {ks : List Int} {top : Bool} {s : St} (k7 : kindOf T ≠ 7) (k11 : kindOf T ≠ 11) (k1 : kindOf T ≠ 1) (k3 : kindOf T = 3 → numOf T ∈ ks) (b2 : ¬ bad2 T top) (b4 : ¬ bad4 T) : hdF primOk T ks top s = some (ks, s) := by
  cases T with
  | const => rfl
  | loc => exact absurd rfl k1
  | glob y => exact if_neg fun q => b4 ⟨rfl, q⟩
  | setL k u => exact if_pos (k3 rfl)
  | setG y u => exact if_neg fun q => b4 ⟨rfl, q⟩
  | defn y u => exact if_neg fun q => q.elim (fun q => b4 ⟨rfl, q⟩) fun q => b2 (.inl ⟨rfl, q⟩)
  | iff => rfl
  | lam => exact absurd rfl k7
  | call => rfl
  | seq ts => exact if_neg fun q => b2 (.inr (.inl ⟨rfl, q⟩))
  | prim op ts => exact if_pos (by cases e : primOk op ts.length with | true => rfl | false => exact absurd (.inr (.inr ⟨rfl, e⟩)) b2)
  | fix => exact absurd rfl k11
theorem isSeq_top (T : Nd) (top : Bool) : (top && isSeq T) = (top && decide (kindOf T = 9)) := by cases T <;> rfl
theorem fineR_num {d : Nat} {T : Nd} {ks ms ls : List Int} {top b : Bool} {om' ol' : Obj} {mt lb : Addr} {R : List (Addr × Obj)} (h1 : kindOf T = 1) (h : b = decide (numOf T ∈ ks)) (hm : LO om' ms) (hl : LO ol' ls) : FineR (d + 1) T ks top ms ls mt lb R (.bool b) ((mt, om') :: (lb, ol') :: R) := by
  cases T <;> first | (cases h1; done) | exact fineR_loc h.symm hm hl
section
variable {w : World} {dp un : Nat} {gd : Option (List Code)} {cn : Str} {cs : Scope} {L a : Addr} {ccd : Value} {cl : List (Str × Addr)} {outer : List Env} {base g : Heap} {L' : Nat} {m : Str → Option Value} {s : Shared}
    {Q : Flow → Shared → Prop} {E : Value → Shared → Prop} {p : Program} {loose : List Str} {mean : ExcName → Option Value} {mg mb : Str → Option Value} {o2 o3 : Obj} {tk4 : Tok} {R news : List (Addr × Obj)} {x kl : Addr} {T : Nd} {kvs : List Value} {kn : Nat} {ks : List Int} {top : Bool}
set_option maxHeartbeats 1000000 in
theorem fs1 (B' : Below (ktrTop dp un gd cn cs L a ccd cl outer) base (envX cn cs L a ccd cl :: outer) g) (F' : Fr g L' s.heap m) (X' : (KK w.params).In g) (XP' : Prims g) (T' : Top p loose mean mg mb g) (N' : News g L' s.heap news) (hm2 : (L' + 1 + 1 + 1 + 1, o2) ∈ news) (d2 : o2.data = .cell (some (.int (kindOf T) tk4))) (hm3 : m (Str.ofString "_law_node") = some (.ref x)) (hn : NodeIn w.params R (.ref x) T) (hs : ∀ p ∈ R, p ∈ news) (hd : dp + 50 < recursionLimit) (hu : un + 500 < cLine) (hm4 : m (Str.ofString "_law_known") = some (.ref kl)) (hkm : (kl, listOf (List.toArray kvs) kn) ∈ news) (hki : IntsAre kvs ks)
    (ret : ∀ h' tk' b, Fr g L' h' m → News g L' h' news → ((kindOf T = 1 ∧ b = decide (numOf T ∈ ks)) ∨ (kindOf T = 3 ∧ ¬ numOf T ∈ ks ∧ b = false)) → Q (.ret (.bool b)) { s with heap := h', toks := tk' })
    (next : ∀ h' tk', Fr g L' h' m → News g L' h' news → kindOf T ≠ 1 → (kindOf T = 3 → numOf T ∈ ks) → wpAny (model lw.row.prog w) ((ktrTop dp un gd cn cs L a ccd cl outer).deeper (fEnv L')) (execs ((fBody (stAt 56)).drop 2) (fEnv L')) Q E { s with heap := h', toks := tk' }) : wpAny (model lw.row.prog w) ((ktrTop dp un gd cn cs L a ccd cl outer).deeper (fEnv L')) (execs ((fBody (stAt 56)).drop 1) (fEnv L')) Q E s := by
  revert X'
  k_fill
  intro X'
  have kdF : KdF (fScope (stAt 56)) := by (unfold KdF; kernel_rfl!)
  have kd0 : KdL (fScope (stAt 56)) (Str.ofString "_law_node") := ⟨by kernel_rfl!, by kernel_rfl!⟩
  have kd1 : KdL (fScope (stAt 56)) (Str.ofString "_law_known") := ⟨by kernel_rfl!, by kernel_rfl!⟩
  have kd2 : KdC (fScope (stAt 56)) L' (Str.ofString "_law_kind") (L' + 1 + 1 + 1 + 1) := ⟨by kernel_rfl!, by kernel_rfl!, by kernel_rfl!⟩
  have kd3 : KdG (fScope (stAt 56)) (Str.ofString "LOCAL") := ⟨by kernel_rfl!, by kernel_rfl!⟩
  have kd4 : KdG (fScope (stAt 56)) (Str.ofString "SET_LOCAL") := ⟨by kernel_rfl!, by kernel_rfl!⟩
  k_with "w:getAttr ref" => (k_here; (with_reducible show wpAny _ _ (getAttr (Value.ref _) (Str.ofString "number") true) _ _ _); k_dflt (refine' node_number ?ahn ?asu ?ahk ?aN ?aF ?aX ?_; (case ahn => with_reducible assumption); (case ahk => first | with_reducible assumption | (simp only [*]; rfl)); (case aN => k_asm); (case asu => k_extra "m:subX"); (case aF => k_asm); (case aX => k_asm)); intro tk9; (try dsimp only))
  k_with "w:getAttr ref" => (k_here; (with_reducible show wpAny _ _ (getAttr (Value.ref _) (Str.ofString "symbol") true) _ _ _); k_dflt (refine' node_symbol ?ahn ?asu ?ahk ?aN ?aF ?aX ?_; (case ahn => with_reducible assumption); (case ahk => first | with_reducible assumption | (simp only [*]; rfl)); (case aN => k_asm); (case asu => k_extra "m:subX"); (case aF => k_asm); (case aX => k_asm)); intro tk9; (try dsimp only))
  k_with "w:getAttr ref" => (k_here; (with_reducible show wpAny _ _ (getAttr (Value.ref _) (Str.ofString "items") true) _ _ _); k_dflt (refine' node_items ?ahn ?asu ?ahk ?aN ?aF ?aX ?_; (case ahn => with_reducible assumption); (case ahk => first | with_reducible assumption | (simp only [*]; rfl)); (case aN => k_asm); (case asu => k_extra "m:subX"); (case aF => k_asm); (case aX => k_asm)); intro li' vi' ni' mi' hi'; (try dsimp only))
  k_with "w:getMethod ref" => (k_here; (with_reducible show wpAny _ _ (getMethod (Value.ref _) (Str.ofString "parts") _) _ _ _); k_dflt (refine' node_parts ?ahn ?asu ?aN ?aF ?aX ?_; (case ahn => with_reducible assumption); (case aN => k_asm); (case asu => k_extra "m:subX"); (case aF => k_asm); (case aX => k_asm)); intro tk9; (try dsimp only))
  k_with "w:call ref" => (k_here; (with_reducible show wpAny _ _ (call (Value.ref (partsFn _)) [Value.ref _]) _ _ _); k_dflt (refine' Spec.use (parts_any _ ?e0p ?e1p ?e2p) ?qB7 ?qF7 ?qX7 ?qXP7 ?qN7 ?qT7 ?qK7 ?qhd7 ?qhu7 ?_ ?qx7; (case e0p => with_reducible assumption); (case qN7 => k_asm); (k_extra "m:use"); (case e1p => k_extra "m:subX"); (case e2p => omega); (case qx7 => k_extra "m:noX")); (rintro _ nw' h' tk' F' N' ⟨D', pvs', pn', e1, e2, lD', hP'⟩); subst e1; subst nw'; (replace lD' := allLt_of lD'); (try k_sweep); (try dsimp only))
  k_with "w:callWith ref" => (k_here; (with_reducible show wpAny _ _ (callWith _ (Value.ref (partsFn _)) [Value.ref _] _ _) _ _ _); k_dflt (refine' u_callParts ?cX9 ?cF9 ?_; (case cX9 => k_asm); (case cF9 => k_asm)); (try dsimp only))
  rcases Decidable.em (numOf T ∈ ks) with hke | hke
  k_with "w:execs cons" => ((with_reducible show wpAny _ _ (execs (Stmt.If (Expr.BoolOp BoolOp.Or [Expr.BoolOp _ _ _, _, _] _) _ _ _ :: _) _) _ _ _); k_dflt (refine' next _ _ ?nxF ?nxN (by assumption) (by first | exact fun _ => hke | exact fun q => absurd q (by assumption)); (case nxF => k_asm); (case nxN => first | k_asm | (refine' newsSub ?nxA ?nxB; (case nxA => k_asm); (case nxB => k_extra "m:subX"))); skip))
  all_goals k_steps
  all_goals (refine' ret _ _ _ ?rF ?rN ?_; (case rF => k_asm); (case rN => first | k_asm | (refine' newsSub ?nxA ?nxB; (case nxA => k_asm); (case nxB => k_extra "m:subX"))))
  all_goals first | (refine Or.inl ⟨?_, ?_⟩; with_reducible assumption; first | exact (decide_eq_true hke).symm | exact (decide_eq_false hke).symm) | (refine Or.inr ⟨?_, hke, rfl⟩; with_reducible assumption)
set_option maxHeartbeats 1000000 in
theorem fs2 (B' : Below (ktrTop dp un gd cn cs L a ccd cl outer) base (envX cn cs L a ccd cl :: outer) g) (F' : Fr g L' s.heap m) (X' : (KK w.params).In g) (XP' : Prims g) (T' : Top p loose mean mg mb g) (N' : News g L' s.heap news) (hm2 : (L' + 1 + 1 + 1 + 1, o2) ∈ news) (d2 : o2.data = .cell (some (.int (kindOf T) tk4))) (hm3 : m (Str.ofString "_law_node") = some (.ref x)) (hn : NodeIn w.params R (.ref x) T) (hs : ∀ p ∈ R, p ∈ news) (hd : dp + 50 < recursionLimit) (hu : un + 500 < cLine) (hm5 : (L' + 1 + 1 + 1, o3) ∈ news) (d3 : o3.data = .cell (some (.bool top))) (hwt : wt T ≤ 50000)
    (ret : ∀ h' tk', Fr g L' h' m → News g L' h' news → bad2 T top → Q (.ret (.bool false)) { s with heap := h', toks := tk' })
    (next : ∀ h' tk', Fr g L' h' m → News g L' h' news → ¬ bad2 T top → wpAny (model lw.row.prog w) ((ktrTop dp un gd cn cs L a ccd cl outer).deeper (fEnv L')) (execs ((fBody (stAt 56)).drop 3) (fEnv L')) Q E { s with heap := h', toks := tk' }) : wpAny (model lw.row.prog w) ((ktrTop dp un gd cn cs L a ccd cl outer).deeper (fEnv L')) (execs ((fBody (stAt 56)).drop 2) (fEnv L')) Q E s := by
  revert X'
  k_fill
  intro X'
  have kdF : KdF (fScope (stAt 56)) := by (unfold KdF; kernel_rfl!)
  have kd0 : KdL (fScope (stAt 56)) (Str.ofString "_law_node") := ⟨by kernel_rfl!, by kernel_rfl!⟩
  have kd1 : KdC (fScope (stAt 56)) L' (Str.ofString "_law_is_top") (L' + 1 + 1 + 1) := ⟨by kernel_rfl!, by kernel_rfl!, by kernel_rfl!⟩
  have kd2 : KdC (fScope (stAt 56)) L' (Str.ofString "_law_kind") (L' + 1 + 1 + 1 + 1) := ⟨by kernel_rfl!, by kernel_rfl!, by kernel_rfl!⟩
  have kd3 : KdG (fScope (stAt 56)) (Str.ofString "DEFINE") := ⟨by kernel_rfl!, by kernel_rfl!⟩
  have kd4 : KdG (fScope (stAt 56)) (Str.ofString "SEQ") := ⟨by kernel_rfl!, by kernel_rfl!⟩
  have kd5 : KdG (fScope (stAt 56)) (Str.ofString "PRIM") := ⟨by kernel_rfl!, by kernel_rfl!⟩
  have kd6 : KdG (fScope (stAt 56)) (Str.ofString "_law_is_prim") := ⟨by kernel_rfl!, by kernel_rfl!⟩
  k_with "w:getAttr ref" => (k_here; (with_reducible show wpAny _ _ (getAttr (Value.ref _) (Str.ofString "number") true) _ _ _); k_dflt (refine' node_number ?ahn ?asu ?ahk ?aN ?aF ?aX ?_; (case ahn => with_reducible assumption); (case ahk => first | with_reducible assumption | (simp only [*]; rfl)); (case aN => k_asm); (case asu => k_extra "m:subX"); (case aF => k_asm); (case aX => k_asm)); intro tk9; (try dsimp only))
  k_with "w:getAttr ref" => (k_here; (with_reducible show wpAny _ _ (getAttr (Value.ref _) (Str.ofString "symbol") true) _ _ _); k_dflt (refine' node_symbol ?ahn ?asu ?ahk ?aN ?aF ?aX ?_; (case ahn => with_reducible assumption); (case ahk => first | with_reducible assumption | (simp only [*]; rfl)); (case aN => k_asm); (case asu => k_extra "m:subX"); (case aF => k_asm); (case aX => k_asm)); intro tk9; (try dsimp only))
  k_with "w:getAttr ref" => (k_here; (with_reducible show wpAny _ _ (getAttr (Value.ref _) (Str.ofString "items") true) _ _ _); k_dflt (refine' node_items ?ahn ?asu ?ahk ?aN ?aF ?aX ?_; (case ahn => with_reducible assumption); (case ahk => first | with_reducible assumption | (simp only [*]; rfl)); (case aN => k_asm); (case asu => k_extra "m:subX"); (case aF => k_asm); (case aX => k_asm)); intro li' vi' ni' mi' hi'; (try dsimp only))
  k_with "w:getMethod ref" => (k_here; (with_reducible show wpAny _ _ (getMethod (Value.ref _) (Str.ofString "parts") _) _ _ _); k_dflt (refine' node_parts ?ahn ?asu ?aN ?aF ?aX ?_; (case ahn => with_reducible assumption); (case aN => k_asm); (case asu => k_extra "m:subX"); (case aF => k_asm); (case aX => k_asm)); intro tk9; (try dsimp only))
  k_with "w:call ref" => (k_here; (with_reducible show wpAny _ _ (call (Value.ref (partsFn _)) [Value.ref _]) _ _ _); k_dflt (refine' Spec.use (parts_any _ ?e0p ?e1p ?e2p) ?qB7 ?qF7 ?qX7 ?qXP7 ?qN7 ?qT7 ?qK7 ?qhd7 ?qhu7 ?_ ?qx7; (case e0p => with_reducible assumption); (case qN7 => k_asm); (k_extra "m:use"); (case e1p => k_extra "m:subX"); (case e2p => omega); (case qx7 => k_extra "m:noX")); (rintro _ nw' h' tk' F' N' ⟨D', pvs', pn', e1, e2, lD', hP'⟩); subst e1; subst nw'; (replace lD' := allLt_of lD'); (try k_sweep); (try dsimp only))
  k_with "w:callWith ref" => (k_here; (with_reducible show wpAny _ _ (callWith _ (Value.ref (partsFn _)) [Value.ref _] _ _) _ _ _); k_dflt (refine' u_callParts ?cX9 ?cF9 ?_; (case cX9 => k_asm); (case cF9 => k_asm)); (try dsimp only))
  k_with "w:call ref" => (k_here; (with_reducible show wpAny _ _ (call (Value.ref 804) [Value.ref _]) _ _ _); k_dflt (refine' Spec.use (isPrim_any _ hn hs ?e2p hwt) ?qB7 ?qF7 ?qX7 ?qXP7 (newsSub ?qN7 ?qs7) ?qT7 ?qK7 ?qhd7 ?qhu7 ?_ ?qx7; (case qN7 => k_asm); (case qs7 => k_extra "m:subX"); (k_extra "m:use"); (case e2p => with_reducible assumption); (case qx7 => k_extra "m:noX")); (rintro _ _ h' tk' F' N' ⟨e1, e2⟩); subst e1 e2; (try k_sweep); (try dsimp only))
  k_with "w:execs cons" => ((with_reducible show wpAny _ _ (execs (Stmt.Assign [Expr.Tuple _ _ _] _ _ :: _) _) _ _ _); k_dflt (refine' next _ _ ?nxF ?nxN ?nb9; (case nxF => k_asm); (case nxN => first | k_asm | (refine' newsSub ?nxA ?nxB; (case nxA => k_asm); (case nxB => k_extra "m:subX"))); (case nb9 => ((rintro (⟨b1, b2⟩ | ⟨b1, b2⟩ | ⟨b1, b2⟩)); all_goals first | contradiction | omega | (simp_all; done)))))
  rcases top with _ | _
  all_goals k_steps
  all_goals (refine' ret _ _ ?rF ?rN ?_; (case rF => k_asm); (case rN => first | k_asm | (refine' newsSub ?nxA ?nxB; (case nxA => k_asm); (case nxB => k_extra "m:subX"))))
  all_goals first | (refine Or.inl ⟨?_, ?_⟩; all_goals first | with_reducible assumption | with_reducible rfl) | (refine Or.inr (Or.inl ⟨?_, ?_⟩); all_goals first | with_reducible assumption | omega) | (refine Or.inr (Or.inr ⟨?_, ?_⟩); all_goals first | with_reducible assumption | (simp_all; done))
set_option maxHeartbeats 1000000 in
theorem fs4 (B' : Below (ktrTop dp un gd cn cs L a ccd cl outer) base (envX cn cs L a ccd cl :: outer) g) (F' : Fr g L' s.heap m) (X' : (KK w.params).In g) (XP' : Prims g) (T' : Top p loose mean mg mb g) (N' : News g L' s.heap news) (hm2 : (L' + 1 + 1 + 1 + 1, o2) ∈ news) (d2 : o2.data = .cell (some (.int (kindOf T) tk4))) (hm3 : m (Str.ofString "_law_node") = some (.ref x)) (hn : NodeIn w.params R (.ref x) T) (hs : ∀ p ∈ R, p ∈ news) (hd : dp + 50 < recursionLimit) (hu : un + 500 < cLine)
    (ret : ∀ h' tk', Fr g L' h' m → News g L' h' news → bad4 T → Q (.ret (.bool false)) { s with heap := h', toks := tk' })
    (next : ∀ h' tk', Fr g L' h' m → News g L' h' news → ¬ bad4 T → wpAny (model lw.row.prog w) ((ktrTop dp un gd cn cs L a ccd cl outer).deeper (fEnv L')) (execs ((fBody (stAt 56)).drop 5) (fEnv L')) Q E { s with heap := h', toks := tk' }) : wpAny (model lw.row.prog w) ((ktrTop dp un gd cn cs L a ccd cl outer).deeper (fEnv L')) (execs ((fBody (stAt 56)).drop 4) (fEnv L')) Q E s := by
  revert X'
  k_fill
  intro X'
  have kdF : KdF (fScope (stAt 56)) := by (unfold KdF; kernel_rfl!)
  have kd0 : KdL (fScope (stAt 56)) (Str.ofString "_law_node") := ⟨by kernel_rfl!, by kernel_rfl!⟩
  have kd1 : KdC (fScope (stAt 56)) L' (Str.ofString "_law_kind") (L' + 1 + 1 + 1 + 1) := ⟨by kernel_rfl!, by kernel_rfl!, by kernel_rfl!⟩
  have kd2 : KdG (fScope (stAt 56)) (Str.ofString "DEFINE") := ⟨by kernel_rfl!, by kernel_rfl!⟩
  have kd3 : KdG (fScope (stAt 56)) (Str.ofString "GLOBAL") := ⟨by kernel_rfl!, by kernel_rfl!⟩
  have kd4 : KdG (fScope (stAt 56)) (Str.ofString "SET_GLOBAL") := ⟨by kernel_rfl!, by kernel_rfl!⟩
  k_with "w:getAttr ref" => (k_here; (with_reducible show wpAny _ _ (getAttr (Value.ref _) (Str.ofString "number") true) _ _ _); k_dflt (refine' node_number ?ahn ?asu ?ahk ?aN ?aF ?aX ?_; (case ahn => with_reducible assumption); (case ahk => first | with_reducible assumption | (simp only [*]; rfl)); (case aN => k_asm); (case asu => k_extra "m:subX"); (case aF => k_asm); (case aX => k_asm)); intro tk9; (try dsimp only))
  k_with "w:getAttr ref" => (k_here; (with_reducible show wpAny _ _ (getAttr (Value.ref _) (Str.ofString "symbol") true) _ _ _); k_dflt (refine' node_symbol ?ahn ?asu ?ahk ?aN ?aF ?aX ?_; (case ahn => with_reducible assumption); (case ahk => first | with_reducible assumption | (simp only [*]; rfl)); (case aN => k_asm); (case asu => k_extra "m:subX"); (case aF => k_asm); (case aX => k_asm)); intro tk9; (try dsimp only))
  k_with "w:getAttr ref" => (k_here; (with_reducible show wpAny _ _ (getAttr (Value.ref _) (Str.ofString "items") true) _ _ _); k_dflt (refine' node_items ?ahn ?asu ?ahk ?aN ?aF ?aX ?_; (case ahn => with_reducible assumption); (case ahk => first | with_reducible assumption | (simp only [*]; rfl)); (case aN => k_asm); (case asu => k_extra "m:subX"); (case aF => k_asm); (case aX => k_asm)); intro li' vi' ni' mi' hi'; (try dsimp only))
  k_with "w:getMethod ref" => (k_here; (with_reducible show wpAny _ _ (getMethod (Value.ref _) (Str.ofString "parts") _) _ _ _); k_dflt (refine' node_parts ?ahn ?asu ?aN ?aF ?aX ?_; (case ahn => with_reducible assumption); (case aN => k_asm); (case asu => k_extra "m:subX"); (case aF => k_asm); (case aX => k_asm)); intro tk9; (try dsimp only))
  k_with "w:call ref" => (k_here; (with_reducible show wpAny _ _ (call (Value.ref (partsFn _)) [Value.ref _]) _ _ _); k_dflt (refine' Spec.use (parts_any _ ?e0p ?e1p ?e2p) ?qB7 ?qF7 ?qX7 ?qXP7 ?qN7 ?qT7 ?qK7 ?qhd7 ?qhu7 ?_ ?qx7; (case e0p => with_reducible assumption); (case qN7 => k_asm); (k_extra "m:use"); (case e1p => k_extra "m:subX"); (case e2p => omega); (case qx7 => k_extra "m:noX")); (rintro _ nw' h' tk' F' N' ⟨D', pvs', pn', e1, e2, lD', hP'⟩); subst e1; subst nw'; (replace lD' := allLt_of lD'); (try k_sweep); (try dsimp only))
  k_with "w:callWith ref" => (k_here; (with_reducible show wpAny _ _ (callWith _ (Value.ref (partsFn _)) [Value.ref _] _ _) _ _ _); k_dflt (refine' u_callParts ?cX9 ?cF9 ?_; (case cX9 => k_asm); (case cF9 => k_asm)); (try dsimp only))
  k_with "w:execs cons" => ((with_reducible show wpAny _ _ (execs (Stmt.If (Expr.Compare _ _ [Expr.Name (Str.ofString "LAMBDA") _] _) _ _ _ :: _) _) _ _ _); k_dflt (refine' next _ _ ?nxF ?nxN ?nb9; (case nxF => k_asm); (case nxN => first | k_asm | (refine' newsSub ?nxA ?nxB; (case nxA => k_asm); (case nxB => k_extra "m:subX"))); (case nb9 => ((rintro ⟨b1, b2⟩); first | contradiction | omega | (simp_all; done)))))
  k_steps
  all_goals (refine' ret _ _ ?rF ?rN ?_; (case rF => k_asm); (case rN => first | k_asm | (refine' newsSub ?nxA ?nxB; (case nxA => k_asm); (case nxB => k_extra "m:subX"))); (refine ⟨?_, ?_⟩; all_goals with_reducible assumption))
end
section
variable {w : World} {dp un : Nat} {gd : Option (List Code)} {cn : Str} {cs : Scope} {L a : Addr} {ccd : Value} {cl : List (Str × Addr)} {outer : List Env} {base g : Heap} {L' : Nat} {m : Str → Option Value} {s : Shared}
    {Q : Flow → Shared → Prop} {E : Value → Shared → Prop} {p : Program} {loose : List Str} {mean : ExcName → Option Value} {mg mb : Str → Option Value} {o1 o2 o3 o4 o5 om ol : Obj} {tk4 : Tok} {R : List (Addr × Obj)} {x kl mt lb pl : Addr} {ks ms ls : List Int} {top : Bool}
set_option maxHeartbeats 1000000 in
theorem fs5_lam {dx : Addr} {t1 t2 t3 t4 tl tr : Tok} {n np : Nat} {lp : Addr} {lx r : Int} {ps : List Int} {vps : List Value} {b : Value} {U : Nd}  (h1 : (x, instObj 283 dx) ∈ R) (h2 : (dx, dictOf [fld w.params "label" t1 (.int lx tl), fld w.params "params" t2 (.ref lp), fld w.params "rest" t3 (.int r tr), fld w.params "body" t4 b] n) ∈ R) (h3 : (lp, listOf vps.toArray np) ∈ R) (hI9 : IntsAre vps ps) (hlx : 0 ≤ lx) (q1 : NodeIn w.params R b U) (B' : Below (ktrTop dp un gd cn cs L a ccd cl outer) base (envX cn cs L a ccd cl :: outer) g) (F' : Fr g L' s.heap m) (X' : (KK w.params).In g) (XP' : Prims g) (T' : Top p loose mean mg mb g) (hd : dp + 50 < recursionLimit) (hu : un + 500 < cLine)
    (N' : News g L' s.heap ((mt, om) :: (lb, ol) :: (L' + 1 + 1 + 1 + 1 + 1, o1) :: (L' + 1 + 1 + 1 + 1, o2) :: (L' + 1 + 1 + 1, o3) :: (L' + 1 + 1, o4) :: (L' + 1, o5) :: R)) (d1 : o1.data = .cell (some (.ref kl))) (d2 : o2.data = .cell (some (.int 7 tk4))) (d4 : o4.data = .cell (some (.ref lb))) (d5 : o5.data = .cell (some (.ref mt))) (hm3 : m (Str.ofString "_law_node") = some (.ref x)) (hm4 : m (Str.ofString "_law_known") = some (.ref kl)) (hm6 : m (Str.ofString "_law_parts") = some (.ref pl))
    (hk9 : IntsAt R kl ks) (hm : LO om ms) (hl : LO ol ls) (hne : NeA mt lb) (hn1 : ∀ p ∈ (L' + 1 + 1 + 1 + 1 + 1, o1) :: (L' + 1 + 1 + 1 + 1, o2) :: (L' + 1 + 1 + 1, o3) :: (L' + 1 + 1, o4) :: (L' + 1, o5) :: R, p.1 ≠ mt) (hn2 : ∀ p ∈ (L' + 1 + 1 + 1 + 1 + 1, o1) :: (L' + 1 + 1 + 1 + 1, o2) :: (L' + 1 + 1 + 1, o3) :: (L' + 1 + 1, o4) :: (L' + 1, o5) :: R, p.1 ≠ lb) (hnc : ∀ p ∈ R, p.1 ≠ L' + 1 + 1 + 1 + 1 + 1) (y1 : ms.length + wt (.lam lx ps r U) ≤ 20000) (y2 : ls.length + wt (.lam lx ps r U) ≤ 20000) (y3 : ks.length + wt (.lam lx ps r U) ≤ 20000)
    (ret : ∀ h' tk' om' ol' ms₁ ls₁ m', Fr g L' h' m' → News g L' h' ((mt, om') :: (lb, ol') :: R) → hdF primOk (.lam lx ps r U) ks top (ms, ls) = none → LO om' ms₁ → LO ol' ls₁ → ms₁.length ≤ ms.length + wt (.lam lx ps r U) → ls₁.length ≤ ls.length + wt (.lam lx ps r U) → Q (.ret (.bool false)) { s with heap := h', toks := tk' })
    (next : ∀ h' tk' om' ol' o1' il wa ks' ms₁ ls₁ m', Fr g L' h' m' → m' (Str.ofString "_law_parts") = some (.ref pl) → News g L' h' ((mt, om') :: (lb, ol') :: (L' + 1 + 1 + 1 + 1 + 1, o1') :: (L' + 1 + 1 + 1 + 1, o2) :: (L' + 1 + 1 + 1, o3) :: (L' + 1 + 1, o4) :: (L' + 1, o5) :: (il, listOf (List.toArray wa) 0) :: R) → o1'.data = .cell (some (.ref il)) → IntsAre wa ks' → LO om' ms₁ → LO ol' ls₁ → NeA il mt → NeA il lb →
      hdF primOk (.lam lx ps r U) ks top (ms, ls) = some (ks', ms₁, ls₁) → ms₁.length + wts (kids (.lam lx ps r U)) ≤ ms.length + wt (.lam lx ps r U) → ls₁.length + wts (kids (.lam lx ps r U)) ≤ ls.length + wt (.lam lx ps r U) → ks'.length + wts (kids (.lam lx ps r U)) ≤ 20000 → wpAny (model lw.row.prog w) ((ktrTop dp un gd cn cs L a ccd cl outer).deeper (fEnv L')) (execs ((fBody (stAt 56)).drop 6) (fEnv L')) Q E { s with heap := h', toks := tk' }) : wpAny (model lw.row.prog w) ((ktrTop dp un gd cn cs L a ccd cl outer).deeper (fEnv L')) (execs ((fBody (stAt 56)).drop 5) (fEnv L')) Q E s := by
  revert X'
  k_fill
  intro X'
  have hc1 : NeA (L' + 1 + 1 + 1 + 1 + 1) mt := hn1 _ (.head _)
  have hc2 : NeA (L' + 1 + 1 + 1 + 1 + 1) lb := hn2 _ (.head _)
  obtain ⟨kvs, kn, hkm, hki⟩ := id hk9
  obtain ⟨⟨mvs, mn, rfl, hmI⟩⟩ := id hm
  obtain ⟨⟨lvs, lnn, rfl, hlI⟩⟩ := id hl
  have hol := own_len ps r
  have hwx : 3 + ps.length + wt U = wt (.lam lx ps r U) := by simp only [wt]
  have hwk2 : wts (kids (.lam lx ps r U)) = wt U := by simp only [kids, wts]; omega
  have hO : (own ps r).length + wts (kids (.lam lx ps r U)) + 2 ≤ wt (.lam lx ps r U) := by omega
  have hP : ps.length + 3 ≤ wt (.lam lx ps r U) := by omega
  clear hol hwx hwk2
  obtain ⟨q9, hown, hq9⟩ := own_split ps r
  have kdF : KdF (fScope (stAt 56)) := by (unfold KdF; kernel_rfl!)
  have kd0 : KdL (fScope (stAt 56)) (Str.ofString "_law_node") := ⟨by kernel_rfl!, by kernel_rfl!⟩
  have kd1 : KdL (fScope (stAt 56)) (Str.ofString "_law_known") := ⟨by kernel_rfl!, by kernel_rfl!⟩
  have kd2 : KdC (fScope (stAt 56)) L' (Str.ofString "_law_met") (L' + 1) := ⟨by kernel_rfl!, by kernel_rfl!, by kernel_rfl!⟩
  have kd3 : KdC (fScope (stAt 56)) L' (Str.ofString "_law_labels") (L' + 1 + 1) := ⟨by kernel_rfl!, by kernel_rfl!, by kernel_rfl!⟩
  have kd4 : KdC (fScope (stAt 56)) L' (Str.ofString "_law_kind") (L' + 1 + 1 + 1 + 1) := ⟨by kernel_rfl!, by kernel_rfl!, by kernel_rfl!⟩
  have kd5 : KdC (fScope (stAt 56)) L' (Str.ofString "_law_inner") (L' + 1 + 1 + 1 + 1 + 1) := ⟨by kernel_rfl!, by kernel_rfl!, by kernel_rfl!⟩
  have kd6 : KdL (fScope (stAt 56)) (Str.ofString "_law_own") := ⟨by kernel_rfl!, by kernel_rfl!⟩
  have kd7 : KdG (fScope (stAt 56)) (Str.ofString "LAMBDA") := ⟨by kernel_rfl!, by kernel_rfl!⟩
  have kd8 : KdG (fScope (stAt 56)) (Str.ofString "_law_once") := ⟨by kernel_rfl!, by kernel_rfl!⟩
  k_with "w:binaryOp Add ref ref" => (k_here; (with_reducible show wpAny _ _ (binaryOp _ (Value.ref _) (Value.ref _)) _ _ _); k_dflt (refine' add_ints_at ?yF1 ?yN1 ?ya1 ?yb1 ?yi1 ?yj1 ?yz1 ?_; (case yF1 => k_asm); (case yN1 => k_asm); (case ya1 => k_mem); (case yb1 => k_mem); (case yi1 => first | with_reducible assumption | exact IntsAre.nil | exact IntsAre.cons _ _ IntsAre.nil); (case yj1 => first | with_reducible assumption | exact IntsAre.nil | exact IntsAre.cons _ _ IntsAre.nil); (case yz1 => first | omega | (simp only [List.length_append, List.length_cons, List.length_nil]; omega))); intro Da' wa' h' F' N' la' hIa'; (try rw [hown] at hIa'); (try k_sweep))
  k_with "w:call ref" => (k_here; (with_reducible show wpAny _ _ (call (Value.ref 811) [Value.ref _, Value.ref _]) _ _ _); k_dflt (refine' Spec.use (once_spec _ ?oI ?one ?oln ?oJ ?olz) ?qB7 ?qF7 ?qX7 ?qXP7 (Pick.front ?qP7 ?qN7) ?qT7 ?qK7 ?qhd7 ?qhu7 ?_ ?qx7; (case qN7 => k_asm); (case qP7 => k_extra "m:pick"); (k_extra "m:use"); (case oI => assumption); (case one => k_all); (case oln => k_mem); (case oJ => first | assumption | exact IntsAre.cons _ _ IntsAre.nil); (case olz => first | omega | (simp only [List.length_append, List.length_cons, List.length_nil]; omega)); (case qx7 => k_extra "m:noX")); (rintro _ _ h' tk' F' N' ⟨mvs', ms', mn', e1, hI', hl', ho'⟩); subst e1; (have hLO' : LO (listOf (List.toArray mvs') mn') ms' := ⟨_, _, rfl, hI'⟩); (try simp only [List.length_cons, List.length_nil] at hl'); (rcases ho' with ⟨ho', e2⟩ | ⟨ho', e2⟩); all_goals (subst e2; (try k_sweep); (try dsimp only)))
  k_with "w:execs cons" => ((with_reducible show wpAny _ _ (execs (Stmt.If (Expr.Compare _ _ [Expr.Name (Str.ofString "FIX") _] _) _ _ _ :: _) _) _ _ _); k_dflt (refine' next _ _ _ _ _ Da' wa' _ _ _ _ ?nF9 ?nm9 ?nN9 ?nd9 ?nw9 ?nlm ?nll ?nx1 ?nx2 ?nh9 ?nz1 ?nz2 ?nz3; (case nF9 => k_asm); (case nm9 => k_extra "m:val"); (case nN9 => (refine' newsSub ?nxA ?nxB; (case nxA => k_asm); (case nxB => k_extra "m:subX"))); (case nd9 => assumption); (case nw9 => exact hIa'); (case nlm => with_reducible assumption); (case nll => with_reducible assumption); (case nx1 => k_ne); (case nx2 => k_ne); (case nh9 => exact lam_some hlx (by assumption) (by assumption)); (case nz1 => omega); (case nz2 => omega); (case nz3 => first | omega | (simp only [List.length_append]; omega))))
  rcases hq9 with ⟨hr, rfl⟩ | ⟨hr, rfl⟩
  all_goals k_steps
  all_goals (refine' ret _ _ _ _ _ _ _ ?rF9 ?rN9 ?rh9 ?rm9 ?rl9 ?rz1 ?rz2; (case rF9 => k_asm); (case rN9 => (refine' newsSub ?nxA ?nxB; (case nxA => k_asm); (case nxB => k_extra "m:subX"))); (case rh9 => first | (refine lam_none1 hlx ?_; with_reducible assumption) | (refine lam_none2 ?_; with_reducible assumption)); (case rm9 => with_reducible assumption); (case rl9 => with_reducible assumption); (case rz1 => omega); (case rz2 => omega))
set_option maxHeartbeats 1000000 in
theorem fs6_fix {dx : Addr} {t1 t2 t3 : Tok} {n nn nl : Nat} {ln l : Addr} {ns : List Int} {vns vs : List Value} {ts : List Nd} {b : Value} {U : Nd}  (h1 : (x, instObj 415 dx) ∈ R) (h2 : (dx, dictOf [fld w.params "numbers" t1 (.ref ln), fld w.params "lambdas" t2 (.ref l), fld w.params "body" t3 b] n) ∈ R) (h3n : (ln, listOf vns.toArray nn) ∈ R) (hI9 : IntsAre vns ns) (h3 : (l, listOf vs.toArray nl) ∈ R) (hz9 : vs.length = ts.length) (hT9 : ∀ (i : Nat) (v : Value) (T : Nd), vs[i]? = some v → ts[i]? = some T → NodeIn w.params R v T) (q1 : NodeIn w.params R b U) (B' : Below (ktrTop dp un gd cn cs L a ccd cl outer) base (envX cn cs L a ccd cl :: outer) g) (F' : Fr g L' s.heap m) (X' : (KK w.params).In g) (XP' : Prims g) (T' : Top p loose mean mg mb g) (hd : dp + 50 < recursionLimit) (hu : un + 500 < cLine)
    (N' : News g L' s.heap ((mt, om) :: (lb, ol) :: (L' + 1 + 1 + 1 + 1 + 1, o1) :: (L' + 1 + 1 + 1 + 1, o2) :: (L' + 1 + 1 + 1, o3) :: (L' + 1 + 1, o4) :: (L' + 1, o5) :: R)) (d1 : o1.data = .cell (some (.ref kl))) (d2 : o2.data = .cell (some (.int 11 tk4))) (d4 : o4.data = .cell (some (.ref lb))) (d5 : o5.data = .cell (some (.ref mt))) (hm3 : m (Str.ofString "_law_node") = some (.ref x)) (hm4 : m (Str.ofString "_law_known") = some (.ref kl)) (hm6 : m (Str.ofString "_law_parts") = some (.ref pl))
    (hk9 : IntsAt R kl ks) (hm : LO om ms) (hl : LO ol ls) (hne : NeA mt lb) (hn1 : ∀ p ∈ (L' + 1 + 1 + 1 + 1 + 1, o1) :: (L' + 1 + 1 + 1 + 1, o2) :: (L' + 1 + 1 + 1, o3) :: (L' + 1 + 1, o4) :: (L' + 1, o5) :: R, p.1 ≠ mt) (hn2 : ∀ p ∈ (L' + 1 + 1 + 1 + 1 + 1, o1) :: (L' + 1 + 1 + 1 + 1, o2) :: (L' + 1 + 1 + 1, o3) :: (L' + 1 + 1, o4) :: (L' + 1, o5) :: R, p.1 ≠ lb) (hnc : ∀ p ∈ R, p.1 ≠ L' + 1 + 1 + 1 + 1 + 1) (y1 : ms.length + wt (.fix ns ts U) ≤ 20000) (y2 : ls.length + wt (.fix ns ts U) ≤ 20000) (y3 : ks.length + wt (.fix ns ts U) ≤ 20000)
    (ret : ∀ h' tk' om' ol' ms₁ ls₁ m', Fr g L' h' m' → News g L' h' ((mt, om') :: (lb, ol') :: R) → hdF primOk (.fix ns ts U) ks top (ms, ls) = none → LO om' ms₁ → LO ol' ls₁ → ms₁.length ≤ ms.length + wt (.fix ns ts U) → ls₁.length ≤ ls.length + wt (.fix ns ts U) → Q (.ret (.bool false)) { s with heap := h', toks := tk' })
    (next : ∀ h' tk' om' ol' o1' il wa ks' ms₁ ls₁ m', Fr g L' h' m' → m' (Str.ofString "_law_parts") = some (.ref pl) → News g L' h' ((mt, om') :: (lb, ol') :: (L' + 1 + 1 + 1 + 1 + 1, o1') :: (L' + 1 + 1 + 1 + 1, o2) :: (L' + 1 + 1 + 1, o3) :: (L' + 1 + 1, o4) :: (L' + 1, o5) :: (il, listOf (List.toArray wa) 0) :: R) → o1'.data = .cell (some (.ref il)) → IntsAre wa ks' → LO om' ms₁ → LO ol' ls₁ → NeA il mt → NeA il lb →
      hdF primOk (.fix ns ts U) ks top (ms, ls) = some (ks', ms₁, ls₁) → ms₁.length + wts (kids (.fix ns ts U)) ≤ ms.length + wt (.fix ns ts U) → ls₁.length + wts (kids (.fix ns ts U)) ≤ ls.length + wt (.fix ns ts U) → ks'.length + wts (kids (.fix ns ts U)) ≤ 20000 → wpAny (model lw.row.prog w) ((ktrTop dp un gd cn cs L a ccd cl outer).deeper (fEnv L')) (execs ((fBody (stAt 56)).drop 7) (fEnv L')) Q E { s with heap := h', toks := tk' }) : wpAny (model lw.row.prog w) ((ktrTop dp un gd cn cs L a ccd cl outer).deeper (fEnv L')) (execs ((fBody (stAt 56)).drop 6) (fEnv L')) Q E s := by
  revert X'
  k_fill
  intro X'
  have hc1 : NeA (L' + 1 + 1 + 1 + 1 + 1) mt := hn1 _ (.head _)
  have hc2 : NeA (L' + 1 + 1 + 1 + 1 + 1) lb := hn2 _ (.head _)
  have hNs : NodesIn w.params R vs ts := ⟨hz9, hT9⟩
  have hlt := len_le_wts ts
  have hzl : vs.length ≤ 50000 := by simp only [wt] at y1; omega
  obtain ⟨kvs, kn, hkm, hki⟩ := id hk9
  obtain ⟨⟨mvs, mn, rfl, hmI⟩⟩ := id hm
  obtain ⟨⟨lvs, lnn, rfl, hlI⟩⟩ := id hl
  have hIl := IntsAre.length hI9
  have hwx : 2 + ns.length + wts ts + wt U = wt (.fix ns ts U) := by simp only [wt]
  have hwk2 : wts (kids (.fix ns ts U)) = wts ts + wt U := by simp only [kids, wts_append, wts]; omega
  have hO : ns.length + wts (kids (.fix ns ts U)) + 2 ≤ wt (.fix ns ts U) := by omega
  clear hwx hwk2 hlt
  have kdF : KdF (fScope (stAt 56)) := by (unfold KdF; kernel_rfl!)
  have kd0 : KdL (fScope (stAt 56)) (Str.ofString "_law_node") := ⟨by kernel_rfl!, by kernel_rfl!⟩
  have kd1 : KdL (fScope (stAt 56)) (Str.ofString "_law_known") := ⟨by kernel_rfl!, by kernel_rfl!⟩
  have kd2 : KdC (fScope (stAt 56)) L' (Str.ofString "_law_met") (L' + 1) := ⟨by kernel_rfl!, by kernel_rfl!, by kernel_rfl!⟩
  have kd3 : KdC (fScope (stAt 56)) L' (Str.ofString "_law_kind") (L' + 1 + 1 + 1 + 1) := ⟨by kernel_rfl!, by kernel_rfl!, by kernel_rfl!⟩
  have kd4 : KdC (fScope (stAt 56)) L' (Str.ofString "_law_inner") (L' + 1 + 1 + 1 + 1 + 1) := ⟨by kernel_rfl!, by kernel_rfl!, by kernel_rfl!⟩
  have kd5 : KdG (fScope (stAt 56)) (Str.ofString "LAMBDA") := ⟨by kernel_rfl!, by kernel_rfl!⟩
  have kd6 : KdG (fScope (stAt 56)) (Str.ofString "_law_once") := ⟨by kernel_rfl!, by kernel_rfl!⟩
  have kd7 : KdG (fScope (stAt 56)) (Str.ofString "FIX") := ⟨by kernel_rfl!, by kernel_rfl!⟩
  k_with "w:binaryOp Add ref ref" => (k_here; (with_reducible show wpAny _ _ (binaryOp _ (Value.ref _) (Value.ref _)) _ _ _); k_dflt (refine' add_ints_at ?yF1 ?yN1 ?ya1 ?yb1 ?yi1 ?yj1 ?yz1 ?_; (case yF1 => k_asm); (case yN1 => k_asm); (case ya1 => k_mem); (case yb1 => k_mem); (case yi1 => first | with_reducible assumption | exact IntsAre.nil | exact IntsAre.cons _ _ IntsAre.nil); (case yj1 => first | with_reducible assumption | exact IntsAre.nil | exact IntsAre.cons _ _ IntsAre.nil); (case yz1 => first | omega | (simp only [List.length_append, List.length_cons, List.length_nil]; omega))); intro Da' wa' h' F' N' la' hIa'; (try k_sweep))
  k_with "w:call ref" => (k_here; (with_reducible show wpAny _ _ (call (Value.ref 811) [Value.ref _, Value.ref _]) _ _ _); k_dflt (refine' Spec.use (once_spec _ ?oI ?one ?oln ?oJ ?olz) ?qB7 ?qF7 ?qX7 ?qXP7 (Pick.front ?qP7 ?qN7) ?qT7 ?qK7 ?qhd7 ?qhu7 ?_ ?qx7; (case qN7 => k_asm); (case qP7 => k_extra "m:pick"); (k_extra "m:use"); (case oI => assumption); (case one => k_all); (case oln => k_mem); (case oJ => first | assumption | exact IntsAre.cons _ _ IntsAre.nil); (case olz => first | omega | (simp only [List.length_append, List.length_cons, List.length_nil]; omega)); (case qx7 => k_extra "m:noX")); (rintro _ _ h' tk' F' N' ⟨mvs', ms', mn', e1, hI', hl', ho'⟩); subst e1; (have hLO' : LO (listOf (List.toArray mvs') mn') ms' := ⟨_, _, rfl, hI'⟩); (try simp only [List.length_cons, List.length_nil] at hl'); (rcases ho' with ⟨ho', e2⟩ | ⟨ho', e2⟩); all_goals (subst e2; (try k_sweep); (try dsimp only)))
  k_with "w:CompSrcT" => (k_dflt (refine' u_filt ?bh9 ?bF9 ?bN9 ?bp9 hzl hNs ?_ ?_; (case bh9 => rfl); (case bF9 => k_asm); (case bN9 => k_asm); (case bp9 => k_mem)); all_goals first | (intro vv TT I oI C oC DD ys m₂ h tk E' hnd hC hx F' N'; obtain ⟨xv, Cv, dv, e9, hx9⟩ := hnd.ref; subst e9; clear hx9; k_sweep) | (intro gg ys fs hfI hfe hfl; unfold LCg.FinE; intro Df' h' tk' F' N' o1'; k_sweep; (try dsimp only)))
  k_with "w:execs cons" => ((with_reducible show wpAny _ _ (execs (Stmt.Return _ _ :: _) _) _ _ _); k_dflt (refine' next _ _ _ _ _ Da' wa' _ _ _ _ ?nF9 ?nm9 ?nN9 ?nd9 ?nw9 ?nlm ?nll ?nx1 ?nx2 ?nh9 ?nz1 ?nz2 ?nz3; (case nF9 => k_asm); (case nm9 => k_extra "m:val"); (case nN9 => (refine' newsSub ?nxA ?nxB; (case nxA => k_asm); (case nxB => k_extra "m:subX"))); (case nd9 => assumption); (case nw9 => exact hIa'); (case nlm => with_reducible assumption); (case nll => with_reducible assumption); (case nx1 => k_ne); (case nx2 => k_ne); (case nh9 => exact fix_some (by omega) (by omega) (hfe.mp (of_decide_eq_true (by assumption))) (by assumption)); (case nz1 => omega); (case nz2 => omega); (case nz3 => first | omega | (simp only [List.length_append]; omega))))
  k_steps
  all_goals first
    | exact ⟨_, _, rfl, by k_asm, by k_asm, kind_notL (by assumption), _, _, rfl⟩
    | exact ⟨_, _, rfl, by k_asm, by k_asm, kind_isL (by assumption)⟩
    | (refine' ret _ _ _ _ _ _ _ ?rF9 ?rN9 ?rh9 ?rm9 ?rl9 ?rz1 ?rz2; (case rF9 => k_asm); (case rN9 => (refine' newsSub ?nxA ?nxB; (case nxA => k_asm); (case nxB => k_extra "m:subX"))); (case rh9 => first | (refine fix_none4 ?_; with_reducible assumption) | (refine fix_none2 (fun q9 => absurd (hfe.mpr q9) ?_); exact of_decide_eq_false (by with_reducible assumption)) | (refine fix_none3 ?_; omega) | (refine fix_none1 ?_; omega)); (case rm9 => with_reducible assumption); (case rl9 => with_reducible assumption); (case rz1 => omega); (case rz2 => omega))
theorem tail_sub1 {α : Type} {a : α} {l : List α} : ∀ p ∈ l, p ∈ a :: l := fun _ h => .tail _ h
theorem seven_eleven : ¬ ((7 : Int) = 11) := by decide
theorem fs5_any {T : Nd} {R0 : List (Addr × Obj)} (hn : NodeIn w.params R0 (.ref x) T) (hs : ∀ p ∈ R0, p ∈ R) (hk : kindOf T = 7) (B' : Below (ktrTop dp un gd cn cs L a ccd cl outer) base (envX cn cs L a ccd cl :: outer) g) (F' : Fr g L' s.heap m) (X' : (KK w.params).In g) (XP' : Prims g) (T' : Top p loose mean mg mb g) (hd : dp + 50 < recursionLimit) (hu : un + 500 < cLine)
    (N' : News g L' s.heap ((mt, om) :: (lb, ol) :: (L' + 1 + 1 + 1 + 1 + 1, o1) :: (L' + 1 + 1 + 1 + 1, o2) :: (L' + 1 + 1 + 1, o3) :: (L' + 1 + 1, o4) :: (L' + 1, o5) :: R)) (d1 : o1.data = .cell (some (.ref kl))) (d2 : o2.data = .cell (some (.int 7 tk4))) (d4 : o4.data = .cell (some (.ref lb))) (d5 : o5.data = .cell (some (.ref mt))) (hm3 : m (Str.ofString "_law_node") = some (.ref x)) (hm4 : m (Str.ofString "_law_known") = some (.ref kl)) (hm6 : m (Str.ofString "_law_parts") = some (.ref pl))
    (hk9 : IntsAt R kl ks) (hm : LO om ms) (hl : LO ol ls) (hne : NeA mt lb) (hn1 : ∀ p ∈ (L' + 1 + 1 + 1 + 1 + 1, o1) :: (L' + 1 + 1 + 1 + 1, o2) :: (L' + 1 + 1 + 1, o3) :: (L' + 1 + 1, o4) :: (L' + 1, o5) :: R, p.1 ≠ mt) (hn2 : ∀ p ∈ (L' + 1 + 1 + 1 + 1 + 1, o1) :: (L' + 1 + 1 + 1 + 1, o2) :: (L' + 1 + 1 + 1, o3) :: (L' + 1 + 1, o4) :: (L' + 1, o5) :: R, p.1 ≠ lb) (hnc : ∀ p ∈ R, p.1 ≠ L' + 1 + 1 + 1 + 1 + 1) (y1 : ms.length + wt T ≤ 20000) (y2 : ls.length + wt T ≤ 20000) (y3 : ks.length + wt T ≤ 20000)
    (ret : ∀ h' tk' om' ol' ms₁ ls₁ m', Fr g L' h' m' → News g L' h' ((mt, om') :: (lb, ol') :: R) → hdF primOk T ks top (ms, ls) = none → LO om' ms₁ → LO ol' ls₁ → ms₁.length ≤ ms.length + wt T → ls₁.length ≤ ls.length + wt T → Q (.ret (.bool false)) { s with heap := h', toks := tk' })
    (next : ∀ h' tk' om' ol' o1' il wa ks' ms₁ ls₁ m', Fr g L' h' m' → m' (Str.ofString "_law_parts") = some (.ref pl) → News g L' h' ((mt, om') :: (lb, ol') :: (L' + 1 + 1 + 1 + 1 + 1, o1') :: (L' + 1 + 1 + 1 + 1, o2) :: (L' + 1 + 1 + 1, o3) :: (L' + 1 + 1, o4) :: (L' + 1, o5) :: (il, listOf (List.toArray wa) 0) :: R) → o1'.data = .cell (some (.ref il)) → IntsAre wa ks' → LO om' ms₁ → LO ol' ls₁ → NeA il mt → NeA il lb →
      hdF primOk T ks top (ms, ls) = some (ks', ms₁, ls₁) → ms₁.length + wts (kids T) ≤ ms.length + wt T → ls₁.length + wts (kids T) ≤ ls.length + wt T → ks'.length + wts (kids T) ≤ 20000 → wpAny (model lw.row.prog w) ((ktrTop dp un gd cn cs L a ccd cl outer).deeper (fEnv L')) (execs ((fBody (stAt 56)).drop 6) (fEnv L')) Q E { s with heap := h', toks := tk' }) : wpAny (model lw.row.prog w) ((ktrTop dp un gd cn cs L a ccd cl outer).deeper (fEnv L')) (execs ((fBody (stAt 56)).drop 5) (fEnv L')) Q E s := by
  refine hn.elim_lam hk fun e0 a b c e f q => ?_
  subst e0
  exact fs5_lam (hs _ a) (hs _ b) (hs _ c) e f (q.mono hs) B' F' X' XP' T' hd hu N' d1 d2 d4 d5 hm3 hm4 hm6 hk9 hm hl hne hn1 hn2 hnc y1 y2 y3 ret next
theorem fs6_any {T : Nd} {R0 : List (Addr × Obj)} (hn : NodeIn w.params R0 (.ref x) T) (hs : ∀ p ∈ R0, p ∈ R) (hk : kindOf T = 11) (B' : Below (ktrTop dp un gd cn cs L a ccd cl outer) base (envX cn cs L a ccd cl :: outer) g) (F' : Fr g L' s.heap m) (X' : (KK w.params).In g) (XP' : Prims g) (T' : Top p loose mean mg mb g) (hd : dp + 50 < recursionLimit) (hu : un + 500 < cLine)
    (N' : News g L' s.heap ((mt, om) :: (lb, ol) :: (L' + 1 + 1 + 1 + 1 + 1, o1) :: (L' + 1 + 1 + 1 + 1, o2) :: (L' + 1 + 1 + 1, o3) :: (L' + 1 + 1, o4) :: (L' + 1, o5) :: R)) (d1 : o1.data = .cell (some (.ref kl))) (d2 : o2.data = .cell (some (.int 11 tk4))) (d4 : o4.data = .cell (some (.ref lb))) (d5 : o5.data = .cell (some (.ref mt))) (hm3 : m (Str.ofString "_law_node") = some (.ref x)) (hm4 : m (Str.ofString "_law_known") = some (.ref kl)) (hm6 : m (Str.ofString "_law_parts") = some (.ref pl))
    (hk9 : IntsAt R kl ks) (hm : LO om ms) (hl : LO ol ls) (hne : NeA mt lb) (hn1 : ∀ p ∈ (L' + 1 + 1 + 1 + 1 + 1, o1) :: (L' + 1 + 1 + 1 + 1, o2) :: (L' + 1 + 1 + 1, o3) :: (L' + 1 + 1, o4) :: (L' + 1, o5) :: R, p.1 ≠ mt) (hn2 : ∀ p ∈ (L' + 1 + 1 + 1 + 1 + 1, o1) :: (L' + 1 + 1 + 1 + 1, o2) :: (L' + 1 + 1 + 1, o3) :: (L' + 1 + 1, o4) :: (L' + 1, o5) :: R, p.1 ≠ lb) (hnc : ∀ p ∈ R, p.1 ≠ L' + 1 + 1 + 1 + 1 + 1) (y1 : ms.length + wt T ≤ 20000) (y2 : ls.length + wt T ≤ 20000) (y3 : ks.length + wt T ≤ 20000)
    (ret : ∀ h' tk' om' ol' ms₁ ls₁ m', Fr g L' h' m' → News g L' h' ((mt, om') :: (lb, ol') :: R) → hdF primOk T ks top (ms, ls) = none → LO om' ms₁ → LO ol' ls₁ → ms₁.length ≤ ms.length + wt T → ls₁.length ≤ ls.length + wt T → Q (.ret (.bool false)) { s with heap := h', toks := tk' })
    (next : ∀ h' tk' om' ol' o1' il wa ks' ms₁ ls₁ m', Fr g L' h' m' → m' (Str.ofString "_law_parts") = some (.ref pl) → News g L' h' ((mt, om') :: (lb, ol') :: (L' + 1 + 1 + 1 + 1 + 1, o1') :: (L' + 1 + 1 + 1 + 1, o2) :: (L' + 1 + 1 + 1, o3) :: (L' + 1 + 1, o4) :: (L' + 1, o5) :: (il, listOf (List.toArray wa) 0) :: R) → o1'.data = .cell (some (.ref il)) → IntsAre wa ks' → LO om' ms₁ → LO ol' ls₁ → NeA il mt → NeA il lb →
      hdF primOk T ks top (ms, ls) = some (ks', ms₁, ls₁) → ms₁.length + wts (kids T) ≤ ms.length + wt T → ls₁.length + wts (kids T) ≤ ls.length + wt T → ks'.length + wts (kids T) ≤ 20000 → wpAny (model lw.row.prog w) ((ktrTop dp un gd cn cs L a ccd cl outer).deeper (fEnv L')) (execs ((fBody (stAt 56)).drop 7) (fEnv L')) Q E { s with heap := h', toks := tk' }) : wpAny (model lw.row.prog w) ((ktrTop dp un gd cn cs L a ccd cl outer).deeper (fEnv L')) (execs ((fBody (stAt 56)).drop 6) (fEnv L')) Q E s := by
  refine hn.elim_fix hk fun e0 a b c e f q j => ?_
  subst e0
  exact fs6_fix (hs _ a) (hs _ b) (hs _ c) e (hs _ f) q.1 (fun i v T h h' => (q.2 i v T h h').mono hs) (j.mono hs) B' F' X' XP' T' hd hu N' d1 d2 d4 d5 hm3 hm4 hm6 hk9 hm hl hne hn1 hn2 hnc y1 y2 y3 ret next
end
set_option maxHeartbeats 1000000 in
theorem fine_gen (w : World) {d : Nat} (hF : FineS w d) {x kl mt lb : Addr} {T : Nd} {ks ms ls : List Int} {om ol : Obj} {top : Bool} {R : List (Addr × Obj)} (hn : NodeIn w.params R (.ref x) T)
    (hk9 : IntsAt R kl ks) (hm : LO om ms) (hl : LO ol ls) (hne : NeA mt lb) (hn1 : ∀ p ∈ R, p.1 ≠ mt) (hn2 : ∀ p ∈ R, p.1 ≠ lb) (hd9 : dpt T ≤ d + 1) (y1 : ms.length + wt T ≤ 20000) (y2 : ls.length + wt T ≤ 20000) (y3 : ks.length + wt T ≤ 20000) :
    Spec w 816 (dmF d + 10) (umF d + 100) [.ref x, .ref kl, .ref mt, .ref lb, .bool top] ((mt, om) :: (lb, ol) :: R) (FineR (d + 1) T ks top ms ls mt lb R) NoX := by
  unfold Spec
  k_fill
  intro dp un gd cn cs a ccd cl outer A₀ base h₀ L m s Q E p loose mean mg mb B F X XP N T9 hk hd hu hret herr
  refine wpAny_call ?_
  have hdm : 40 ≤ dmF d := by unfold dmF; omega
  have hum : 500 ≤ umF d := by unfold umF; omega
  have hd1 : dp + 50 < recursionLimit := by omega
  have hu1 : un + 600 < cLine := by omega
  have hwk := wt_kids T
  have hdk := dpt_kids hd9
  have hlk := len_le_wts (kids T)
  k_dflt (refine' code_defC (binds := [(Str.ofString "_law_node", .ref x), (Str.ofString "_law_known", .ref kl), (Str.ofString "_law_met", .ref mt), (Str.ofString "_law_labels", .ref lb), (Str.ofString "_law_is_top", .bool top)]) ?k1 ?k2 ?k3 ?k4 ?k5 ?kA ?kF ?kK ?k6 ?k7 ?k8 ?k9 ?kB ?kD ?_ ?c2 ?c3 ?c4; k_extra "m:enterC")
  replace N' := led_front (x := [(L' + 1 + 1 + 1 + 1 + 1, o1'), (L' + 1 + 1 + 1 + 1, o2'), (L' + 1 + 1 + 1, o3'), (L' + 1 + 1, o4'), (L' + 1, o5')]) N'
  simp only [List.cons_append, List.nil_append] at N'
  have kdF : KdF (fScope (stAt 56)) := by (unfold KdF; kernel_rfl!)
  have kd0 : KdL (fScope (stAt 56)) (Str.ofString "_law_node") := ⟨by kernel_rfl!, by kernel_rfl!⟩
  have kd1 : KdL (fScope (stAt 56)) (Str.ofString "_law_known") := ⟨by kernel_rfl!, by kernel_rfl!⟩
  have kd2 : KdC (fScope (stAt 56)) L' (Str.ofString "_law_met") (L' + 1) := ⟨by kernel_rfl!, by kernel_rfl!, by kernel_rfl!⟩
  have kd3 : KdC (fScope (stAt 56)) L' (Str.ofString "_law_labels") (L' + 1 + 1) := ⟨by kernel_rfl!, by kernel_rfl!, by kernel_rfl!⟩
  have kd4 : KdC (fScope (stAt 56)) L' (Str.ofString "_law_is_top") (L' + 1 + 1 + 1) := ⟨by kernel_rfl!, by kernel_rfl!, by kernel_rfl!⟩
  have kd5 : KdC (fScope (stAt 56)) L' (Str.ofString "_law_kind") (L' + 1 + 1 + 1 + 1) := ⟨by kernel_rfl!, by kernel_rfl!, by kernel_rfl!⟩
  have kd6 : KdC (fScope (stAt 56)) L' (Str.ofString "_law_inner") (L' + 1 + 1 + 1 + 1 + 1) := ⟨by kernel_rfl!, by kernel_rfl!, by kernel_rfl!⟩
  have kd7 : KdL (fScope (stAt 56)) (Str.ofString "_law_parts") := ⟨by kernel_rfl!, by kernel_rfl!⟩
  have kd8 : KdG (fScope (stAt 56)) (Str.ofString "DEFINE") := ⟨by kernel_rfl!, by kernel_rfl!⟩
  have kd9 : KdG (fScope (stAt 56)) (Str.ofString "GLOBAL") := ⟨by kernel_rfl!, by kernel_rfl!⟩
  have kd10 : KdG (fScope (stAt 56)) (Str.ofString "SET_GLOBAL") := ⟨by kernel_rfl!, by kernel_rfl!⟩
  k_with "w:execs cons" => ((with_reducible show wpAny _ _ (execs [Stmt.Return (some (Expr.Compare _ [CmpOp.NotIn] _ _)) _] _) _ _ _); k_dflt (refine' fine_tail (mt := mt) (ts := kids T) (lb := lb) (R := (D', listOf pvs'.toArray pn') :: R) _ hF ?zB ?zF ?zX ?zXP ?zT ?zk ?zd ?zu (newsSub ?zN ?zs) ?z1 ?z2 ?z3 ?z4 ?z5 ?zmv ?zpl (NodesIn.mono hP' ?zP) ?zz ?zil ?zm ?zl ?zne ?zh1 ?zh2 hdk ?zy1 ?zy2 ?zy3 ?_; (case zpl => k_mem); (case zB => k_asm); (case zF => k_asm); (case zX => k_asm); (case zXP => k_asm); (case zT => k_asm); (case zk => assumption); (case zd => assumption); (case zu => assumption); (case zN => k_asm); (case zs => k_extra "m:subX"); (case z1 => assumption); (case z2 => assumption); (case z3 => assumption); (case z4 => assumption); (case z5 => assumption); (case zmv => k_extra "m:val"); (case zP => k_extra "m:subX"); (case zz => exact Nat.le_trans (Nat.le_of_eq hP'.1) (Nat.le_trans hlk (by omega))); (case zil => (refine' IntsAt.mono ?zi1 ?zi2; (case zi1 => with_reducible assumption); (case zi2 => k_extra "m:subX"))); (case zm => with_reducible assumption); (case zl => with_reducible assumption); (case zne => with_reducible assumption); (case zh1 => k_all); (case zh2 => k_all); (case zy1 => omega); (case zy2 => omega); (case zy3 => first | omega | (simp only [List.length_append]; omega))); intro om' ol' b' h' tk' F' N' hTR; k_sweep; (try dsimp only))
  k_with "w:execs" => ((with_reducible show wpAny _ _ (execs (List.drop 7 (fBody (stAt 56))) _) _ _ _); k_dflt (refine' fine_tail (mt := mt) (ts := kids T) (lb := lb) (R := (D', listOf pvs'.toArray pn') :: R) _ hF ?zB ?zF ?zX ?zXP ?zT ?zk ?zd ?zu (newsSub ?zN ?zs) ?z1 ?z2 ?z3 ?z4 ?z5 ?zmv ?zpl (NodesIn.mono hP' ?zP) ?zz ?zil ?zm ?zl ?zne ?zh1 ?zh2 hdk ?zy1 ?zy2 ?zy3 ?_; (case zpl => k_mem); (case zB => k_asm); (case zF => k_asm); (case zX => k_asm); (case zXP => k_asm); (case zT => k_asm); (case zk => assumption); (case zd => assumption); (case zu => assumption); (case zN => k_asm); (case zs => k_extra "m:subX"); (case z1 => assumption); (case z2 => assumption); (case z3 => assumption); (case z4 => assumption); (case z5 => assumption); (case zmv => k_extra "m:val"); (case zP => k_extra "m:subX"); (case zz => exact Nat.le_trans (Nat.le_of_eq hP'.1) (Nat.le_trans hlk (by omega))); (case zil => (refine' IntsAt.mono ?zi1 ?zi2; (case zi1 => with_reducible assumption); (case zi2 => k_extra "m:subX"))); (case zm => with_reducible assumption); (case zl => with_reducible assumption); (case zne => with_reducible assumption); (case zh1 => k_all); (case zh2 => k_all); (case zy1 => omega); (case zy2 => omega); (case zy3 => first | omega | (simp only [List.length_append]; omega))); intro om' ol' b' h' tk' F' N' hTR; k_sweep; (try dsimp only))
  obtain ⟨kvs, kn, hkm, hki⟩ := id hk9
  k_with "w:getAttr ref" => (k_here; (with_reducible show wpAny _ _ (getAttr (Value.ref _) (Str.ofString "number") true) _ _ _); k_dflt (refine' node_number ?ahn ?asu ?ahk ?aN ?aF ?aX ?_; (case ahn => with_reducible assumption); (case ahk => first | with_reducible assumption | (simp only [*]; rfl)); (case aN => k_asm); (case asu => k_extra "m:subX"); (case aF => k_asm); (case aX => k_asm)); intro tk9; (try dsimp only))
  k_with "w:getAttr ref" => (k_here; (with_reducible show wpAny _ _ (getAttr (Value.ref _) (Str.ofString "symbol") true) _ _ _); k_dflt (refine' node_symbol ?ahn ?asu ?ahk ?aN ?aF ?aX ?_; (case ahn => with_reducible assumption); (case ahk => first | with_reducible assumption | (simp only [*]; rfl)); (case aN => k_asm); (case asu => k_extra "m:subX"); (case aF => k_asm); (case aX => k_asm)); intro tk9; (try dsimp only))
  k_with "w:getAttr ref" => (k_here; (with_reducible show wpAny _ _ (getAttr (Value.ref _) (Str.ofString "items") true) _ _ _); k_dflt (refine' node_items ?ahn ?asu ?ahk ?aN ?aF ?aX ?_; (case ahn => with_reducible assumption); (case ahk => first | with_reducible assumption | (simp only [*]; rfl)); (case aN => k_asm); (case asu => k_extra "m:subX"); (case aF => k_asm); (case aX => k_asm)); intro li' vi' ni' mi' hi'; (try dsimp only))
  k_with "w:getMethod ref" => (k_here; (with_reducible show wpAny _ _ (getMethod (Value.ref _) (Str.ofString "parts") _) _ _ _); k_dflt (refine' node_parts ?ahn ?asu ?aN ?aF ?aX ?_; (case ahn => with_reducible assumption); (case aN => k_asm); (case asu => k_extra "m:subX"); (case aF => k_asm); (case aX => k_asm)); intro tk9; (try dsimp only))
  k_with "w:call ref" => (k_here; (with_reducible show wpAny _ _ (call (Value.ref (partsFn _)) [Value.ref _]) _ _ _); k_dflt (refine' Spec.use (parts_any _ ?e0p ?e1p ?e2p) ?qB7 ?qF7 ?qX7 ?qXP7 ?qN7 ?qT7 ?qK7 ?qhd7 ?qhu7 ?_ ?qx7; (case e0p => with_reducible assumption); (case qN7 => k_asm); (k_extra "m:use"); (case e1p => k_extra "m:subX"); (case e2p => omega); (case qx7 => k_extra "m:noX")); (rintro _ nw' h' tk' F' N' ⟨D', pvs', pn', e1, e2, lD', hP'⟩); subst e1; subst nw'; (replace lD' := allLt_of lD'); (try k_sweep); (try dsimp only))
  k_with "w:callWith ref" => (k_here; (with_reducible show wpAny _ _ (callWith _ (Value.ref (partsFn _)) [Value.ref _] _ _) _ _ _); k_dflt (refine' u_callParts ?cX9 ?cF9 ?_; (case cX9 => k_asm); (case cF9 => k_asm)); (try dsimp only))
  k_with "w:execs cons" => ((with_reducible show wpAny _ _ (execs (Stmt.If (Expr.BoolOp BoolOp.Or [Expr.Compare _ _ _ _, _] _) _ _ _ :: _) _) _ _ _); k_dflt (refine' fs1 ?sB ?sF ?sX ?sP ?sT ?sN ?sm ?sd ?sx hn ?ss ?shd ?shu ?s4 ?skm hki ?_ ?_; (case sN => k_asm); (case sB => k_asm); (case sF => k_asm); (case sX => k_asm); (case sP => k_asm); (case sT => k_asm); (case sm => k_mem); (case sd => with_reducible assumption); (case sx => k_extra "m:val"); (case ss => k_extra "m:lift"); (case shd => first | assumption | k_extra "m:room"); (case shu => first | assumption | k_extra "m:units"); (case s4 => k_extra "m:val"); (case skm => k_mem)); all_goals (first | (intro h' tk' b1 F' N' hb1; with_reducible have hb1 : _ ∨ _ := hb1) | (intro h' tk' F' N' hk1 hk3)); (try k_sweep); (try dsimp only))
  k_with "w:execs" => ((with_reducible show wpAny _ _ (execs (List.drop 1 (fBody (stAt 56))) _) _ _ _); k_dflt (refine' fs1 ?sB ?sF ?sX ?sP ?sT ?sN ?sm ?sd ?sx hn ?ss ?shd ?shu ?s4 ?skm hki ?_ ?_; (case sN => k_asm); (case sB => k_asm); (case sF => k_asm); (case sX => k_asm); (case sP => k_asm); (case sT => k_asm); (case sm => k_mem); (case sd => with_reducible assumption); (case sx => k_extra "m:val"); (case ss => k_extra "m:lift"); (case shd => first | assumption | k_extra "m:room"); (case shu => first | assumption | k_extra "m:units"); (case s4 => k_extra "m:val"); (case skm => k_mem)); all_goals (first | (intro h' tk' b1 F' N' hb1; with_reducible have hb1 : _ ∨ _ := hb1) | (intro h' tk' F' N' hk1 hk3)); (try k_sweep); (try dsimp only))
  k_with "w:execs cons" => ((with_reducible show wpAny _ _ (execs (Stmt.If (Expr.BoolOp BoolOp.Or [Expr.BoolOp _ _ _, _, _] _) _ _ _ :: _) _) _ _ _); k_dflt (refine' fs2 ?sB ?sF ?sX ?sP ?sT ?sN ?sm ?sd ?sx hn ?ss ?shd ?shu ?sm5 ?sd3 (by omega) ?_ ?_; (case sN => k_asm); (case sB => k_asm); (case sF => k_asm); (case sX => k_asm); (case sP => k_asm); (case sT => k_asm); (case sm => k_mem); (case sd => with_reducible assumption); (case sx => k_extra "m:val"); (case ss => k_extra "m:lift"); (case shd => first | assumption | k_extra "m:room"); (case shu => first | assumption | k_extra "m:units"); (case sm5 => k_mem); (case sd3 => with_reducible assumption)); all_goals (intro h' tk' F' N' hb2); (try k_sweep); (try dsimp only))
  k_with "w:execs" => ((with_reducible show wpAny _ _ (execs (List.drop 2 (fBody (stAt 56))) _) _ _ _); k_dflt (refine' fs2 ?sB ?sF ?sX ?sP ?sT ?sN ?sm ?sd ?sx hn ?ss ?shd ?shu ?sm5 ?sd3 (by omega) ?_ ?_; (case sN => k_asm); (case sB => k_asm); (case sF => k_asm); (case sX => k_asm); (case sP => k_asm); (case sT => k_asm); (case sm => k_mem); (case sd => with_reducible assumption); (case sx => k_extra "m:val"); (case ss => k_extra "m:lift"); (case shd => first | assumption | k_extra "m:room"); (case shu => first | assumption | k_extra "m:units"); (case sm5 => k_mem); (case sd3 => with_reducible assumption)); all_goals (intro h' tk' F' N' hb2); (try k_sweep); (try dsimp only))
  k_with "w:execs cons" => ((with_reducible show wpAny _ _ (execs (Stmt.If (Expr.BoolOp BoolOp.And [Expr.Compare _ [CmpOp.In] _ _, _] _) _ _ _ :: _) _) _ _ _); k_dflt (refine' fs4 ?sB ?sF ?sX ?sP ?sT ?sN ?sm ?sd ?sx hn ?ss ?shd ?shu  ?_ ?_; (case sN => k_asm); (case sB => k_asm); (case sF => k_asm); (case sX => k_asm); (case sP => k_asm); (case sT => k_asm); (case sm => k_mem); (case sd => with_reducible assumption); (case sx => k_extra "m:val"); (case ss => k_extra "m:lift"); (case shd => first | assumption | k_extra "m:room"); (case shu => first | assumption | k_extra "m:units")); all_goals (intro h' tk' F' N' hb4); (try k_sweep); (try dsimp only))
  k_with "w:execs" => ((with_reducible show wpAny _ _ (execs (List.drop 4 (fBody (stAt 56))) _) _ _ _); k_dflt (refine' fs4 ?sB ?sF ?sX ?sP ?sT ?sN ?sm ?sd ?sx hn ?ss ?shd ?shu  ?_ ?_; (case sN => k_asm); (case sB => k_asm); (case sF => k_asm); (case sX => k_asm); (case sP => k_asm); (case sT => k_asm); (case sm => k_mem); (case sd => with_reducible assumption); (case sx => k_extra "m:val"); (case ss => k_extra "m:lift"); (case shd => first | assumption | k_extra "m:room"); (case shu => first | assumption | k_extra "m:units")); all_goals (intro h' tk' F' N' hb4); (try k_sweep); (try dsimp only))
  k_with "w:execs cons" => ((with_reducible show wpAny _ _ (execs (Stmt.If (Expr.Compare _ _ [Expr.Name (Str.ofString "LAMBDA") _] _) _ _ _ :: _) _) _ _ _); (rcases Decidable.em (kindOf T = 7) with k7 | k7); all_goals first | (k_dflt (refine' fs5_any (top := top) (R := (D', listOf pvs'.toArray pn') :: R) hn ?ss k7 ?sB ?sF ?sX ?sP ?sT ?shd ?shu (newsSub ?sN ?sN2) ?sd1 ?sd2 ?sd4 ?sd5 ?s3 ?s4 ?s6 ?sk hm hl hne ?sn1 ?sn2 ?snc y1 y2 y3 ?_ ?_; (case sN => k_asm); (case sN2 => k_extra "m:subX"); (case ss => k_extra "m:lift"); (case sB => k_asm); (case sF => k_asm); (case sX => k_asm); (case sP => k_asm); (case sT => k_asm); (case shd => first | assumption | k_extra "m:room"); (case shu => first | assumption | k_extra "m:units"); (case sd1 => with_reducible assumption); (case sd2 => (rw [← k7]; with_reducible assumption)); (case sd4 => with_reducible assumption); (case sd5 => with_reducible assumption); (case s3 => k_extra "m:val"); (case s4 => k_extra "m:val"); (case s6 => k_extra "m:val"); (case sk => exact IntsAt.mono hk9 tail_sub1); (case sn1 => k_all); (case sn2 => k_all); (case snc => k_all)); all_goals first | (intro h' tk' om' ol' o9' il9 wa9 ks9 ms9 ls9 m9 F' hp9 N' d9 hwa9 hm9 hl9 ne91 ne92 e9 z91 z92 z93) | (intro h' tk' om' ol' ms9 ls9 m9 F' N' e9 hm9 hl9 z91 z92); (try k_sweep); (try dsimp only)) | (k_dflt (refine' skip5 ?sB ?sF ?sX ?sP ?sT ?sN ?sm ?sd ?shd ?shu (beq_eq_false_iff_ne.mpr k7) ?_; (case sN => k_asm); (case sB => k_asm); (case sF => k_asm); (case sX => k_asm); (case sP => k_asm); (case sT => k_asm); (case sm => k_mem); (case sd => with_reducible assumption); (case shd => first | assumption | k_extra "m:room"); (case shu => first | assumption | k_extra "m:units")); intro h' tk' F' N'; (try k_sweep); (try dsimp only)))
  k_with "w:execs" => ((with_reducible show wpAny _ _ (execs (List.drop 5 (fBody (stAt 56))) _) _ _ _); (rcases Decidable.em (kindOf T = 7) with k7 | k7); all_goals first | (k_dflt (refine' fs5_any (top := top) (R := (D', listOf pvs'.toArray pn') :: R) hn ?ss k7 ?sB ?sF ?sX ?sP ?sT ?shd ?shu (newsSub ?sN ?sN2) ?sd1 ?sd2 ?sd4 ?sd5 ?s3 ?s4 ?s6 ?sk hm hl hne ?sn1 ?sn2 ?snc y1 y2 y3 ?_ ?_; (case sN => k_asm); (case sN2 => k_extra "m:subX"); (case ss => k_extra "m:lift"); (case sB => k_asm); (case sF => k_asm); (case sX => k_asm); (case sP => k_asm); (case sT => k_asm); (case shd => first | assumption | k_extra "m:room"); (case shu => first | assumption | k_extra "m:units"); (case sd1 => with_reducible assumption); (case sd2 => (rw [← k7]; with_reducible assumption)); (case sd4 => with_reducible assumption); (case sd5 => with_reducible assumption); (case s3 => k_extra "m:val"); (case s4 => k_extra "m:val"); (case s6 => k_extra "m:val"); (case sk => exact IntsAt.mono hk9 tail_sub1); (case sn1 => k_all); (case sn2 => k_all); (case snc => k_all)); all_goals first | (intro h' tk' om' ol' o9' il9 wa9 ks9 ms9 ls9 m9 F' hp9 N' d9 hwa9 hm9 hl9 ne91 ne92 e9 z91 z92 z93) | (intro h' tk' om' ol' ms9 ls9 m9 F' N' e9 hm9 hl9 z91 z92); (try k_sweep); (try dsimp only)) | (k_dflt (refine' skip5 ?sB ?sF ?sX ?sP ?sT ?sN ?sm ?sd ?shd ?shu (beq_eq_false_iff_ne.mpr k7) ?_; (case sN => k_asm); (case sB => k_asm); (case sF => k_asm); (case sX => k_asm); (case sP => k_asm); (case sT => k_asm); (case sm => k_mem); (case sd => with_reducible assumption); (case shd => first | assumption | k_extra "m:room"); (case shu => first | assumption | k_extra "m:units")); intro h' tk' F' N'; (try k_sweep); (try dsimp only)))
  k_with "w:execs cons" => ((with_reducible show wpAny _ _ (execs (Stmt.If (Expr.Compare _ _ [Expr.Name (Str.ofString "FIX") _] _) _ _ _ :: _) _) _ _ _); (rcases Decidable.em (kindOf T = 11) with k11 | k11); all_goals first | exact absurd (k7.symm.trans k11) seven_eleven | (k_dflt (refine' fs6_any (top := top) (R := (D', listOf pvs'.toArray pn') :: R) hn ?ss k11 ?sB ?sF ?sX ?sP ?sT ?shd ?shu (newsSub ?sN ?sN2) ?sd1 ?sd2 ?sd4 ?sd5 ?s3 ?s4 ?s6 ?sk hm hl hne ?sn1 ?sn2 ?snc y1 y2 y3 ?_ ?_; (case sN => k_asm); (case sN2 => k_extra "m:subX"); (case ss => k_extra "m:lift"); (case sB => k_asm); (case sF => k_asm); (case sX => k_asm); (case sP => k_asm); (case sT => k_asm); (case shd => first | assumption | k_extra "m:room"); (case shu => first | assumption | k_extra "m:units"); (case sd1 => with_reducible assumption); (case sd2 => (rw [← k11]; with_reducible assumption)); (case sd4 => with_reducible assumption); (case sd5 => with_reducible assumption); (case s3 => k_extra "m:val"); (case s4 => k_extra "m:val"); (case s6 => k_extra "m:val"); (case sk => exact IntsAt.mono hk9 tail_sub1); (case sn1 => k_all); (case sn2 => k_all); (case snc => k_all)); all_goals first | (intro h' tk' om' ol' o9' il9 wa9 ks9 ms9 ls9 m9 F' hp9 N' d9 hwa9 hm9 hl9 ne91 ne92 e9 z91 z92 z93) | (intro h' tk' om' ol' ms9 ls9 m9 F' N' e9 hm9 hl9 z91 z92); (try k_sweep); (try dsimp only)) | (k_dflt (refine' skip6 ?sB ?sF ?sX ?sP ?sT ?sN ?sm ?sd ?shd ?shu (beq_eq_false_iff_ne.mpr k11) ?_; (case sN => k_asm); (case sB => k_asm); (case sF => k_asm); (case sX => k_asm); (case sP => k_asm); (case sT => k_asm); (case sm => k_mem); (case sd => with_reducible assumption); (case shd => first | assumption | k_extra "m:room"); (case shu => first | assumption | k_extra "m:units")); intro h' tk' F' N'; (try k_sweep); (try dsimp only)))
  k_with "w:execs" => ((with_reducible show wpAny _ _ (execs (List.drop 6 (fBody (stAt 56))) _) _ _ _); (rcases Decidable.em (kindOf T = 11) with k11 | k11); all_goals first | exact absurd (k7.symm.trans k11) seven_eleven | (k_dflt (refine' fs6_any (top := top) (R := (D', listOf pvs'.toArray pn') :: R) hn ?ss k11 ?sB ?sF ?sX ?sP ?sT ?shd ?shu (newsSub ?sN ?sN2) ?sd1 ?sd2 ?sd4 ?sd5 ?s3 ?s4 ?s6 ?sk hm hl hne ?sn1 ?sn2 ?snc y1 y2 y3 ?_ ?_; (case sN => k_asm); (case sN2 => k_extra "m:subX"); (case ss => k_extra "m:lift"); (case sB => k_asm); (case sF => k_asm); (case sX => k_asm); (case sP => k_asm); (case sT => k_asm); (case shd => first | assumption | k_extra "m:room"); (case shu => first | assumption | k_extra "m:units"); (case sd1 => with_reducible assumption); (case sd2 => (rw [← k11]; with_reducible assumption)); (case sd4 => with_reducible assumption); (case sd5 => with_reducible assumption); (case s3 => k_extra "m:val"); (case s4 => k_extra "m:val"); (case s6 => k_extra "m:val"); (case sk => exact IntsAt.mono hk9 tail_sub1); (case sn1 => k_all); (case sn2 => k_all); (case snc => k_all)); all_goals first | (intro h' tk' om' ol' o9' il9 wa9 ks9 ms9 ls9 m9 F' hp9 N' d9 hwa9 hm9 hl9 ne91 ne92 e9 z91 z92 z93) | (intro h' tk' om' ol' ms9 ls9 m9 F' N' e9 hm9 hl9 z91 z92); (try k_sweep); (try dsimp only)) | (k_dflt (refine' skip6 ?sB ?sF ?sX ?sP ?sT ?sN ?sm ?sd ?shd ?shu (beq_eq_false_iff_ne.mpr k11) ?_; (case sN => k_asm); (case sB => k_asm); (case sF => k_asm); (case sX => k_asm); (case sP => k_asm); (case sT => k_asm); (case sm => k_mem); (case sd => with_reducible assumption); (case shd => first | assumption | k_extra "m:room"); (case shu => first | assumption | k_extra "m:units")); intro h' tk' F' N'; (try k_sweep); (try dsimp only)))
  k_with "w:execs cons" => ((with_reducible show wpAny _ _ (execs [Stmt.Return (some (Expr.Compare _ [CmpOp.NotIn] _ _)) _] _) _ _ _); k_dflt (refine' fine_tail (mt := mt) (ts := kids T) (lb := lb) (R := (il9, listOf (List.toArray wa9) 0) :: (D', listOf pvs'.toArray pn') :: R) _ hF ?zB ?zF ?zX ?zXP ?zT ?zk ?zd ?zu (newsSub ?zN ?zs) ?z1 ?z2 ?z3 ?z4 ?z5 ?zmv ?zpl (NodesIn.mono hP' ?zP) ?zz ?zil ?zm ?zl ?zne ?zh1 ?zh2 hdk ?zy1 ?zy2 ?zy3 ?_; (case zpl => k_mem); (case zB => k_asm); (case zF => k_asm); (case zX => k_asm); (case zXP => k_asm); (case zT => k_asm); (case zk => assumption); (case zd => assumption); (case zu => assumption); (case zN => k_asm); (case zs => k_extra "m:subX"); (case z1 => exact d9); (case z2 => assumption); (case z3 => assumption); (case z4 => assumption); (case z5 => assumption); (case zmv => exact hp9); (case zP => k_extra "m:subX"); (case zz => exact Nat.le_trans (Nat.le_of_eq hP'.1) (Nat.le_trans hlk (by omega))); (case zil => exact ⟨_, _, List.Mem.head _, hwa9⟩); (case zm => exact hm9); (case zl => exact hl9); (case zne => with_reducible assumption); (case zh1 => k_all); (case zh2 => k_all); (case zy1 => omega); (case zy2 => omega); (case zy3 => omega)); intro om' ol' b' h' tk' F' N' hTR; k_sweep; (try dsimp only))
  k_with "w:execs" => ((with_reducible show wpAny _ _ (execs (List.drop 7 (fBody (stAt 56))) _) _ _ _); k_dflt (refine' fine_tail (mt := mt) (ts := kids T) (lb := lb) (R := (il9, listOf (List.toArray wa9) 0) :: (D', listOf pvs'.toArray pn') :: R) _ hF ?zB ?zF ?zX ?zXP ?zT ?zk ?zd ?zu (newsSub ?zN ?zs) ?z1 ?z2 ?z3 ?z4 ?z5 ?zmv ?zpl (NodesIn.mono hP' ?zP) ?zz ?zil ?zm ?zl ?zne ?zh1 ?zh2 hdk ?zy1 ?zy2 ?zy3 ?_; (case zpl => k_mem); (case zB => k_asm); (case zF => k_asm); (case zX => k_asm); (case zXP => k_asm); (case zT => k_asm); (case zk => assumption); (case zd => assumption); (case zu => assumption); (case zN => k_asm); (case zs => k_extra "m:subX"); (case z1 => exact d9); (case z2 => assumption); (case z3 => assumption); (case z4 => assumption); (case z5 => assumption); (case zmv => exact hp9); (case zP => k_extra "m:subX"); (case zz => exact Nat.le_trans (Nat.le_of_eq hP'.1) (Nat.le_trans hlk (by omega))); (case zil => exact ⟨_, _, List.Mem.head _, hwa9⟩); (case zm => exact hm9); (case zl => exact hl9); (case zne => with_reducible assumption); (case zh1 => k_all); (case zh2 => k_all); (case zy1 => omega); (case zy2 => omega); (case zy3 => omega)); intro om' ol' b' h' tk' F' N' hTR; k_sweep; (try dsimp only))
  k_steps
  all_goals first
    | (refine hret _ _ _ _ (by k_asm) (newsSub (by k_asm) (by k_extra "m:subX")) (fineR_tail e9 (isSeq_top T top) hTR z91 z92))
    | (refine hret _ _ _ _ (by k_asm) (newsSub (by k_asm) (by k_extra "m:subX")) (fineR_none e9 hm9 hl9 z91 z92))
    | (refine hret _ _ _ _ (by k_asm) (newsSub (by k_asm) (by k_extra "m:subX")) (fineR_tail (hdF_gen k7 k11 hk1 hk3 hb2 hb4) (isSeq_top T top) hTR ?_ ?_); all_goals omega)
    | (refine hret _ _ _ _ (by k_asm) (newsSub (by k_asm) (by k_extra "m:subX")) (fineR_none (hdF_gen4 hb4) hm hl (by omega) (by omega)))
    | (refine hret _ _ _ _ (by k_asm) (newsSub (by k_asm) (by k_extra "m:subX")) (fineR_none (hdF_gen2 hb2) hm hl (by omega) (by omega)))
    | (rcases hb1 with ⟨e1, e2⟩ | ⟨e1, e2, e3⟩; exact hret _ _ _ _ (by k_asm) (newsSub (by k_asm) (by k_extra "m:subX")) (fineR_num e1 e2 hm hl); subst e3; exact hret _ _ _ _ (by k_asm) (newsSub (by k_asm) (by k_extra "m:subX")) (fineR_none (hdF_gen1 e1 e2) hm hl (by omega) (by omega)))
theorem dpt_pos (T : Nd) : 1 ≤ dpt T := by cases T <;> (simp only [dpt]; omega)
theorem fine_zero (w : World) : FineS w 0 := fun {T} {_ _ _ _ _ _ _ _ _ _ _} _ hd => absurd (dpt_pos T) (by omega)
theorem fine_succ (w : World) {d : Nat} (hF : FineS w d) : FineS w (d + 1) := by
  intro T v kl mt lb ks ms ls om ol top R hn hd hk hm hl hne h1 h2 y1 y2 y3
  have e1 : dmF (d + 1) = dmF d + 10 := by unfold dmF; omega
  have e2 : umF (d + 1) = umF d + 100 := by unfold umF; omega
  rw [e1, e2]
  obtain ⟨x, _, _, rfl, _⟩ := hn.ref
  exact fine_gen w hF hn hk hm hl hne h1 h2 hd y1 y2 y3
theorem fine_all (w : World) (d : Nat) : FineS w d := by
  induction d with
  | zero => exact fine_zero w
  | succ d ih => exact fine_succ w ih
theorem setup_25 : True := by
  k_with_none
  k_with "w:subscriptTail Name Constant ref int" => (k_here; (with_reducible show wpAny _ _ (subscriptTail _ _ (Value.ref _) (Value.int _ _)) _ _ _); (with_unfolding_all refine' item_at ?k1 ?k2 ?k3 ?k4 ?k5 ?_ ?k6; (case k1 => k_asm); (case k2 => k_mem); (case k3 => decide); (case k4 => decide); (case k5 => rfl); (case k6 => with_unfolding_all rfl); k_whole))
  k_with "w:call builtin:list.pop" => (k_here; (with_reducible show wpAny _ _ (call (Value.builtin _) [Value.ref _, Value.int 0 _]) _ _ _); k_dflt (refine' pop0 ?qF7 ?qN7 ?qU7 ?qz7 ?_; (case qF7 => k_asm); (case qN7 => k_asm); (case qU7 => k_upd); (case qz7 => (have hLen9 := IntsAre.length (by assumption); simp only [List.length_cons] at *; omega)); k_whole); intro h' F' N'; (try k_sweep))
  k_with "m:enter" => ((case kA => exact rfl); (case kF => exact rfl); (case kK => assumption); (case k1 => k_asm); (case k2 => k_asm); (case k3 => k_asm); (case k4 => k_asm); (case k5 => k_asm); (case k6 => k_is); (case k7 => k_is); (case k8 => k_extra "m:room0"); (case k9 => exact BindsTo.of_eq rfl); (case c5 => decide); (case kB => exact locs rfl); (case c2 => exact rfl); (case c3 => exact rfl); (case c4 => exact rfl); k_whole; intro g' L' h' FG' F' N' B' X' T'; (have XP' := Prims.keeps (by assumption) (Fr.keep FG')); (try dsimp only); (try k_fold); (refine' enterQ ?_); intro Q9 hQ9; (show let A9 := _; wpAny _ A9 _ _ _ _); intro A9)
  k_with "m:pick" => first | exact Pick.head | (apply Pick.tail; k_extra "m:pick") | (apply Pick.app; k_extra "m:pick")
  k_with "m:use" => ((case qB7 => k_asm); (case qF7 => k_asm); (case qX7 => k_asm); (case qXP7 => k_asm); (case qT7 => k_asm); (case qK7 => first | exact rfl | assumption); (case qhd7 => k_extra "m:room"); (case qhu7 => k_extra "m:units"))
  k_with "m:noX" => exact fun _ _ _ _ _ _ h => False.elim h
  k_with "w:call builtin:len" => (k_here; (with_reducible show wpAny _ _ (call (Value.builtin "len") [Value.ref _]) _ _ _); k_dflt (refine' kst_len ?k1 ?k2 ?k3 ?k4 ?_; (case k1 => k_asm); (case k2 => k_mem); (case k3 => exact IntsAre.length (by assumption)); (case k4 => omega); k_whole))
  k_with "w:subscriptTail Name Call ref int" => (k_here; (with_reducible show wpAny _ _ (subscriptTail _ _ (Value.ref _) (Value.int _ _)) _ _ _); k_dflt (refine' ksa_sub ?k1 ?k2 ?k3 ?k4 ?k5 ?k6 ?_ ?k7; (case k1 => k_asm); (case k2 => k_mem); (case k3 => with_reducible assumption); (case k4 => omega); (case k5 => omega); (case k6 => omega); (case k7 => with_unfolding_all rfl); k_whole); intro _)
  k_with "w:subscriptTail Name Name ref int" => (k_here; (with_reducible show wpAny _ _ (subscriptTail _ _ (Value.ref _) (Value.int _ _)) _ _ _); k_dflt (refine' ksa_sub ?k1 ?k2 ?k3 ?k4 ?k5 ?k6 ?_ ?k7; (case k1 => k_asm); (case k2 => k_mem); (case k3 => with_reducible assumption); (case k4 => omega); (case k5 => omega); (case k6 => omega); (case k7 => with_unfolding_all rfl); k_whole); intro _)
  k_with "m:in" => first | assumption | exact List.Mem.head _ | (apply List.mem_cons_of_mem; k_extra "m:in") | (apply List.mem_append_right; k_extra "m:in") | (apply List.mem_append_left; k_extra "m:in")
  k_with "m:sub" => first | exact List.forall_mem_nil _ | exact fun _ h => h | (refine' List.forall_mem_cons.mpr ⟨?a9, ?b9⟩; (case a9 => first | k_mem | k_extra "m:in"); (case b9 => k_extra "m:sub")) | (refine' List.forall_mem_append.mpr ⟨?a9, ?b9⟩; (case a9 => k_extra "m:sub"); (case b9 => k_extra "m:sub")) | (intro p9 h9; k_extra "m:in")
  k_with "m:mid" => first | (apply Mid.cons; k_extra "m:mid") | exact Mid.base
  k_with "m:enterC" => ((case kA => exact rfl); (case kF => exact rfl); (case kK => assumption); (case k1 => k_asm); (case k2 => k_asm); (case k3 => k_asm); (case k4 => k_asm); (case k5 => k_asm); (case k6 => k_is); (case k7 => k_is); (case k8 => k_extra "m:room0"); (case k9 => exact BindsTo.of_eq rfl); (case kB => exact rfl); (case kD => decide +kernel); (case c2 => exact rfl); (case c3 => exact rfl); (case c4 => exact rfl); k_whole; intro g' L' h' tk' cells' FG' F' N' Y' B' X' T' l1; (have lC' : CellsOff _ _ := l1); clear l1; (have XP' := Prims.keeps (by assumption) (Fr.keep FG')); (k_extra "m:cells"); (try simp only [List.cons_append, List.nil_append] at N'); (try dsimp only); (try k_fold); (refine' enterQ ?_); intro Q9 hQ9; (show let A9 := _; wpAny _ A9 _ _ _ _); intro A9)
  k_with "m:X" => (refine' mem_fresh ?m9 ?a9 ?b9 ?c9; (case m9 => k_mem); (case a9 => k_ne); (case b9 => k_ne); (case c9 => k_all))
  k_with "m:Xs" => (refine' sub_fresh ?m9 ?a9; (case m9 => k_extra "m:sub"); (case a9 => (refine' Above2.sub ?h8 ?s8; (case h8 => with_reducible assumption); (case s8 => k_extra "m:sub"))))
  k_with "m:h" => with_reducible assumption
  k_with "m:ne" => first | with_reducible assumption | (refine' Ne.symm ?s9; (case s9 => with_reducible assumption)) | (refine' AllLt.neL ?h9 ?m9; (case h9 => k_extra "m:h"); (case m9 => k_mem)) | (refine' AllLt.neR ?h9 ?m9; (case h9 => k_extra "m:h"); (case m9 => k_mem)) | (refine' NeA.out ?h9; (case h9 => k_extra "m:h")) | (refine' NeA.sym ?h9; (case h9 => k_extra "m:h")) | (refine' Off1.neL ?h9 ?m9; (case h9 => k_extra "m:h"); (case m9 => k_mem)) | (refine' Off1.neR ?h9 ?m9; (case h9 => k_extra "m:h"); (case m9 => k_mem)) | (refine' CellsOff.neL ?h9 ?m9 ?b9; (case h9 => k_extra "m:h"); (case m9 => k_mem); (case b9 => k_extra "m:up")) | (refine' CellsOff.neR ?h9 ?m9 ?b9; (case h9 => k_extra "m:h"); (case m9 => k_mem); (case b9 => k_extra "m:up")) | exact up12 | exact up12.symm | exact up13 | exact up13.symm | exact up14 | exact up14.symm | exact up15 | exact up15.symm | omega
  k_with "m:all" => first | with_reducible assumption | (refine' AllLt.neS ?h9 ?s9; (case h9 => k_extra "m:h"); (case s9 => k_extra "m:sub")) | (refine' Off1.neS ?h9 ?s9; (case h9 => k_extra "m:h"); (case s9 => k_extra "m:sub")) | (refine' Above2.ne1 ?h9; (case h9 => k_extra "m:h")) | (refine' Above2.ne2 ?h9; (case h9 => k_extra "m:h")) | (refine' Above2.ne ?h9 ?m9; (case h9 => k_extra "m:h"); (case m9 => k_mem)) | (refine' CellsOff.ne ?h9 ?b9 ?s9; (case h9 => k_extra "m:h"); (case b9 => k_extra "m:up"); (case s9 => k_extra "m:sub")) | (refine' ne_of_below ?h9; (case h9 => k_extra "m:h"))
  k_with "w:FinE" => ((unfold LCg.FinE); intro D' h' tk' F' N' o1'; (try simp only [List.nil_append, List.cons_append] at N'); (try dsimp only))
  k_with "w:FinA" => ((unfold LCg.FinA); intro D' h' tk' F' N' o1'; (try simp only [List.nil_append, List.cons_append] at N'); (try dsimp only))
  k_with "w:binaryOp Add ref ref" => (k_here; (with_reducible show wpAny _ _ (binaryOp _ (Value.ref _) (Value.ref _)) _ _ _); k_dflt (refine' add_ints_at ?F ?N ?a ?b ?i ?j ?z ?_; (case F => k_asm); (case N => k_asm); (case a => k_mem); (case b => k_mem); (case i => first | with_reducible assumption | exact .nil | exact .cons _ _ .nil); (case j => first | with_reducible assumption | exact .nil | exact .cons _ _ .nil); (case z => (simp only [List.length_append, List.length_cons, List.length_nil]; omega))); intro D' ws' h' F' N' l1 hI'; (try k_sweep))
  k_with "m:cells" => (have hY := cells_five Y'; obtain ⟨o1', o2', o3', o4', o5', hE', d1', d2', d3', d4', d5'⟩ := hY; subst hE'; clear Y'; (try replace d1' := cellSome d1' rfl); (try replace d2' := cellSome d2' rfl); (try replace d3' := cellSome d3' rfl); (try replace d4' := cellSome d4' rfl); (try replace d5' := cellSome d5' rfl))
  k_with "m:cells" => (have hY := cells_four Y'; obtain ⟨o1', o2', o3', o4', hE', d1', d2', d3', d4'⟩ := hY; subst hE'; clear Y'; (try replace d1' := cellSome d1' rfl); (try replace d2' := cellSome d2' rfl); (try replace d3' := cellSome d3' rfl); (try replace d4' := cellSome d4' rfl))
  k_with "m:cells" => (have hY := cells_two Y'; obtain ⟨o1', o2', hE', d1', d2'⟩ := hY; subst hE'; clear Y'; (try replace d1' := cellSome d1' rfl); (try replace d2' := cellSome d2' rfl))
  k_with "m:cells" => (have hY := cells_three Y'; obtain ⟨o1', o2', o3', hE', d1', d2', d3'⟩ := hY; subst hE'; clear Y'; (try replace d1' := cellSome d1' rfl); (try replace d2' := cellSome d2' rfl); (try replace d3' := cellSome d3' rfl))
  k_with "w:KAt" => ((refine' KAt.of ?kh9 ?_; (case kh9 => assumption)); (try dsimp only))
  k_with "m:room" => ktr_room
  k_with "m:units" => ktr_units
  k_with "m:room0" => first | (refine' room0 ?rh9; (case rh9 => assumption)) | ktr_room
  k_with "m:units2" => first | (refine' room1 ?rh9 ?re9; (case rh9 => assumption); (case re9 => exact rfl)) | (refine' room2 ?rh8 ?re8; (case rh8 => assumption); (case re8 => exact rfl)) | (refine' room3 ?rh7 ?re7; (case rh7 => assumption); (case re7 => exact rfl)) | (refine' room4 ?rh6 ?re6; (case rh6 => assumption); (case re6 => exact rfl)) | ((have hcL9 := cLine_is); (simp +zetaDelta only [units_in1, units_deeper, Around.mark_units, units_caller, cLine] at *); (try dsimp only [ktrTop] at *); omega)
  k_with "m:room2" => first | (refine' room1 ?rh9 ?re9; (case rh9 => assumption); (case re9 => exact rfl)) | (refine' room2 ?rh8 ?re8; (case rh8 => assumption); (case re8 => exact rfl)) | (refine' room3 ?rh7 ?re7; (case rh7 => assumption); (case re7 => exact rfl)) | (refine' room4 ?rh6 ?re6; (case rh6 => assumption); (case re6 => exact rfl)) | ((simp +zetaDelta only [depth_under_make, depth_under_kw, depth_in1, depth_deeper, depth_caller, recursionLimit] at *); (try dsimp only [ktrTop] at *); omega)
  k_with "m:up" => first | exact Nat.le_add_right _ 1 | exact Nat.le_add_right _ 2 | exact Nat.le_add_right _ 3 | exact Nat.le_add_right _ 4 | exact Nat.le_add_right _ 5 | omega
  k_with "w:call ref" => (k_here; (with_reducible show wpAny _ _ (call (Value.ref 756) [Value.ref _, Value.int _ _]) _ _ _); k_dflt (refine' Spec.use (draw_spec _ ?qI7 ?qne7 ?qm17 ?qm27 ?ql7) ?qB7 ?qF7 ?qX7 ?qXP7 (Pick.front ?qP7 ?qN7) ?qT7 ?qK7 ?qhd7 ?qhu7 ?_ ?qx7; (case qN7 => k_asm); (case qP7 => k_extra "m:pick"); (k_extra "m:use"); (case qI7 => assumption); (case qne7 => k_all); (case qm17 => first | decide | omega); (case qm27 => first | decide | omega); (case ql7 => first | assumption | (simp; done) | omega); (case qx7 => k_extra "m:noX"); (rintro _ _ h' tk' F' N' ⟨vs', ns', n', k', t', e1, e2, hI', hl', hk0, hk1⟩); subst e1 e2; (try k_sweep); (try dsimp only)))
  k_with "w:call ref" => (k_here; (with_reducible show wpAny _ _ (call (Value.ref 768) [Value.ref _, Value.ref _]) _ _ _); k_dflt (refine' Spec.use (one_spec _ ?qI7 ?qne7 ?ql7 ?qit7 ?qII7 ?qz07 ?qz17) ?qB7 ?qF7 ?qX7 ?qXP7 (Pick.front ?qP7 ?qN7) ?qT7 ?qK7 ?qhd7 ?qhu7 ?_ ?qx7; (case qN7 => k_asm); (case qP7 => k_extra "m:pick"); (case qit7 => k_mem); (k_extra "m:use"); (case qI7 => assumption); (case qII7 => assumption); (case qne7 => k_all); (case ql7 => first | assumption | (simp; done) | omega); (case qz07 => first | decide | omega); (case qz17 => first | decide | omega); (case qx7 => k_extra "m:noX"); (rintro _ _ h' tk' F' N' ⟨vs', ns', n', k', t', e1, e2, hI', hl'⟩); subst e1 e2; (try k_sweep); (try dsimp only)))
  k_with "w:call ref" => (k_here; (with_reducible show wpAny _ _ (call (Value.ref 775) [Value.ref _, Value.int _ _]) _ _ _); k_dflt (refine' Spec.use (new_spec _ ?qne7 ?qhb7 ?qha7) ?qB7 ?qF7 ?qX7 ?qXP7 (Pick.front ?qP7 ?qN7) ?qT7 ?qK7 ?qhd7 ?qhu7 ?_ ?qx7; (case qN7 => k_asm); (case qP7 => k_extra "m:pick"); (k_extra "m:use"); (case qne7 => k_all); (case qhb7 => omega); (case qha7 => first | assumption | omega); (case qx7 => k_extra "m:noX"); (rintro _ _ h' tk' F' N' ⟨a1', b1', ta1', tb1', n', k', t', e1, e2, hb', hk'⟩); subst e1 e2; (try k_sweep); (try dsimp only)))
  k_with "w:call ref" => (k_here; (with_reducible show wpAny _ _ (call (Value.ref 782) [Value.ref _, Value.ref _, Value.int _ _]) _ _ _); k_dflt (refine' Spec.use (bind_spec _ ?qI7 ?qds7 ?qne7 ?qne27 ?ql7 ?qhb7 ?qha7) ?qB7 ?qF7 ?qX7 ?qXP7 (Pick.front2 ?qP7 ?qP27 ?qN7) ?qT7 ?qK7 ?qhd7 ?qhu7 ?_ ?qx7; (case qN7 => k_asm); (case qP7 => k_extra "m:pick"); (case qP27 => k_extra "m:pick"); (k_extra "m:use"); (case qI7 => assumption); (case qds7 => assumption); (case qne7 => k_all); (case qne27 => k_all); (case ql7 => first | assumption | (simp; done) | omega); (case qhb7 => omega); (case qha7 => first | assumption | omega); (case qx7 => k_extra "m:noX"); (rintro _ _ h' tk' F' N' ⟨vs', ns', n', a1', b1', ta1', tb1', n2', k', t', e1, e2, hI', hl', hb', hk'⟩); subst e1 e2; (try k_sweep); (try dsimp only)))
  k_with "w:eval Name" => ((with_reducible show wpAny _ _ (eval (Expr.Name _ _) (envOf _ _ _ _ _)) _ _ _); first | (with_reducible refine' nm_L0 ?kZ8 ?FZ8 ?kfZ8 ?vZ8 ?_; (case kZ8 => assumption); (case FZ8 => k_asm); (case kfZ8 => assumption); (case vZ8 => k_extra "m:val"); k_whole) | (with_reducible refine' nm_K0 ?kZ7 ?FZ7 ?kfZ7 ?XZ7 ?TZ7 ?eZ7 ?_; (case kZ7 => assumption); (case FZ7 => k_asm); (case kfZ7 => assumption); (case XZ7 => k_asm); (case TZ7 => k_asm); (case eZ7 => k_is); k_whole))
  k_with "w:eval Name" => ((with_reducible show wpAny _ _ (eval (Expr.Name _ _) (envOfC _ _ _ _ _)) _ _ _); first | (with_reducible refine' nm_L ?kZ9 ?FZ9 ?kfZ9 ?vZ9 ?_; (case kZ9 => assumption); (case FZ9 => k_asm); (case kfZ9 => assumption); (case vZ9 => k_extra "m:val"); k_whole) | (with_reducible refine' nm_C ?kZ9 ?kfZ9 ?NZ9 ?mZ9 ?dZ9 ?_; (case kZ9 => assumption); (case kfZ9 => assumption); (case NZ9 => k_asm); (case mZ9 => k_mem); (case dZ9 => k_asm); k_whole) | (with_reducible refine' nm_K ?kZ9 ?FZ9 ?kfZ9 ?XZ9 ?TZ9 ?eZ9 ?_; (case kZ9 => assumption); (case FZ9 => k_asm); (case kfZ9 => assumption); (case XZ9 => k_asm); (case TZ9 => k_asm); (case eZ9 => k_is); k_whole))
  k_with "w:eval Name" => ((with_reducible show wpAny _ _ (eval (Expr.Name _ _) (compEnvC _ _ _ _)) _ _ _); k_dflt (refine' lcf_free ?NZ9 ?cZ9 ?mZ9 ?dZ9 ?_ ?aZ9 ?bZ9; (case bZ9 => rfl); (case aZ9 => rfl); (case NZ9 => k_asm); (case cZ9 => rfl); (case mZ9 => k_mem); (case dZ9 => k_asm); k_whole))
  k_with "m:val" => first | (with_reducible exact upd_hit) | ((with_reducible refine' upd_skip ?h9 ?k9); (case h9 => kernel_rfl!); (case k9 => k_extra "m:val")) | with_reducible assumption | (k_dflt exact rfl)
  k_with "m:led" => ((case qL7 => assumption); (case qN7 => assumption); (case qB7 => k_asm); (case qF7 => k_asm); (case qX7 => k_asm); (case qXP7 => k_asm); (case qT7 => k_asm); (case qK7 => first | exact rfl | assumption); (case qhd7 => k_extra "m:room"); (case qhu7 => k_extra "m:units"))
  k_with "w:newList" => (k_here; (with_reducible rename Led _ _ _ _ _ _ _ => Lx); k_dflt (refine' u_newList _ _ Lx ?qN7 ?qF7 ?qz7 ?_; (case qN7 => assumption); (case qF7 => k_asm); (case qz7 => exact Nat.le_of_ble_eq_true rfl); k_whole); intro D' h' F' N' Ld'; clear Lx; (try k_sweep); (try dsimp only))
  k_with "w:binaryOp Add ref ref" => (k_here; (with_reducible show wpAny _ _ (binaryOp _ (Value.ref _) (Value.ref _)) _ _ _); (with_reducible rename Led _ _ _ _ _ _ _ => Lx); k_dflt (refine' u_add _ _ Lx ?qN7 ?qF7 ?qa7 ?qb7 ?qz7 ?_; (case qN7 => assumption); (case qF7 => k_asm); (case qa7 => k_extra "m:intl"); (case qb7 => k_extra "m:intl"); (case qz7 => omega); k_whole); intro D' o' h' F' N' Ld' hL'; clear Lx; (try k_sweep); (try dsimp only))
  k_with "m:intl" => first | with_reducible assumption | exact intL_nil | exact intL_one | (refine' IntL.mono ?h9 ?s9 ?b9; (case h9 => with_reducible assumption); (case b9 => exact Nat.le_refl _); (case s9 => k_extra "m:lift"))
  k_with "m:lift" => first | (with_reducible exact id_sub) | (with_reducible exact left_sub) | ((with_reducible refine' tail_sub ?s9); (case s9 => k_extra "m:lift")) | ((with_reducible refine' app_sub ?s9); (case s9 => k_extra "m:lift")) | ((with_reducible refine' left_sub2 ?s9); (case s9 => k_extra "m:lift")) | with_reducible assumption
  k_with "w:call ref" => (k_here; (with_reducible show wpAny _ _ (call (Value.ref 756) [Value.ref _, Value.int _ _]) _ _ _); (with_reducible rename Led _ _ _ _ _ _ _ => Lx); k_dflt (refine' u_draw Lx ?qN7 ?qB7 ?qF7 ?qX7 ?qXP7 ?qT7 ?qK7 ?qhd7 ?qhu7 ?qm17 ?qm27 ?_; (k_extra "m:led1"); (case qm17 => first | decide | omega); (case qm27 => first | decide | omega)); intro od' k' t' h' tk' F' N' Ld' hk0 hk1; clear Lx; (try k_sweep); (try dsimp only))
  k_with "m:led1" => ((case qN7 => assumption); (case qB7 => k_asm); (case qF7 => k_asm); (case qX7 => k_asm); (case qXP7 => k_asm); (case qT7 => k_asm); (case qK7 => first | exact rfl | assumption); (case qhd7 => k_extra "m:room"); (case qhu7 => k_extra "m:units"))
  k_with "w:call ref" => (k_here; (with_reducible show wpAny _ _ (call (Value.ref 768) [Value.ref _, Value.ref _]) _ _ _); (with_reducible rename Led _ _ _ _ _ _ _ => Lx); k_dflt (refine' u_one Lx ?qN7 ?qB7 ?qF7 ?qX7 ?qXP7 ?qT7 ?qK7 ?qhd7 ?qhu7 ?qit7 ?qII7 ?qz07 ?qz17 ?_; (k_extra "m:led1"); (case qit7 => k_mem); (case qII7 => k_extra "m:ints"); (case qz07 => first | decide | omega); (case qz17 => first | decide | omega)); intro od' k' t' h' tk' F' N' Ld'; clear Lx; (try k_sweep); (try dsimp only))
  k_with "m:ints" => first | with_reducible assumption | (repeat' (first | exact IntsAre.nil | refine IntsAre.cons _ _ ?_))
  k_with "w:call ref" => (k_here; (with_reducible show wpAny _ _ (call (Value.ref 782) [Value.ref _, Value.ref _, Value.int _ _]) _ _ _); (with_reducible rename Led _ _ _ _ _ _ _ => Lx); k_dflt (refine' u_bind Lx ?qN7 ?qB7 ?qF7 ?qX7 ?qXP7 ?qT7 ?qK7 ?qhd7 ?qhu7 ?qha7 ?_; (k_extra "m:led1"); (case qha7 => first | exact .inl rfl | exact .inr rfl)); intro od' oe' k' t' h' tk' F' N' Ld' hk'; clear Lx; (try k_sweep); (try dsimp only))
  k_with "w:call ref" => (k_here; (with_reducible show wpAny _ _ (call (Value.ref 797) [Value.ref _, Value.ref _, Value.ref _, Value.int _ _]) _ _ _); (with_reducible rename Led _ _ _ _ _ _ _ => Lx); k_dflt (refine' u_node ?qhN7 Lx ?qN7 ?qB7 ?qF7 ?qX7 ?qXP7 ?qT7 ?qK7 ?qhd7 ?qhu7 ?qkn7 ?qkl7 ?qdp7 ?qdp27 ?_; (case qhN7 => assumption); (k_extra "m:led1"); (case qkn7 => k_extra "m:intl"); (case qkl7 => omega); (case qdp7 => omega); (case qdp27 => omega)); intro od' oe' x' r' T' h' tk' F' N' Ld' hT' hw' hD'; clear Lx; (try k_sweep); (try dsimp only))
  k_with "m:nodel" => first | with_reducible assumption | (refine' NodeIn.mono ?h9 ?s9; (case h9 => with_reducible assumption); (case s9 => k_extra "m:lift"))
  k_with "m:intx" => first | with_reducible assumption | (refine' IntX.mono ?h9 ?s9 ?b9; (case h9 => with_reducible assumption); (case b9 => exact Nat.le_refl _); (case s9 => k_extra "m:lift"))
  k_with "w:call ref" => (k_here; (with_reducible show wpAny _ _ (call (Value.ref 66) [_]) _ _ _); (with_reducible rename Led _ _ _ _ _ _ _ => Lx); k_dflt (refine' const_use Lx ?qN7 ?qB7 ?qF7 ?qX7 ?qXP7 ?qT7 ?qK7 ?qhd7 ?qhu7  ?_; (k_extra "m:led1"); skip); rintro y' r' h' tk' F' N' Ld' hA' hT'; clear Lx; (try k_sweep); (try dsimp only))
  k_with "w:call ref" => (k_here; (with_reducible show wpAny _ _ (call (Value.ref 85) [Value.int _ _]) _ _ _); (with_reducible rename Led _ _ _ _ _ _ _ => Lx); k_dflt (refine' local_use Lx ?qN7 ?qB7 ?qF7 ?qX7 ?qXP7 ?qT7 ?qK7 ?qhd7 ?qhu7  ?_; (k_extra "m:led1"); skip); rintro y' r' h' tk' F' N' Ld' hA' hT'; clear Lx; (try k_sweep); (try dsimp only))
  k_with "w:call ref" => (k_here; (with_reducible show wpAny _ _ (call (Value.ref 104) [Value.int _ _]) _ _ _); (with_reducible rename Led _ _ _ _ _ _ _ => Lx); k_dflt (refine' global_use Lx ?qN7 ?qB7 ?qF7 ?qX7 ?qXP7 ?qT7 ?qK7 ?qhd7 ?qhu7  ?_; (k_extra "m:led1"); skip); rintro y' r' h' tk' F' N' Ld' hA' hT'; clear Lx; (try k_sweep); (try dsimp only))
  k_with "w:call ref" => (k_here; (with_reducible show wpAny _ _ (call (Value.ref 137) [Value.int _ _, _]) _ _ _); (with_reducible rename Led _ _ _ _ _ _ _ => Lx); k_dflt (refine' setl_use Lx ?qN7 ?qB7 ?qF7 ?qX7 ?qXP7 ?qT7 ?qK7 ?qhd7 ?qhu7 ?q1 ?_; (k_extra "m:led1"); (case q1 => k_extra "m:nodel")); rintro y' r' h' tk' F' N' Ld' hA' hT'; clear Lx; (try k_sweep); (try dsimp only))
  k_with "w:call ref" => (k_here; (with_reducible show wpAny _ _ (call (Value.ref 170) [Value.int _ _, _]) _ _ _); (with_reducible rename Led _ _ _ _ _ _ _ => Lx); k_dflt (refine' setg_use Lx ?qN7 ?qB7 ?qF7 ?qX7 ?qXP7 ?qT7 ?qK7 ?qhd7 ?qhu7 ?q1 ?_; (k_extra "m:led1"); (case q1 => k_extra "m:nodel")); rintro y' r' h' tk' F' N' Ld' hA' hT'; clear Lx; (try k_sweep); (try dsimp only))
  k_with "w:call ref" => (k_here; (with_reducible show wpAny _ _ (call (Value.ref 203) [Value.int _ _, _]) _ _ _); (with_reducible rename Led _ _ _ _ _ _ _ => Lx); k_dflt (refine' define_use Lx ?qN7 ?qB7 ?qF7 ?qX7 ?qXP7 ?qT7 ?qK7 ?qhd7 ?qhu7 ?q1 ?_; (k_extra "m:led1"); (case q1 => k_extra "m:nodel")); rintro y' r' h' tk' F' N' Ld' hA' hT'; clear Lx; (try k_sweep); (try dsimp only))
  k_with "w:call ref" => (k_here; (with_reducible show wpAny _ _ (call (Value.ref 236) [_, _, _]) _ _ _); (with_reducible rename Led _ _ _ _ _ _ _ => Lx); k_dflt (refine' if_use Lx ?qN7 ?qB7 ?qF7 ?qX7 ?qXP7 ?qT7 ?qK7 ?qhd7 ?qhu7 ?q1 ?q2 ?q3 ?_; (k_extra "m:led1"); (case q1 => k_extra "m:nodel"); (case q2 => k_extra "m:nodel"); (case q3 => k_extra "m:nodel")); rintro y' r' h' tk' F' N' Ld' hA' hT'; clear Lx; (try k_sweep); (try dsimp only))
  k_with "w:call ref" => (k_here; (with_reducible show wpAny _ _ (call (Value.ref 283) [_, _, _, _]) _ _ _); (with_reducible rename Led _ _ _ _ _ _ _ => Lx); k_dflt (refine' lambda_use Lx ?qN7 ?qB7 ?qF7 ?qX7 ?qXP7 ?qT7 ?qK7 ?qhd7 ?qhu7 ?q1 ?q2 ?q3 ?_; (k_extra "m:led1"); (case q1 => k_extra "m:intx"); (case q2 => omega); (case q3 => k_extra "m:nodel")); rintro y' r' h' tk' F' N' Ld' hA' ⟨ps', hps', hT'⟩; clear Lx; (try k_sweep); (try dsimp only))
  k_with "w:call ref" => (k_here; (with_reducible show wpAny _ _ (call (Value.ref 316) [_, _]) _ _ _); (with_reducible rename Led _ _ _ _ _ _ _ => Lx); k_dflt (refine' call_use Lx ?qN7 ?qB7 ?qF7 ?qX7 ?qXP7 ?qT7 ?qK7 ?qhd7 ?qhu7 ?q1 ?q2 ?q3 ?_; (k_extra "m:led1"); (case q1 => k_extra "m:nodel"); (case q2 => k_mem); (case q3 => k_extra "m:nodesl")); rintro y' r' h' tk' F' N' Ld' hA' hT'; clear Lx; (try k_sweep); (try dsimp only))
  k_with "w:call ref" => (k_here; (with_reducible show wpAny _ _ (call (Value.ref 349) [_]) _ _ _); (with_reducible rename Led _ _ _ _ _ _ _ => Lx); k_dflt (refine' seq_use Lx ?qN7 ?qB7 ?qF7 ?qX7 ?qXP7 ?qT7 ?qK7 ?qhd7 ?qhu7 ?q2 ?q3 ?_; (k_extra "m:led1"); (case q2 => k_mem); (case q3 => k_extra "m:nodesl")); rintro y' r' h' tk' F' N' Ld' hA' hT'; clear Lx; (try k_sweep); (try dsimp only))
  k_with "w:call ref" => (k_here; (with_reducible show wpAny _ _ (call (Value.ref 382) [_, _]) _ _ _); (with_reducible rename Led _ _ _ _ _ _ _ => Lx); k_dflt (refine' prim_use Lx ?qN7 ?qB7 ?qF7 ?qX7 ?qXP7 ?qT7 ?qK7 ?qhd7 ?qhu7 ?q2 ?q3 ?_; (k_extra "m:led1"); (case q2 => k_mem); (case q3 => k_extra "m:nodesl")); rintro y' r' h' tk' F' N' Ld' hA' hT'; clear Lx; (try k_sweep); (try dsimp only))
  k_with "w:call ref" => (k_here; (with_reducible show wpAny _ _ (call (Value.ref 415) [_, _, _]) _ _ _); (with_reducible rename Led _ _ _ _ _ _ _ => Lx); k_dflt (refine' fix_use Lx ?qN7 ?qB7 ?qF7 ?qX7 ?qXP7 ?qT7 ?qK7 ?qhd7 ?qhu7 ?q1 ?q2 ?q3 ?q4 ?_; (k_extra "m:led1"); (case q1 => k_extra "m:intx"); (case q2 => k_mem); (case q3 => k_extra "m:nodesl"); (case q4 => k_extra "m:nodel")); rintro y' r' h' tk' F' N' Ld' hA' ⟨ps', hps', hT'⟩; clear Lx; (try k_sweep); (try dsimp only))
  k_with "m:nodesl" => first | with_reducible assumption | (refine' NodesIn.mono ?h9 ?s9; (case h9 => with_reducible assumption); (case s9 => k_extra "m:lift"))
  k_with "w:CompSrc" => ((with_reducible rename Led _ _ _ _ _ _ _ => Lx); k_dflt (refine' u_range Lx ?qN7 ?qF7 ?qh7 ?qr7 ?q07 ?q17 IntV (fun _ _ _ h _ => h) ?qt7 ?qf7; (case qN7 => assumption); (case qF7 => k_asm); (case qh7 => rfl); (case qr7 => assumption); (case q07 => omega); (case q17 => omega)); all_goals first | (intro g v I oI C oC D ys x₁ od₁ oe₁ m₂ h tk E' hC hx F' N' Ld'; clear Lx; k_sweep) | (intro g ys x₁ od₁ oe₁ hl hg L1; first | (refine' finA_ints 2 Lx L1 hg (by omega) ?_; intro D' o' h' tk' F' N' Ld' hL1' hL2'; clear Lx L1 hg hl; k_sweep; (try dsimp only)) | (refine' finE_ints 2 Lx L1 hg (by omega) ?_; intro D' vs' ns' n' h' tk' F' N' Ld' off' hI' hl1' hl2'; clear Lx L1 hg; k_sweep; (try dsimp only))))
  k_with "w:TurnEnd" => exact TurnEnd.intro (by k_asm) (by assumption) (by assumption) ⟨_, _, rfl⟩
  k_with "w:setItem ref int" => (k_here; (with_reducible show wpAny _ _ (setItem (Value.ref _) (Value.int 0 _) _) _ _ _); (with_reducible rename Led _ _ _ _ _ _ _ => Lx); (with_reducible rename Above2 _ _ _ _ => hAx); k_dflt (refine' u_set0 Lx ?qN7 ?qF7 hAx ?qo7 ?qs7 ?ql7 ?_; (case qN7 => assumption); (case qF7 => k_asm); (case qo7 => assumption); (case qs7 => k_extra "m:subX"); (case ql7 => omega)); intro h' F' N' Ld'; clear Lx hAx; (try k_sweep); (try dsimp only))
  k_with "m:subX" => first | with_reducible assumption | (with_reducible exact id_sub) | (refine' List.forall_mem_cons.mpr ⟨?a9, ?b9⟩; (case a9 => k_mem); (case b9 => k_extra "m:subX")) | (refine' List.forall_mem_append.mpr ⟨?a9, ?b9⟩; (case a9 => k_extra "m:lift"); (case b9 => k_extra "m:subX")) | exact List.forall_mem_nil _ | k_extra "m:lift"
  k_with "w:subscriptTail Name Slice ref ref" => first | (exfalso; omega) | (k_here; (with_reducible show wpAny _ _ (subscriptTail _ (PySem.Expr.Slice _ none none _) (Value.ref _) (Value.ref _)) _ _ _); (with_reducible rename Led _ _ _ _ _ _ _ => Lx); (try dsimp only); k_dflt (refine' u_slice1 Lx ?NZ9 ?FZ9 ?lZ9 ?zZ9 ?sZ9 ?tZ9 ?_; (case NZ9 => assumption); (case FZ9 => k_asm); (case lZ9 => k_mem); (case zZ9 => omega); (case sZ9 => with_unfolding_all rfl); (case tZ9 => kmk_pure)); intro D' h' F' N' Ld'; clear Lx; (try k_sweep))
  k_with "w:call ref" => (k_here; (with_reducible show wpAny _ _ (call (Value.ref 787) [Value.ref _, Value.ref _, Value.ref _, Value.int _ _]) _ _ _); (with_reducible rename Led _ _ _ _ _ _ _ => Lx); k_dflt (refine' u_lam ?qhN7 Lx ?qN7 ?qB7 ?qF7 ?qX7 ?qXP7 ?qT7 ?qK7 ?qhd7 ?qhu7 ?qkn7 ?qkl7 ?qdp7 ?qdp27 ?_; (case qhN7 => assumption); (k_extra "m:led1"); (case qkn7 => k_extra "m:intl"); (case qkl7 => omega); (case qdp7 => omega); (case qdp27 => omega)); intro od' oe' x' r' T' h' tk' F' N' Ld' hT' hw' hD' hZ'; clear Lx; (try k_sweep); (try dsimp only))
  k_with "w:call ref" => (k_here; (with_reducible show wpAny _ _ (call (Value.ref 792) [Value.ref _, Value.ref _, Value.ref _, Value.int _ _]) _ _ _); (with_reducible rename Led _ _ _ _ _ _ _ => Lx); k_dflt (refine' u_fix ?qhN7 Lx ?qN7 ?qB7 ?qF7 ?qX7 ?qXP7 ?qT7 ?qK7 ?qhd7 ?qhu7 ?qkn7 ?qkl7 ?qdp7 ?qdp27 ?_; (case qhN7 => assumption); (k_extra "m:led1"); (case qkn7 => k_extra "m:intl"); (case qkl7 => omega); (case qdp7 => omega); (case qdp27 => omega)); intro od' oe' x' r' T' h' tk' F' N' Ld' hT' hw' hD'; clear Lx; (try k_sweep); (try dsimp only))
  k_with "w:call ref" => (k_here; (with_reducible show wpAny _ _ (call (Value.ref 768) [Value.ref _, Value.ref _]) _ _ _); (with_reducible rename Led _ _ _ _ _ _ _ => Lx); k_dflt (refine' u_oneN Lx ?qN7 ?qB7 ?qF7 ?qX7 ?qXP7 ?qT7 ?qK7 ?qhd7 ?qhu7 ?qne7 ?_; (k_extra "m:led1"); (case qne7 => first | exact nonE_nine | (refine' NonE.mono ?h9 ?s9; (case h9 => with_reducible assumption); (case s9 => k_extra "m:lift")))); intro od' k' t' h' tk' F' N' Ld'; clear Lx; (try k_sweep); (try dsimp only))
  k_with "w:compareOp NotEq ref ref" => (k_here; (with_reducible show wpAny _ _ (compareOp CmpOp.NotEq (Value.ref _) (Value.ref _)) _ _ _); k_dflt (refine' u_neNil ?cN8 ?ck8 ?cb8 ?cD8 ?cu8 ?_ ?_; (case cN8 => assumption); (case ck8 => k_extra "m:intl"); (case cb8 => omega); (case cD8 => k_mem); (case cu8 => k_extra "m:units")); first | (intro hNE') | skip)
  k_with "w:compareOp Eq ref ref" => (k_here; (with_reducible show wpAny _ _ (compareOp CmpOp.Eq (Value.ref _) (Value.ref _)) _ _ _); k_dflt (refine' u_eqNil ?cN8 ?ck8 ?cD8 ?cu8 ?_ ?_; (case cN8 => assumption); (case ck8 => k_extra "m:intl"); (case cD8 => k_mem); (case cu8 => k_extra "m:units")))
  k_with "w:DrawJ" => (refine' DrawJ.intro ?jF8 ?jN8 ?jL8 ?jR8 ?jP8; (case jF8 => k_asm); (case jN8 => assumption); (case jL8 => assumption); (case jR8 => k_extra "m:lift"); (case jP8 => first | trivial | ((show _ ∧ _ ∧ _); refine ⟨?_, ?_, ?_⟩ <;> omega)))
  k_with "w:DrawG" => first | (refine' DrawG.next ?jF8 ?jN8 ?jL8; (case jF8 => k_asm); (case jN8 => assumption); (case jL8 => assumption)) | refine DrawG.go ?_
  k_with "w:call builtin:len" => (k_here; (with_reducible show wpAny _ _ (call (Value.builtin "len") [Value.ref 637]) _ _ _); k_dflt (refine' u_rowsLen ?rPa ?rFa ?_; (case rPa => assumption); (case rFa => k_asm); k_whole))
  k_with "w:call builtin:len" => (k_here; (with_reducible show wpAny _ _ (call (Value.builtin "len") [Value.ref _]) _ _ _); k_dflt (refine' kst_len ?rNb ?rmb ?reb ?rzb ?_; (case rNb => k_asm); (case rmb => k_mem); (case reb => exact rfl); (case rzb => omega); k_whole))
  k_with "w:subscriptTail Name Attribute ref int" => (k_here; (with_reducible show wpAny _ _ (subscriptTail _ _ (Value.ref 637) (Value.int _ _)) _ _ _); k_dflt (refine' u_row ?rPc ?rFc ?r0c ?r1c ?_ ?rsc; (case rPc => assumption); (case rFc => k_asm); (case r0c => omega); (case r1c => omega); (case rsc => with_unfolding_all rfl); k_whole))
  k_with "w:subscriptTail Name Name ref int" => (k_here; (with_reducible show wpAny _ _ (subscriptTail _ _ (Value.ref 637) (Value.int _ _)) _ _ _); k_dflt (refine' u_row ?rPc ?rFc ?r0c ?r1c ?_ ?rsc; (case rPc => assumption); (case rFc => k_asm); (case r0c => omega); (case r1c => omega); (case rsc => with_unfolding_all rfl); k_whole))
  k_with "w:subscriptTail Subscript" => (k_here; (with_reducible show wpAny _ _ (subscriptTail _ _ (Value.ref (445 + _)) (Value.int 1 _)) _ _ _); k_dflt (refine' u_least ?rPd ?rFd ?r0d ?r1d ?_ ?rsd; (case rPd => assumption); (case rFd => k_asm); (case r0d => omega); (case r1d => omega); (case rsd => with_unfolding_all rfl); k_whole); intro tl')
  k_with "w:subscriptTail Subscript" => (k_here; (with_reducible show wpAny _ _ (subscriptTail _ _ (Value.ref (445 + _)) (Value.int 2 _)) _ _ _); k_dflt (refine' u_most ?rPd ?rFd ?r0d ?r1d ?_ ?rsd; (case rPd => assumption); (case rFd => k_asm); (case r0d => omega); (case r1d => omega); (case rsd => with_unfolding_all rfl); k_whole); intro tm')
  k_with "w:call ref" => (k_here; (with_reducible show wpAny _ _ (call (Value.ref 35) [Value.ref _]) _ _ _); k_dflt (refine' Spec.use (parts_none _ (Xr := [])) ?qB7 ?qF7 ?qX7 ?qXP7 ?qN7 ?qT7 ?qK7 ?qhd7 ?qhu7 ?_ ?qx7; (case qN7 => k_asm); (k_extra "m:use"); (case qx7 => k_extra "m:noX")); (rintro _ _ h' tk' F' N' ⟨D', pvs', pn', e1, e2, lD', hP'⟩); subst e1 e2; (replace lD' := allLt_of lD'); (try k_sweep); (try dsimp only))
  k_with "w:call ref" => (k_here; (with_reducible show wpAny _ _ (call (Value.ref 127) [Value.ref _]) _ _ _); k_dflt (refine' Spec.use (parts_setl _ ?e0p ?e1p ?e2p) ?qB7 ?qF7 ?qX7 ?qXP7 ?qN7 ?qT7 ?qK7 ?qhd7 ?qhu7 ?_ ?qx7; (case qN7 => k_asm); (k_extra "m:use"); (case e0p => k_mem); (case e1p => k_mem); (case e2p => k_extra "m:nodel"); (case qx7 => k_extra "m:noX")); (rintro _ _ h' tk' F' N' ⟨D', pvs', pn', e1, e2, lD', hP'⟩); subst e1 e2; (replace lD' := allLt_of lD'); (try k_sweep); (try dsimp only))
  k_with "w:call ref" => (k_here; (with_reducible show wpAny _ _ (call (Value.ref 160) [Value.ref _]) _ _ _); k_dflt (refine' Spec.use (parts_setg _ ?e0p ?e1p ?e2p) ?qB7 ?qF7 ?qX7 ?qXP7 ?qN7 ?qT7 ?qK7 ?qhd7 ?qhu7 ?_ ?qx7; (case qN7 => k_asm); (k_extra "m:use"); (case e0p => k_mem); (case e1p => k_mem); (case e2p => k_extra "m:nodel"); (case qx7 => k_extra "m:noX")); (rintro _ _ h' tk' F' N' ⟨D', pvs', pn', e1, e2, lD', hP'⟩); subst e1 e2; (replace lD' := allLt_of lD'); (try k_sweep); (try dsimp only))
  k_with "w:call ref" => (k_here; (with_reducible show wpAny _ _ (call (Value.ref 193) [Value.ref _]) _ _ _); k_dflt (refine' Spec.use (parts_define _ ?e0p ?e1p ?e2p) ?qB7 ?qF7 ?qX7 ?qXP7 ?qN7 ?qT7 ?qK7 ?qhd7 ?qhu7 ?_ ?qx7; (case qN7 => k_asm); (k_extra "m:use"); (case e0p => k_mem); (case e1p => k_mem); (case e2p => k_extra "m:nodel"); (case qx7 => k_extra "m:noX")); (rintro _ _ h' tk' F' N' ⟨D', pvs', pn', e1, e2, lD', hP'⟩); subst e1 e2; (replace lD' := allLt_of lD'); (try k_sweep); (try dsimp only))
  k_with "w:call ref" => (k_here; (with_reducible show wpAny _ _ (call (Value.ref 226) [Value.ref _]) _ _ _); k_dflt (refine' Spec.use (parts_if _ ?e0p ?e1p ?e2p ?e3p ?e4p) ?qB7 ?qF7 ?qX7 ?qXP7 ?qN7 ?qT7 ?qK7 ?qhd7 ?qhu7 ?_ ?qx7; (case qN7 => k_asm); (k_extra "m:use"); (case e0p => k_mem); (case e1p => k_mem); (case e2p => k_extra "m:nodel"); (case e3p => k_extra "m:nodel"); (case e4p => k_extra "m:nodel"); (case qx7 => k_extra "m:noX")); (rintro _ _ h' tk' F' N' ⟨D', pvs', pn', e1, e2, lD', hP'⟩); subst e1 e2; (replace lD' := allLt_of lD'); (try k_sweep); (try dsimp only))
  k_with "w:call ref" => (k_here; (with_reducible show wpAny _ _ (call (Value.ref 259) [Value.ref _]) _ _ _); k_dflt (refine' Spec.use (parts_lambda _ ?e0p ?e1p ?e2p) ?qB7 ?qF7 ?qX7 ?qXP7 ?qN7 ?qT7 ?qK7 ?qhd7 ?qhu7 ?_ ?qx7; (case qN7 => k_asm); (k_extra "m:use"); (case e0p => k_mem); (case e1p => k_mem); (case e2p => k_extra "m:nodel"); (case qx7 => k_extra "m:noX")); (rintro _ _ h' tk' F' N' ⟨D', pvs', pn', e1, e2, lD', hP'⟩); subst e1 e2; (replace lD' := allLt_of lD'); (try k_sweep); (try dsimp only))
  k_with "w:call ref" => (k_here; (with_reducible show wpAny _ _ (call (Value.ref 306) [Value.ref _]) _ _ _); k_dflt (refine' Spec.use (parts_call _ ?e0p ?e1p ?e2p ?e3p ?e4p ?e5p) ?qB7 ?qF7 ?qX7 ?qXP7 ?qN7 ?qT7 ?qK7 ?qhd7 ?qhu7 ?_ ?qx7; (case qN7 => k_asm); (k_extra "m:use"); (case e0p => k_mem); (case e1p => k_mem); (case e2p => k_mem); (case e3p => first | assumption | omega); (case e4p => k_extra "m:nodel"); (case e5p => k_extra "m:nodesl"); (case qx7 => k_extra "m:noX")); (rintro _ _ h' tk' F' N' ⟨D', pvs', pn', e1, e2, lD', hP'⟩); subst e1 e2; (replace lD' := allLt_of lD'); (try k_sweep); (try dsimp only))
  k_with "w:call ref" => (k_here; (with_reducible show wpAny _ _ (call (Value.ref 339) [Value.ref _]) _ _ _); k_dflt (refine' Spec.use (parts_seq _ ?e0p ?e1p ?e2p ?e3p ?e4p) ?qB7 ?qF7 ?qX7 ?qXP7 ?qN7 ?qT7 ?qK7 ?qhd7 ?qhu7 ?_ ?qx7; (case qN7 => k_asm); (k_extra "m:use"); (case e0p => k_mem); (case e1p => k_mem); (case e2p => k_mem); (case e3p => first | assumption | omega); (case e4p => k_extra "m:nodesl"); (case qx7 => k_extra "m:noX")); (rintro _ _ h' tk' F' N' ⟨D', pvs', pn', e1, e2, lD', hP'⟩); subst e1 e2; (replace lD' := allLt_of lD'); (try k_sweep); (try dsimp only))
  k_with "w:call ref" => (k_here; (with_reducible show wpAny _ _ (call (Value.ref 372) [Value.ref _]) _ _ _); k_dflt (refine' Spec.use (parts_prim _ ?e0p ?e1p ?e2p ?e3p ?e4p) ?qB7 ?qF7 ?qX7 ?qXP7 ?qN7 ?qT7 ?qK7 ?qhd7 ?qhu7 ?_ ?qx7; (case qN7 => k_asm); (k_extra "m:use"); (case e0p => k_mem); (case e1p => k_mem); (case e2p => k_mem); (case e3p => first | assumption | omega); (case e4p => k_extra "m:nodesl"); (case qx7 => k_extra "m:noX")); (rintro _ _ h' tk' F' N' ⟨D', pvs', pn', e1, e2, lD', hP'⟩); subst e1 e2; (replace lD' := allLt_of lD'); (try k_sweep); (try dsimp only))
  k_with "w:call ref" => (k_here; (with_reducible show wpAny _ _ (call (Value.ref 405) [Value.ref _]) _ _ _); k_dflt (refine' Spec.use (parts_fix _ ?e0p ?e1p ?e2p ?e3p ?e4p ?e5p) ?qB7 ?qF7 ?qX7 ?qXP7 ?qN7 ?qT7 ?qK7 ?qhd7 ?qhu7 ?_ ?qx7; (case qN7 => k_asm); (k_extra "m:use"); (case e0p => k_mem); (case e1p => k_mem); (case e2p => k_mem); (case e3p => first | assumption | omega); (case e4p => k_extra "m:nodel"); (case e5p => k_extra "m:nodesl"); (case qx7 => k_extra "m:noX")); (rintro _ _ h' tk' F' N' ⟨D', pvs', pn', e1, e2, lD', hP'⟩); subst e1 e2; (replace lD' := allLt_of lD'); (try k_sweep); (try dsimp only))
  k_with "w:call ref" => ((dsimp only [List.cons_append, List.nil_append]); k_extra "w:call ref")
  k_with "w:ite" => first | (with_reducible refine PySem.W.ite_neg (by decide) ?_) | (with_reducible refine PySem.W.ite_pos (by decide) ?_)
  k_with "w:ite" => first | (with_reducible refine PySem.W.ite_isFalse (by with_reducible assumption) ?_) | (with_reducible refine PySem.W.ite_pos (by with_reducible assumption) ?_)
  k_with "w:compareOp In int ref" => (k_here; (with_reducible show wpAny _ _ (compareOp CmpOp.In (Value.int _ _) (Value.ref _)) _ _ _); k_dflt (refine' u_inT ?iN ?im ?ii ?ik ?_; (case ik => with_reducible assumption); (case iN => k_asm); (case im => k_mem); (case ii => with_reducible assumption); k_whole))
  k_with "w:compareOp In int ref" => (k_here; (with_reducible show wpAny _ _ (compareOp CmpOp.In (Value.int _ _) (Value.ref _)) _ _ _); k_dflt (refine' u_inF ?iN ?im ?ii ?ik ?_; (case ik => with_reducible assumption); (case iN => k_asm); (case im => k_mem); (case ii => with_reducible assumption); k_whole))
  k_with "w:compareOp NotIn int ref" => (k_here; (with_reducible show wpAny _ _ (compareOp CmpOp.NotIn (Value.int _ _) (Value.ref _)) _ _ _); k_dflt (refine' u_notT ?iN ?im ?ii ?ik ?_; (case ik => with_reducible assumption); (case iN => k_asm); (case im => k_mem); (case ii => with_reducible assumption); k_whole))
  k_with "w:compareOp NotIn int ref" => (k_here; (with_reducible show wpAny _ _ (compareOp CmpOp.NotIn (Value.int _ _) (Value.ref _)) _ _ _); k_dflt (refine' u_notF ?iN ?im ?ii ?ik ?_; (case ik => with_reducible assumption); (case iN => k_asm); (case im => k_mem); (case ii => with_reducible assumption); k_whole))
  k_with "w:compareOp Eq ref ref" => (k_here; (with_reducible show wpAny _ _ (compareOp CmpOp.Eq (Value.ref _) (Value.ref _)) _ _ _); k_dflt (refine' u_nilV ?iN ?im ?iD ?iu ?_; (case iN => k_asm); (case im => k_mem); (case iD => k_mem); (case iu => k_extra "m:units"); k_whole))
  k_with "w:execs cons" => ((with_reducible show wpAny _ _ (execs (Stmt.If (Expr.Compare _ _ [Expr.Name (Str.ofString "LAMBDA") _] _) _ _ _ :: _) _) _ _ _); k_dflt (refine' skip5 ?sB ?sF ?sX ?sP ?sT ?sN ?sm ?sd ?shd ?shu ?sk7 ?_;  (case sB => k_asm); (case sF => k_asm); (case sX => k_asm); (case sP => k_asm); (case sT => k_asm); (case sN => k_asm); (case sm => k_mem); (case sd => with_reducible assumption); (case sk7 => decide); (case shd => omega); (case shu => omega)); intro h' tk' F' N'; (try k_sweep); (try dsimp only))
  k_with "w:execs" => ((with_reducible show wpAny _ _ (execs (List.drop 5 (fBody (stAt 56))) _) _ _ _); k_dflt (refine' skip5 ?sB ?sF ?sX ?sP ?sT ?sN ?sm ?sd ?shd ?shu ?sk7 ?_;  (case sB => k_asm); (case sF => k_asm); (case sX => k_asm); (case sP => k_asm); (case sT => k_asm); (case sN => k_asm); (case sm => k_mem); (case sd => with_reducible assumption); (case sk7 => decide); (case shd => omega); (case shu => omega)); intro h' tk' F' N'; (try k_sweep); (try dsimp only))
  k_with "w:execs cons" => ((with_reducible show wpAny _ _ (execs (Stmt.If (Expr.Compare _ _ [Expr.Name (Str.ofString "FIX") _] _) _ _ _ :: _) _) _ _ _); k_dflt (refine' skip6 ?sB ?sF ?sX ?sP ?sT ?sN ?sm ?sd ?shd ?shu ?sk11 ?_;  (case sB => k_asm); (case sF => k_asm); (case sX => k_asm); (case sP => k_asm); (case sT => k_asm); (case sN => k_asm); (case sm => k_mem); (case sd => with_reducible assumption); (case sk11 => decide); (case shd => omega); (case shu => omega)); intro h' tk' F' N'; (try k_sweep); (try dsimp only))
  k_with "w:execs" => ((with_reducible show wpAny _ _ (execs (List.drop 6 (fBody (stAt 56))) _) _ _ _); k_dflt (refine' skip6 ?sB ?sF ?sX ?sP ?sT ?sN ?sm ?sd ?shd ?shu ?sk11 ?_;  (case sB => k_asm); (case sF => k_asm); (case sX => k_asm); (case sP => k_asm); (case sT => k_asm); (case sN => k_asm); (case sm => k_mem); (case sd => with_reducible assumption); (case sk11 => decide); (case shd => omega); (case shu => omega)); intro h' tk' F' N'; (try k_sweep); (try dsimp only))
  k_with "w:getAttr ref" => (k_here; (with_reducible show wpAny _ _ (getAttr (Value.ref _) (Str.ofString "kind") true) _ _ _); k_dflt (refine' node_kind ?ahn ?asu ?aN ?aF ?aX ?_; (case ahn => with_reducible assumption); (case aN => k_asm); (case asu => k_extra "m:subX"); (case aF => k_asm); (case aX => k_asm)); intro tk9; (try dsimp only))
  trivial
/-! the exception class of the program: an object that its own __init__ fills -/
section
open Builtin Builtin.ObjectAttr
variable {prog : Program} {w : World} {A : Around} {E : Value → Shared → Prop} {h : Heap} {g : Array GenState} {d : Drawn} {t : Nat} {os : OsState}
variable {nm q : Str} {C N x : Addr} {bs bm : List Value} {sn : List Str} {sub : List Value} {ab : Bool} {col : Option Bool} {dd : Option Addr} {k0 k1 k2 k3 k5 : Option Value} {B newId sa owner : String} {mN : Str → Option Value} {name : Str} {v : Value} {o : Obj}
/-- what a first attribute makes of an object: a new dict, that stands at the heap's end -/
noncomputable abbrev FirstD (h : Heap) (x : Addr) (o : Obj) (name : Str) (v : Value) (h' : Heap) : Prop :=
  h'.Ns1 h.objs.size (fun y => if y = name then some v else none) ∧ h'.get? x = some { o with dict := some h.objs.size } ∧ ∀ b ob, b ≠ x → h.get? b = some ob → h'.get? b = some ob
theorem first_entry {tk : Tok} {Q : Fin → Shared → Prop} (SF : StoreFacts B bm sa owner) (hC : h.get? C = some (excClassObj nm q C N bs bm true sn sub ab col dd k0 k1 k2 k3 k5 newId)) (hn : h.Ns N mN) (hna : mN name = none)
    (hB : typeLookup (.type B) name = pure none) (hx : h.get? x = some o) (hc : o.cls = .ref C) (hnc : ∀ c, o.data ≠ .cls c) (hdn : o.dict = none)
    (hq : ∀ h' tk', FirstD h x o name v h' → Q (.done (.ret .none)) ⟨h', g, d, tk', os⟩) :
    wpAny (model prog w) A (Builtin.«object.__setattr__» ⟨[.ref x, .str name tk, v], []⟩) Q E ⟨h, g, d, t, os⟩ := by
  have away := SF.passes (.ref x)
  unfold Builtin.«object.__setattr__»
  repeat (first | rw [refuse_eq] | (rw [refuseLoop_ref, away]) | (with_reducible refine wpAny_loadPart_at hx ?_; rw [hc]) | with_reducible refine wpAny_mroOf_exc hC ?_ | (with_reducible refine wpAny_typeLookup_exc hC hn SF.mro hB ?_; rw [hna]) | wp_step)
  rw [hdn, if_neg (by simp [typeHasDict])]
  split
  · rename_i c
    cases c
  split
  · rename_i c e
    exact absurd e (hnc c)
  have hlt : x < h.objs.size := Heap.lt_size hx
  have hx1 := Heap.get?_push_of_some ({ cls := .type "dict", data := .dict #[] } : Obj) hx
  refine wpAny_bind (wpAny_alloc' (wpAny_bind (wpAny_update' hx1 (wpAny_pure ?_))))
  have hD : ((h.push { cls := .type "dict", data := .dict #[] }).update x fun o => { cls := o.cls, dict := some h.objs.size, data := o.data, slots := o.slots }).get? h.objs.size = some { cls := .type "dict", data := .dict #[] } :=
    (Heap.get?_update_ne _ _ _ _ (Nat.ne_of_gt hlt)).trans (Heap.get?_push_at rfl rfl)
  have empty : ((h.push { cls := .type "dict", data := .dict #[] }).update x fun o => { cls := o.cls, dict := some h.objs.size, data := o.data, slots := o.slots }).Ns h.objs.size (fun _ => none) :=
    ⟨_, #[], _, hD, rfl, fun e he => absurd he (by simp), fun _ => rfl⟩
  show wpAny _ _ (storeInDict h.objs.size (.str name tk) name v) _ _ _
  unfold storeInDict newKeyGuard
  refine wpAny_bind (wpAny_pure (wpAny_bind (wpAny_nsSet1 (Heap.Ns1.of_empty empty) fun h' hn' hs => ?_)))
  obtain ⟨oD, esD, epD, hoD, hdD, hcD⟩ := hn'.count (Within.cons name v Within.nil)
  refine wpAny_bind (wpAny_lookBehind hoD (by rw [hdD]; exact pastItsLine_dict (Nat.le_trans hcD (by rw [List.length_cons, List.length_nil, sizeLine_eq]; omega))) ?_)
  wp_walk
  refine hq h' _ ⟨hn', ?_, fun b ob hb hob => ?_⟩
  · refine (hs.2 x (Nat.ne_of_lt hlt)).trans (Heap.get?_update_self _ hx1 ?_)
    have alive := (Heap.get?_some_iff.mp hx).2
    obtain ⟨oc, od, odt, osl⟩ := o
    cases odt <;> first | rfl | exact alive
  · exact (hs.2 b (Nat.ne_of_lt (Heap.lt_size hob))).trans ((Heap.get?_update_ne _ _ _ _ hb).trans (Heap.get?_push_of_some _ hob))
theorem first_attr {Q : Unit → Shared → Prop} (SF : StoreFacts B bm sa owner) (hC : h.get? C = some (excClassObj nm q C N bs bm true sn sub ab col dd k0 k1 k2 k3 k5 newId)) (hn : h.Ns N mN) (hns : mN "__setattr__" = none) (hna : mN name = none)
    (hB : typeLookup (.type B) name = pure none) (hx : h.get? x = some o) (hc : o.cls = .ref C) (hnc : ∀ c, o.data ≠ .cls c) (hdn : o.dict = none)
    (hq : ∀ h' tk', FirstD h x o name v h' → Q () ⟨h', g, d, tk', os⟩) : wpAny (model prog w) A (setAttr (.ref x) name v) Q E ⟨h, g, d, t, os⟩ := by
  have fb := SF.slot.bind (.ref x)
  unfold setAttr callSpecial? specialOf
  repeat (any_goals (first | assumption | (with_reducible refine wpAny_loadPart_at hx ?_; rw [hc]) | (with_reducible refine wpAny_typeLookup_exc hC hn SF.mro SF.slot.lookup ?_; rw [hns]) | wp_step))
  refine codeAny_call_builtin SF.slot.plain SF.entry (wpAny_check_sa SF hC hx hc (first_entry SF hC hn hna hB hx hc hnc hdn fun h' tk' H => ?_))
  repeat (any_goals (first | assumption | wp_step))
  exact hq h' _ H
end
/-- a dict of names, as an object -/
noncomputable def NsO (od : Obj) (mA : Str → Option Value) : Prop := ∃ es ep, od.data = .dict es ep ∧ StrKeys es ∧ UniqKeys es ∧ ∀ n, nsFind es n = mA n
noncomputable abbrev exc0 (t : Addr) : Obj := { cls := .ref 441, data := .fields #[.ref t, .none, .none, .none, .bool false, .none] }
noncomputable abbrev exc1 (t dx : Addr) : Obj := { cls := .ref 441, dict := some dx, data := .fields #[.ref t, .none, .none, .none, .bool false, .none] }
noncomputable abbrev excC (P : Params) : Obj := ko441 P
section
variable {w : World} {A : Around} {E : Value → Shared → Prop} {h₀ : Heap} {L : Addr} {m : Str → Option Value} {s : Shared} {news : List (Addr × Obj)} {Q : Unit → Shared → Prop} {e t dx : Addr} {od : Obj} {v : Value} {mA : Str → Option Value}
theorem core_cls {h : Heap} (X : (KK w.params).In h) : h.get? 441 = some (ko441 w.params) := X _ _ (by kernel_rfl)
theorem core_ns {h : Heap} (X : (KK w.params).In h) : h.Ns 440 (h.nsMap 440) := .of_isNs (isNs_of_in X (by kernel_rfl))
theorem core_ns_none {h : Heap} (X : (KK w.params).In h) {x : Str} (e : nsIn (KK w.params) 440 x = some none) : h.nsMap 440 x = none := nsMap_none_of_in X (by kernel_rfl) e
theorem core_ns_init {h : Heap} (X : (KK w.params).In h) : h.nsMap 440 "__init__" = some (.ref 438) := by
  obtain ⟨o, es, ep, ho, hd, _, hf⟩ := core_ns X
  have : h.get? 440 = some (ko440 w.params) := X _ _ (by kernel_rfl)
  rw [this] at ho; cases ho
  cases hd
  rw [← hf]; rfl
theorem u_exc1 {name : Str} (X : (KK w.params).In h₀) (F : Fr h₀ L s.heap m) (N : News h₀ L s.heap ((e, exc0 t) :: news)) (off : ∀ p ∈ news, p.1 ≠ e)
    (hna : nsIn (KK w.params) 440 name = some none) (hB : typeLookup (.type "Exception") name = pure none)
    (h : ∀ dx od h' tk', Fr h₀ L h' m → News h₀ L h' ((e, exc1 t dx) :: (dx, od) :: news) → NsO od (fun y => if y = name then some v else none) → (∀ p ∈ (e, exc0 t) :: news, p.1 < dx) → Q () { s with heap := h', toks := tk' }) :
    wpAny (model lw.row.prog w) A (setAttr (.ref e) name v) Q E s := by
  obtain ⟨hp, g, d, tk, os⟩ := s
  have X' := X.keeps F.keep
  have ee := N _ (.head _)
  refine first_attr (o := exc0 t) PySem.F.store_Exception (core_cls X') (core_ns X') (core_ns_none X' (by kernel_rfl)) (core_ns_none X' hna) hB ee.1 rfl (fun c q => by cases q) rfl fun h' tk' H => ?_
  obtain ⟨⟨oD, es, ep, hD, hdD, h1, h2, h3⟩, hx, hk⟩ := H
  have lt : ∀ p ∈ (e, exc0 t) :: news, p.1 < hp.objs.size := fun p hp' => Heap.lt_size (N p hp').1
  refine h hp.objs.size oD h' tk' ?_ ?_ ⟨es, ep, hdD, h1, h2, h3⟩ lt
  · obtain ⟨oL, esL, epL, eL, rL⟩ := F.ns
    refine ⟨⟨oL, esL, epL, hk L oL (Ne.symm ee.2.1) eL, rL⟩, fun b o hb => hk b o (fun q => by rw [q, ee.2.2] at hb; cases hb) (F.keep b o hb), F.above⟩
  · refine List.forall_mem_cons.mpr ⟨⟨hx, ee.2⟩, List.forall_mem_cons.mpr ⟨⟨hD, Nat.ne_of_gt F.ns.lt, ?_⟩, fun p hp' => ⟨hk _ _ (off p hp') (N p (.tail _ hp')).1, (N p (.tail _ hp')).2⟩⟩⟩
    exact none_at_size F
theorem u_exc2 {name : Str} {ns : List Str} (X : (KK w.params).In h₀) (F : Fr h₀ L s.heap m) (N : News h₀ L s.heap ((e, exc1 t dx) :: (dx, od) :: news)) (off : ∀ p ∈ news, p.1 ≠ e) (offd : ∀ p ∈ news, p.1 ≠ dx) (hde : @Ne Nat dx e) (hod : NsO od mA)
    (hna : nsIn (KK w.params) 440 name = some none) (hB : typeLookup (.type "Exception") name = pure none) (hw : Within mA ns) (hsz : ns.length ≤ sizeLine)
    (h : ∀ od' h' tk', Fr h₀ L h' m → News h₀ L h' ((e, exc1 t dx) :: (dx, od') :: news) → Q () { s with heap := h', toks := tk' }) :
    wpAny (model lw.row.prog w) A (setAttr (.ref e) name v) Q E s := by
  obtain ⟨hp, g, d, tk, os⟩ := s
  have X' := X.keeps F.keep
  have ee := N _ (.head _)
  have ed := N _ (.tail _ (.head _))
  have hxC : e ≠ 441 := fun q => by have := core_cls X; rw [← q, ee.2.2] at this; cases this
  obtain ⟨es, ep, hdd, h1, h2, h3⟩ := hod
  refine store_attr PySem.F.store_Exception (core_cls X') (core_ns X') (core_ns_none X' (by kernel_rfl)) (core_ns_none X' hna) hB hxC ⟨_, ee.1, rfl, (fun c q => by cases q), .inr ⟨dx, rfl, hde, od, es, ep, ed.1, hdd, h1, h2, h3⟩⟩ (fun h' tk' I' hk hsame => ?_) hw hsz
  have kk : ∀ b o, b ≠ e → b ≠ dx → hp.get? b = some o → h'.get? b = some o := fun b o q1 q2 q => hk b o q1 (fun o₀ d' e₀ e₁ => by rw [ee.1] at e₀; cases e₀; cases e₁; exact q2) q
  obtain ⟨o₁, e1, c1, dt1, sl1, dk1⟩ := hsame _ ee.1
  have eo : o₁ = exc1 t dx := by
    have dk := dk1 dx rfl
    obtain ⟨a1, a2, a3, a4⟩ := o₁
    simp only at c1 dt1 sl1 dk
    subst c1 dt1 sl1 dk; rfl
  rw [eo] at e1
  obtain ⟨o', e', _, _, hd'⟩ := I'
  obtain rfl := Option.some.inj (e1.symm.trans e')
  rcases hd' with ⟨hn0, _⟩ | ⟨d', hd', _, oD, esD, epD, hD, _⟩
  · cases hn0
  · cases hd'
    refine h oD h' tk' ?_ ?_
    · obtain ⟨oL, esL, epL, eL, rL⟩ := F.ns
      refine ⟨⟨oL, esL, epL, kk L oL (Ne.symm ee.2.1) (Ne.symm ed.2.1) eL, rL⟩, fun b o hb => kk b o (fun q => by rw [q, ee.2.2] at hb; cases hb) (fun q => by rw [q, ed.2.2] at hb; cases hb) (F.keep b o hb), F.above⟩
    · exact List.forall_mem_cons.mpr ⟨⟨e1, ee.2⟩, List.forall_mem_cons.mpr ⟨⟨hD, ed.2⟩, fun p hp' => ⟨kk _ _ (off p hp') (offd p hp') (N p (.tail _ (.tail _ hp'))).1, (N p (.tail _ (.tail _ hp'))).2⟩⟩⟩
end
/-- what the making of the program's exception hands back -/
noncomputable def CoreR (news : List (Addr × Obj)) (r : Value) (news' : List (Addr × Obj)) : Prop :=
  ∃ e t dx od, r = .ref e ∧ news' = (e, exc1 t dx) :: (dx, od) :: news ∧ (∀ p ∈ news, p.1 ≠ e)
set_option maxHeartbeats 1000000 in
theorem core_make (w : World) {news : List (Addr × Obj)} {v1 v2 : Value} : Spec w 441 20 200 [v1, v2] news (CoreR news) NoX := by
  unfold Spec
  k_fill
  intro dp un gd cn cs a ccd cl outer A₀ base h₀ L m s Q E p loose mean mg mb B F X XP N T hk hd hu hret herr
  have X' := X.keeps F.keep
  obtain ⟨hp, g9, d9, tk, os⟩ := s
  refine wpAny_call_exc_init PySem.F.excBase_Exception (core_cls X') (core_ns X') (core_ns_init X') (X' 438 (ko438 w.params) (by kernel_rfl)) rfl (fun h' e hx => ?_) (by rw [sizeLine_eq]; show 2 ≤ 16777216; decide)
  obtain ⟨t, he, ht, htt⟩ := hx.there
  have F1 : Fr h₀ L h' m := F.keeps hx.keeps
  have off : ∀ p ∈ news, p.1 ≠ e := fun p hp' q => by have := (N p hp').1; rw [q, hx.new] at this; cases this
  have hne : e ≠ L := fun q => by
    obtain ⟨oL, esL, epL, eL, rL⟩ := F.ns
    have eL : hp.get? L = some oL := eL
    rw [← q, hx.new] at eL; cases eL
  have N1 : News h₀ L h' ((e, exc0 t) :: news) := List.forall_mem_cons.mpr ⟨⟨he, hne, by
    cases q : h₀.get? e with
    | none => rfl
    | some o => have := F.keep _ _ q; rw [hx.new] at this; cases this⟩, fun p hp' => ⟨hx.keeps _ _ (N p hp').1, (N p hp').2⟩⟩
  clear he ht htt hx X'
  k_sweep
  refine wpAny_call ?_
  k_dflt (refine' code_def (binds := [(Str.ofString "self", .ref e), (Str.ofString "what", v1), (Str.ofString "number", v2)]) ?k1 ?k2 ?k3 ?k4 ?k5 ?kA ?kF ?kK ?k6 ?k7 ?k8 ?k9 ?kB ?_ ?c2 ?c3 ?c4 ?c5; k_extra "m:enter")
  k_with "w:setAttr ref" => (k_dflt (refine' u_exc1 ?xX ?xF ?xN ?xo ?xa ?xb ?_; (case xX => k_asm); (case xF => k_asm); (case xN => k_asm); (case xo => assumption); (case xa => kernel_rfl); (case xb => (rw [typeLookup_type, builtinLookup_eq_fast]; kernel_rfl))); intro dx od h' tk' F' N' hO' lx'; k_sweep)
  k_with "w:setAttr ref" => (k_dflt (refine' u_exc2 ?xX ?xF ?xN ?xo ?xd ?xe ?xO ?xa ?xb ?xw ?xz ?_; (case xX => k_asm); (case xF => k_asm); (case xN => k_asm); (case xo => assumption); (case xd => exact fun p hp => Nat.ne_of_lt (lx' p (.tail _ hp))); (case xe => exact Ne.symm (Nat.ne_of_lt (lx' _ (.head _)))); (case xO => assumption); (case xa => kernel_rfl); (case xb => (rw [typeLookup_type, builtinLookup_eq_fast]; kernel_rfl)); (case xw => within_ways); (case xz => size_fits)); intro od' h' tk' F' N'; k_sweep)
  k_steps
  exact hret _ _ _ _ (by k_asm) (by k_asm) ⟨e, t, dx, od', rfl, rfl, off⟩
/-! raising it -/
/-- what an exception's own expression hands to raise -/
noncomputable def RaiseP (P : Params) (E : Value → Shared → Prop) (v : Value) (s : Shared) : Prop :=
  ∃ e t dx, v = .ref e ∧ s.heap.get? 441 = some (ko441 P) ∧ s.heap.get? e = some (exc1 t dx) ∧ E (.ref e) s
section
variable {w : World} {A : Around} {E : Value → Shared → Prop} {h₀ : Heap} {L : Addr} {m : Str → Option Value} {s : Shared} {news : List (Addr × Obj)} {e t dx : Addr}
theorem RaiseP.intro (X : (KK w.params).In h₀) (F : Fr h₀ L s.heap m) (N : News h₀ L s.heap news) (hm : (e, exc1 t dx) ∈ news) (h : E (.ref e) s) : RaiseP w.params E (.ref e) s :=
  ⟨e, _, _, rfl, core_cls (X.keeps F.keep), (N _ hm).1, h⟩
theorem raise_stmt {M : Model} {env : Env} {x : Sem Value} {Q : Flow → Shared → Prop} (P : Params) (hh : A.handled = none) (h : wpAny M A x (RaiseP P E) E s) : wpAny M A (raiseStmt env (some x) none) Q E s := by
  unfold raiseStmt
  refine wpAny_bind (wpAny_mono h (fun v s₁ h₁ => ?_) fun _ _ x => x)
  obtain ⟨e, t, dx, rfl, hC, he, hE⟩ := h₁
  obtain ⟨hp, g, d, tk, os⟩ := s₁
  have he : hp.get? e = some { cls := .ref 441, dict := some dx, data := .fields #[.ref t, .none, .none, .none, .bool false, .none] } := he
  have hC : hp.get? 441 = some (excClassObj (Str.ofString "CoreError") (Str.ofString "CoreError") 441 440 [.type "Exception"] [.type "Exception", .type "BaseException", .type "object"] true [] [] false none none (some (.ref 425)) none (some (.str (Str.ofString "CoreError") 753)) (some (.str (Str.ofString "CoreError") 761)) (some (.bool true)) "Exception.__new__") := hC
  have hB : (Value.ref 441 :: [Value.type "Exception", .type "BaseException", .type "object"]).contains (.type "BaseException") = true := by decide
  repeat (first | with_reducible refine wpAny_loadPart_at he ?_ | with_reducible refine wpAny_loadPart_at hC ?_ | (with_reducible refine wpAny_isSubtype_exc hC ?_; rw [hB]) | wp_step)
  exact wpAny_raiseNew_none hh hE
theorem raise_core {M : Model} {env : Env} {ex : PySem.Expr} {pos : Pos} {Q : Flow → Shared → Prop} (P : Params) (hh : A.handled = none) (h : wpAny M A (eval ex env) (RaiseP P E) E s) :
    wpAny M A (exec (.Raise (some ex) none pos) env) Q E s := by
  rw [arm_exec_Raise]
  exact wpAny_bind (wpAny_standAt (raise_stmt P hh (wpAny_bind (wpAny_mono h (fun v s₁ h₁ => wpAny_bind (wpAny_standAt (wpAny_pure h₁))) fun _ _ x => x))))
end
section
variable {M : Model} {A : Around} {E : Value → Shared → Prop} {s' : Shared} {base g : Heap} {outer : List Env} {L a e t dx : Addr} {m : Str → Option Value} {name : Str} {scope : Scope} {cd : Value} {Q : Unit → Shared → Prop} {news Z : List (Addr × Obj)}
theorem leave_newC (K : Below A base outer g) (F : Fr g L s'.heap m) (N : News g L s'.heap news) (hm : (e, exc1 t dx) ∈ news) (hZ : ∀ p ∈ Z, p ∈ news) (off : ∀ p ∈ Z, p.1 ≠ e)
    (hQ : ∀ h', RaisedSN base g outer e (.ref 441) Z h' → g.UpToSlots h' → Q () { s' with heap := h' }) (hk : scope.kind = .function := by rfl) :
    wpAny M (A.deeper (envOf name scope L a cd)) (leaving (envOf name scope L a cd) (.ref e)) Q E s' := by
  have K' := K.push (name := name) (a := a) (cd := cd) F hk
  have ee := N _ hm
  have fr : ∀ b ∈ (envOf name scope L a cd :: outer).filterMap (·.frame), b = L ∨ b ∈ outer.filterMap (·.frame) := fun b hb => kts_mem hb
  have hin : ∀ env ∈ (envOf name scope L a cd :: outer), ∀ b, env.frame = some b → b ∈ e :: (envOf name scope L a cd :: outer).filterMap (·.frame) := fun env he b hb => .tail _ (List.mem_filterMap.mpr ⟨env, he, hb⟩)
  have eb : base.get? e = none := fresh_of_stays K.stays ee.2.2
  have keepB : ∀ b o, s'.heap.get? b = some o → b ≠ e → b ∉ (envOf name scope L a cd :: outer).filterMap (·.frame) → (hideAll s'.heap (e :: (envOf name scope L a cd :: outer).filterMap (·.frame))).get? b = some o := fun b o q h1 h2 =>
    hideAll_get _ q fun hb => by
      rcases List.mem_cons.mp hb with hb | hb
      · exact h1 hb
      · exact h2 hb
  have st : base.StaysIn (hideAll s'.heap (e :: (envOf name scope L a cd :: outer).filterMap (·.frame))) := fun b o q => keepB b o (K'.stays b o q) (fun z => by rw [z, eb] at q; cases q) fun hb => by
    rw [(K'.frames.mem hb).1] at q; cases q
  have sg : ∀ b o, g.get? b = some o → b ∉ outer.filterMap (·.frame) → (hideAll s'.heap (e :: (envOf name scope L a cd :: outer).filterMap (·.frame))).get? b = some o := fun b o q nm => keepB b o (F.keep b o q) (fun z => by rw [z, ee.2.2] at q; cases q) fun hb => by
    rcases fr b hb with z | z
    · rw [z, kts_self F] at q; cases q
    · exact nm z
  have hl : ∀ q ∈ Z, (hideAll s'.heap (e :: (envOf name scope L a cd :: outer).filterMap (·.frame))).get? q.1 = some q.2 ∧ g.get? q.1 = none ∧ base.get? q.1 = none := fun q hq => by
    have nq := N q (hZ q hq)
    refine ⟨keepB _ _ nq.1 (off q hq) fun hb => ?_, nq.2.2, fresh_of_stays K.stays nq.2.2⟩
    rcases fr _ hb with z | z
    · exact nq.2.1 z
    · obtain ⟨o, ho, _⟩ := (K.frames.mem z).2
      rw [nq.2.2] at ho; cases ho
  have hen : (hideAll s'.heap (e :: (envOf name scope L a cd :: outer).filterMap (·.frame))).get? e = none := hideAll_none _ (.head _)
  refine wpAny_leaving_firstW (a0 := .ref t) K'.stack (funFrames_hide K'.frames hin) rfl ee.1 (fun b o hb => of_hideAll _ hb) hen rfl rfl rfl fun h' hL => ?_
  obtain ⟨k1, ⟨_, _, k2⟩, k3, k4⟩ := hL
  exact hQ h' ⟨_, _, st, sg, hl, k1, hen, k2, k3⟩ ((Heap.UpToSlots.of_keeps F.keep).trans k4)
end
/-! a body's errors behind a letter -/
noncomputable def EAt (G : Value → Shared → Prop) (e : Value) (s : Shared) : Prop := G e s
structure EHyp (G E : Value → Shared → Prop) : Prop where
  out : ∀ e s, E e s → G e s
theorem EAt.of {G E : Value → Shared → Prop} {e : Value} {s : Shared} (h : EHyp G E) (x : E e s) : EAt G e s := h.out e s x
theorem enterQG {M : Model} {A : Around} {env : Env} {b : List Stmt} {Q : Flow → Shared → Prop} {E : Value → Shared → Prop} {s : Shared} (hp : PassesOwn M A env E)
    (h : ∀ K G, KHyp K Q → EHyp G E → PassesOwn M A env (EAt G) → wpAny M A (execs b env) (KAt K) (EAt G) s) : wpAny M A (execs b env) Q E s := h Q E ⟨fun _ _ x => x⟩ ⟨fun _ _ x => x⟩ hp
/-! the check: contracts of what may raise -/
/-- as Spec; where X holds the call may end in the program's own exception: the entries Zr stand as they stood -/
noncomputable def SpecE (w : World) (f : Addr) (dm um : Nat) (vs : List Value) (news : List (Addr × Obj)) (R : Value → List (Addr × Obj) → Prop) (X : Prop) (Zr : List (Addr × Obj)) : Prop :=
  ∀ (dp un : Nat) (gd : Option (List Code)) (cn : Str) (cs : Scope) (a : Addr) (ccd : Value) (cl : List (Str × Addr)) (outer : List Env) (A₀ : Around) (base h₀ : Heap) (L : Addr) (m : Str → Option Value) (s : Shared)
    (Q E : Value → Shared → Prop) (p : Program) (loose : List Str) (mean : ExcName → Option Value) (mg mb : Str → Option Value),
    Below A₀ base outer h₀ → Fr h₀ L s.heap m → (KK w.params).In h₀ → Prims h₀ → News h₀ L s.heap news → Top p loose mean mg mb h₀ → cs.kind = .function → dp + dm < recursionLimit → un + um < cLine →
    (∀ r news' h' tk', Fr h₀ L h' m → News h₀ L h' news' → R r news' → Q r { s with heap := h', toks := tk' }) →
    (X → ∀ e g₂ h' tk', Fr h₀ L g₂ m → RaisedSN base g₂ (envX cn cs L a ccd cl :: outer) e (.ref 441) Zr h' → g₂.UpToSlots h' → E (.ref e) { s with heap := h', toks := tk' }) →
    wpAny (model lw.row.prog w) (ktrTop dp un gd cn cs L a ccd cl outer) (call (.ref f) vs) Q E s
theorem SpecE.use {w : World} {f : Addr} {dm um : Nat} {vs : List Value} {news : List (Addr × Obj)} {R : Value → List (Addr × Obj) → Prop} {X : Prop} {Zr : List (Addr × Obj)} (S : SpecE w f dm um vs news R X Zr)
    {dp un : Nat} {gd : Option (List Code)} {cn : Str} {cs : Scope} {a : Addr} {ccd : Value} {cl : List (Str × Addr)} {outer : List Env} {A₀ : Around} {base h₀ : Heap} {L : Addr} {m : Str → Option Value} {s : Shared}
    {Q E : Value → Shared → Prop} {p : Program} {loose : List Str} {mean : ExcName → Option Value} {mg mb : Str → Option Value}
    (B : Below A₀ base outer h₀) (F : Fr h₀ L s.heap m) (K : (KK w.params).In h₀) (P : Prims h₀) (N : News h₀ L s.heap news) (T : Top p loose mean mg mb h₀) (hk : cs.kind = .function) (hd : dp + dm < recursionLimit) (hu : un + um < cLine)
    (ret : ∀ r news' h' tk', Fr h₀ L h' m → News h₀ L h' news' → R r news' → Q r { s with heap := h', toks := tk' })
    (err : X → ∀ e g₂ h' tk', Fr h₀ L g₂ m → RaisedSN base g₂ (envX cn cs L a ccd cl :: outer) e (.ref 441) Zr h' → g₂.UpToSlots h' → E (.ref e) { s with heap := h', toks := tk' }) :
    wpAny (model lw.row.prog w) (ktrTop dp un gd cn cs L a ccd cl outer) (call (.ref f) vs) Q E s := S _ _ _ _ _ _ _ _ _ _ _ _ _ _ _ _ _ _ _ _ _ _ B F K P N T hk hd hu ret err
/-- the check's three dicts -/
structure CkO (w : World) (ob oo ol : Obj) (s : St2) : Prop where
  hb : ob.IsDictOf (intKind lw.row.prog w) (s.1.map fun p => (p.1, Value.bool true))
  ho : oo.IsDictOf (intKind lw.row.prog w) (s.1.map fun p => (p.1, Value.bool p.2))
  hl : ol.IsDictOf (intKind lw.row.prog w) (s.2.map fun x => (x, Value.bool true))
  nd : (keysOf s.1).Nodup
/-- the check's own object, and where its dicts stand -/
structure CkR (w : World) (R : List (Addr × Obj)) (ck b o l : Addr) : Prop where
  at_ : ∃ dk t1 t2 t3 n, (ck, instObj 703 dk) ∈ R ∧ (dk, dictOf [fld w.params "bound" t1 (.ref b), fld w.params "open" t2 (.ref o), fld w.params "labels" t3 (.ref l)] n) ∈ R
  bo : NeA b o
  bl : NeA b l
  ol : NeA o l
  nb : ∀ p ∈ R, p.1 ≠ b
  no : ∀ p ∈ R, p.1 ≠ o
  nl : ∀ p ∈ R, p.1 ≠ l
  sb : (b == sysModules) = false
  so : (o == sysModules) = false
  sl : (l == sysModules) = false
theorem find_key {β : Type} (f : Int × Bool → β) (bo : Bo) (k : Int) : (bo.map fun p => (p.1, f p)).find? (fun kv => decide (kv.1 = k)) = (bo.find? fun p => decide (p.1 = k)).map fun p => (p.1, f p) := by
  induction bo with
  | nil => rfl
  | cons p r ih =>
    rw [List.map_cons, List.find?_cons, List.find?_cons]
    by_cases h : p.1 = k
    · simp [h]
    · simp [h, ih]
theorem find_mem {bo : Bo} (nd : (keysOf bo).Nodup) (k : Int) : ((bo.find? fun p => decide (p.1 = k)).map fun p => p.2).getD false = decide ((k, true) ∈ bo) := by
  induction bo with
  | nil => rfl
  | cons p r ih =>
    obtain ⟨x, b⟩ := p
    have hn : (keysOf r).Nodup := (List.nodup_cons.mp nd).2
    have hx : x ∉ keysOf r := (List.nodup_cons.mp nd).1
    rw [List.find?_cons]
    by_cases h : x = k
    · subst h
      have : (x, true) ∉ r := fun q => hx (List.mem_map.mpr ⟨_, q, rfl⟩)
      cases b <;> simp [this]
    · have : ¬ k = x := fun q => h q.symm
      simp [h, ih hn, this]
theorem isSome_key {β : Type} (f : Int × Bool → β) (bo : Bo) (k : Int) : (((bo.map fun p => (p.1, f p)).find? fun kv => decide (kv.1 = k)).map fun p => p.2).isSome = decide (k ∈ keysOf bo) := by
  rw [find_key]
  induction bo with
  | nil => rfl
  | cons p r ih =>
    rw [List.find?_cons]
    by_cases h : p.1 = k
    · simp [h, keysOf]
    · have : ¬ k = p.1 := fun q => h q.symm
      simp only [h, decide_false]
      rw [ih]
      simp [keysOf, this]
theorem any_key (f : Int × Bool → Value) (bo : Bo) (k : Int) : (bo.map fun p => (p.1, f p)).any (fun kv => decide (kv.1 = k)) = decide (k ∈ keysOf bo) := by
  induction bo with
  | nil => rfl
  | cons p r ih =>
    rw [List.map_cons, List.any_cons, ih]
    by_cases h : p.1 = k
    · simp [h, keysOf]
    · have : ¬ k = p.1 := fun q => h q.symm
      simp [h, keysOf, this]
theorem stored_new (f : Int × Bool → Value) {bo : Bo} {k : Int} (h : k ∉ keysOf bo) (b : Bool) : stored (bo.map fun p => (p.1, f p)) k (f (k, b)) = (bo ++ [(k, b)]).map fun p => (p.1, f p) := by
  unfold stored
  rw [any_key, decide_eq_false h, if_neg (by simp), List.map_append]; rfl
theorem stored_close {bo : Bo} {k : Int} (h : k ∈ keysOf bo) : stored (bo.map fun p => (p.1, Value.bool p.2)) k (.bool false) = (close [k] bo).map fun p => (p.1, Value.bool p.2) := by
  unfold stored close
  rw [any_key (fun p => Value.bool p.2), decide_eq_true h, if_pos rfl, List.map_map, List.map_map]
  refine List.map_congr_left fun p _ => ?_
  by_cases e : p.1 = k
  · simp [e]
  · simp [e]
theorem keys_close (ns : List Int) (bo : Bo) : keysOf (close ns bo) = keysOf bo := by
  unfold keysOf close
  rw [List.map_map]; rfl
theorem close_snoc (a : List Int) (x : Int) (bo : Bo) : close (a ++ [x]) bo = close [x] (close a bo) := by
  unfold close
  rw [List.map_map]
  refine List.map_congr_left fun p _ => ?_
  by_cases h1 : p.1 ∈ a <;> by_cases h2 : p.1 = x <;> simp [h1, h2]
theorem close_nil (bo : Bo) : close [] bo = bo := by
  unfold close
  conv => rhs; rw [← List.map_id' bo]
  exact List.map_congr_left fun p _ => by simp
theorem close_trues (ns : List Int) (bo : Bo) : (close ns bo).map (fun p => (p.1, Value.bool true)) = bo.map fun p => (p.1, Value.bool true) := by
  unfold close
  rw [List.map_map]; rfl
theorem binds_cons (bo : Bo) (x : Int) (r : List Int) : binds bo (x :: r) = if x < 0 ∨ x ∈ keysOf bo then none else binds (bo ++ [(x, true)]) r := rfl
theorem nodup_snoc {bo : Bo} (nd : (keysOf bo).Nodup) {k : Int} (h : k ∉ keysOf bo) : (keysOf (bo ++ [(k, true)])).Nodup := by
  rw [keysOf_append]
  refine List.nodup_append.mpr ⟨nd, by simp [keysOf], fun a ha b hb => ?_⟩
  have : b = k := by simpa [keysOf] using hb
  subst this
  intro e; subst e; exact h ha
section
variable {w : World} {A : Around} {E : Value → Shared → Prop} {h₀ : Heap} {L : Addr} {m : Str → Option Value} {s : Shared} {news : List (Addr × Obj)} {ob oo ol : Obj} {s2 : St2} {d : Addr} {k : Int} {t : Tok}
theorem u_openGet {Q : Value → Shared → Prop} (C : CkO w ob oo ol s2) (N : News h₀ L s.heap news) (hm : (d, oo) ∈ news) (lo : (d == sysModules) = false) (h : Q (.bool (decide ((k, true) ∈ s2.1))) { s with toks := s.toks + 1 }) :
    wpAny (model lw.row.prog w) A (call (.builtin "dict.get") [.ref d, .int k t, .bool false]) Q E s := by
  refine kdg_get2 (knd := intKind lw.row.prog w) N hm C.ho lo (intKind_is _ _ _ _) _ rfl ?_
  have e : (valueAt (s2.1.map fun p => (p.1, Value.bool p.2)) k).getD (.bool false) = .bool (decide ((k, true) ∈ s2.1)) := by
    unfold valueAt
    rw [find_key (fun p => Value.bool p.2), Option.map_map, ← find_mem C.nd]
    cases s2.1.find? fun p => decide (p.1 = k) <;> rfl
  rw [e]; exact h
theorem u_boundIn {Q : Value → Shared → Prop} (C : CkO w ob oo ol s2) (N : News h₀ L s.heap news) (hm : (d, ob) ∈ news) (lo : (d == sysModules) = false) (h : Q (.bool (decide (k ∈ keysOf s2.1))) { s with toks := s.toks + 1 }) :
    wpAny (model lw.row.prog w) A (compareOp .In (.int k t) (.ref d)) Q E s :=
  kda_in (knd := intKind lw.row.prog w) N hm C.hb lo (intKind_is _ _ _ _) _ (isSome_key (fun _ => Value.bool true) s2.1 k) h
theorem u_labelIn {Q : Value → Shared → Prop} (C : CkO w ob oo ol s2) (N : News h₀ L s.heap news) (hm : (d, ol) ∈ news) (lo : (d == sysModules) = false) (h : Q (.bool (decide (k ∈ s2.2))) { s with toks := s.toks + 1 }) :
    wpAny (model lw.row.prog w) A (compareOp .In (.int k t) (.ref d)) Q E s := by
  refine kda_in (knd := intKind lw.row.prog w) N hm C.hl lo (intKind_is _ _ _ _) _ ?_ h
  unfold valueAt
  have := isSome_key (fun _ => Value.bool true) (s2.2.map fun x => (x, true)) k
  rw [List.map_map] at this
  rw [keysOf_pair] at this
  exact this
/-- a store at the ledger's head -/
theorem u_dset {Q : Unit → Shared → Prop} {o : Obj} {r : List (Addr × Obj)} {kvs : List (Int × Value)} {v : Value} (F : Fr h₀ L s.heap m) (N : News h₀ L s.heap ((d, o) :: r)) (off : ∀ p ∈ r, p.1 ≠ d) (hd : o.IsDictOf (intKind lw.row.prog w) kvs) (hz : kvs.length ≤ 16777216)
    (h : ∀ h' o', Fr h₀ L h' m → News h₀ L h' ((d, o') :: r) → o'.IsDictOf (intKind lw.row.prog w) (stored kvs k v) → Q () { s with heap := h', toks := s.toks + 1 }) : wpAny (model lw.row.prog w) A (setItem (.ref d) (.int k t) v) Q E s :=
  kda_set (knd := intKind lw.row.prog w) F N (.head off) hd (intKind_is _ _ _ _) (by rw [sizeLine_eq]; exact hz) h
end
theorem setup_28 : True := by
  k_with "w:exec Raise some none" => (k_here; k_dflt (refine' raise_core w.params ?rhh ?_; (case rhh => rfl)))
  k_with "w:call ref" => (k_here; (with_reducible show wpAny _ _ (call (Value.ref 441) [_, _]) _ _ _); k_dflt (refine' Spec.use (core_make _) ?qB7 ?qF7 ?qX7 ?qXP7 ?qN7 ?qT7 ?qK7 ?qhd7 ?qhu7 ?_ ?qx7; (case qN7 => k_asm); (k_extra "m:use"); (case qx7 => k_extra "m:noX")); (rintro _ _ h' tk' F' N' ⟨ee', et', ed', eo', e1, e2, eoff'⟩); subst e1 e2; (try k_sweep); (try dsimp only))
  k_with "w:RaiseP" => (k_dflt (refine' RaiseP.intro ?rX9 ?rF9 ?rN9 ?rm9 ?_; (case rX9 => k_asm); (case rF9 => k_asm); (case rN9 => k_asm); (case rm9 => exact List.Mem.head _)); (try dsimp only))
  k_with "w:leaving ref" => (k_dflt (refine' leave_newC (Z := Zr) ?lK9 ?lF9 ?lN9 ?lm9 ?lZ9 ?lo9 ?_; (case lK9 => k_asm); (case lF9 => k_asm); (case lN9 => k_asm); (case lm9 => exact List.Mem.head _); (case lZ9 => k_extra "m:subX"); (case lo9 => (refine' ne_sub eoff' ?lo8; (case lo8 => k_extra "m:subX")))); intro h' R' U'; (try dsimp only at R' U' ⊢))
  k_with "m:enter" => ((case kA => exact rfl); (case kF => exact rfl); (case kK => assumption); (case k1 => k_asm); (case k2 => k_asm); (case k3 => k_asm); (case k4 => k_asm); (case k5 => k_asm); (case k6 => k_is); (case k7 => k_is); (case k8 => k_extra "m:room0"); (case k9 => exact BindsTo.of_eq rfl); (case c5 => decide); (case kB => exact locs rfl); (case c2 => exact rfl); (case c3 => exact rfl); (case c4 => exact rfl); k_whole; intro g' L' h' FG' F' N' B' X' T'; (have XP' := Prims.keeps (by assumption) (Fr.keep FG')); (try dsimp only); (try k_fold); (refine' enterQG ?hP9 ?_; (case hP9 => first | passes_own | with_unfolding_all passes_own)); intro Q9 G9 hQ9 hG9 hP9; (show let A9 := _; wpAny _ A9 _ _ _ _); intro A9)
  k_with "m:enterC" => ((case kA => exact rfl); (case kF => exact rfl); (case kK => assumption); (case k1 => k_asm); (case k2 => k_asm); (case k3 => k_asm); (case k4 => k_asm); (case k5 => k_asm); (case k6 => k_is); (case k7 => k_is); (case k8 => k_extra "m:room0"); (case k9 => exact BindsTo.of_eq rfl); (case kB => exact rfl); (case kD => decide +kernel); (case c2 => exact rfl); (case c3 => exact rfl); (case c4 => exact rfl); k_whole; intro g' L' h' tk' cells' FG' F' N' Y' B' X' T' l1; (have lC' : CellsOff _ _ := l1); clear l1; (have XP' := Prims.keeps (by assumption) (Fr.keep FG')); (k_extra "m:cells"); (try simp only [List.cons_append, List.nil_append] at N'); (try dsimp only); (try k_fold); (refine' enterQG ?hP9 ?_; (case hP9 => first | passes_own | with_unfolding_all passes_own)); intro Q9 G9 hQ9 hG9 hP9; (show let A9 := _; wpAny _ A9 _ _ _ _); intro A9)
  k_with "w:EAt" => ((refine' EAt.of ?kh9 ?_; (case kh9 => assumption)); (try dsimp only))
  trivial
set_option maxHeartbeats 600000 in
theorem need_open_spec (w : World) {ck b o l : Addr} {ob oo ol : Obj} {s2 : St2} {Zr : List (Addr × Obj)} {k : Int} {t : Tok} (hR : CkR w Zr ck b o l) (C : CkO w ob oo ol s2) :
    SpecE w 700 40 400 [.ref ck, .int k t] ((b, ob) :: (o, oo) :: (l, ol) :: Zr) (fun r news' => r = .none ∧ news' = (b, ob) :: (o, oo) :: (l, ol) :: Zr ∧ (k, true) ∈ s2.1) (¬ (k, true) ∈ s2.1) Zr := by
  unfold SpecE
  k_fill
  intro dp un gd cn cs a ccd cl outer A₀ base h₀ L m s Q E p loose mean mg mb B F X XP N T hk hd hu hret herr
  obtain ⟨dk, t1, t2, t3, n, hck, hdk⟩ := hR.at_
  refine wpAny_call ?_
  k_dflt (refine' code_def (binds := [(Str.ofString "self", .ref ck), (Str.ofString "number", .int k t)]) ?k1 ?k2 ?k3 ?k4 ?k5 ?kA ?kF ?kK ?k6 ?k7 ?k8 ?k9 ?kB ?_ ?c2 ?c3 ?c4 ?c5; k_extra "m:enter")
  k_with "w:getMethod ref" => (k_dflt (refine' kdg_method (knd := intKind lw.row.prog w) ?gN9 ?gm9 ?gd9 ?_; (case gN9 => k_asm); (case gm9 => k_mem); (case gd9 => exact C.ho)))
  k_with "w:call builtin:dict.get" => (k_dflt (refine' u_openGet C ?gN9 ?gm9 ?gl9 ?_; (case gN9 => k_asm); (case gm9 => k_mem); (case gl9 => exact hR.so)))
  k_steps
  · exact hret _ _ _ _ (by k_asm) (newsSub (by k_asm) (by k_extra "m:subX")) ⟨rfl, rfl, by assumption⟩
  · exact herr (by assumption) _ _ _ _ FG' R' U'
theorem ck_offs {w : World} {Zr : List (Addr × Obj)} {ck b o l : Addr} (hR : CkR w Zr ck b o l) (x y z : Obj) : (∀ p ∈ (o, y) :: (l, z) :: Zr, p.1 ≠ b) ∧ (∀ p ∈ (b, x) :: (l, z) :: Zr, p.1 ≠ o) ∧ (∀ p ∈ (b, x) :: (o, y) :: Zr, p.1 ≠ l) :=
  ⟨List.forall_mem_cons.mpr ⟨Ne.symm hR.bo, List.forall_mem_cons.mpr ⟨Ne.symm hR.bl, hR.nb⟩⟩, List.forall_mem_cons.mpr ⟨hR.bo, List.forall_mem_cons.mpr ⟨Ne.symm hR.ol, hR.no⟩⟩, List.forall_mem_cons.mpr ⟨hR.bl, List.forall_mem_cons.mpr ⟨hR.ol, hR.nl⟩⟩⟩
theorem CkO.bind {w : World} {ob oo ol ob' oo' : Obj} {s2 : St2} {k : Int} (C : CkO w ob oo ol s2) (h : ¬ k ∈ keysOf s2.1) (h1 : ob'.IsDictOf (intKind lw.row.prog w) (stored (s2.1.map fun p => (p.1, Value.bool true)) k (.bool true)))
    (h2 : oo'.IsDictOf (intKind lw.row.prog w) (stored (s2.1.map fun p => (p.1, Value.bool p.2)) k (.bool true))) : CkO w ob' oo' ol (s2.1 ++ [(k, true)], s2.2) where
  hb := by rw [← stored_new (fun _ => Value.bool true) h true]; exact h1
  ho := by rw [← stored_new (fun p => Value.bool p.2) h true]; exact h2
  hl := C.hl
  nd := nodup_snoc C.nd h
set_option maxHeartbeats 1000000 in
theorem bindC_spec (w : World) {ck b o l : Addr} {ob oo ol : Obj} {s2 : St2} {Zr : List (Addr × Obj)} {k : Int} {t : Tok} (hR : CkR w Zr ck b o l) (C : CkO w ob oo ol s2) (hz : s2.1.length ≤ 1000000) :
    SpecE w 679 40 400 [.ref ck, .int k t] ((b, ob) :: (o, oo) :: (l, ol) :: Zr) (fun r news' => r = .none ∧ ∃ ob' oo', news' = (b, ob') :: (o, oo') :: (l, ol) :: Zr ∧ CkO w ob' oo' ol (s2.1 ++ [(k, true)], s2.2) ∧ ¬ (k < 0 ∨ k ∈ keysOf s2.1)) (k < 0 ∨ k ∈ keysOf s2.1) Zr := by
  unfold SpecE
  k_fill
  intro dp un gd cn cs a ccd cl outer A₀ base h₀ L m s Q E p loose mean mg mb B F X XP N T hk hd hu hret herr
  obtain ⟨dk, t1, t2, t3, n, hck, hdk⟩ := hR.at_
  refine wpAny_call ?_
  k_dflt (refine' code_def (binds := [(Str.ofString "self", .ref ck), (Str.ofString "number", .int k t)]) ?k1 ?k2 ?k3 ?k4 ?k5 ?kA ?kF ?kK ?k6 ?k7 ?k8 ?k9 ?kB ?_ ?c2 ?c3 ?c4 ?c5; k_extra "m:enter")
  k_with "w:compareOp In int ref" => (k_dflt (refine' u_boundIn C ?gN9 ?gm9 ?gl9 ?_; (case gN9 => k_asm); (case gm9 => k_mem); (case gl9 => exact hR.sb)))
  k_with "w:setItem ref int" => ((with_reducible show wpAny _ _ (setItem (Value.ref b) _ _) _ _ _); k_dflt (refine' u_dset (r := (o, oo) :: (l, ol) :: Zr) ?gF9 ?gN9 (ck_offs hR ob oo ol).1 C.hb ?gz9 ?_; (case gF9 => k_asm); (case gN9 => k_asm); (case gz9 => (rw [List.length_map]; omega))); intro h' ob' F' N' hb'; k_sweep)
  k_with "w:setItem ref int" => ((with_reducible show wpAny _ _ (setItem (Value.ref o) _ _) _ _ _); k_dflt (refine' u_dset (r := (b, ob') :: (l, ol) :: Zr) ?gF9 (newsSub ?gN9 ?gs9) (ck_offs hR ob' oo ol).2.1 C.ho ?gz9 ?_; (case gF9 => k_asm); (case gN9 => k_asm); (case gs9 => k_extra "m:subX"); (case gz9 => (rw [List.length_map]; omega))); intro h' oo' F' N' ho'; k_sweep)
  k_steps
  all_goals first
    | (refine hret _ _ _ _ (by k_asm) (newsSub (by k_asm) (by k_extra "m:subX")) ⟨rfl, ob', oo', rfl, C.bind (by assumption) hb' ho', fun q9 => q9.elim (by assumption) (by assumption)⟩)
    | exact herr (Or.inl (by assumption)) _ _ _ _ FG' R' U'
    | exact herr (Or.inr (by assumption)) _ _ _ _ FG' R' U'
theorem setup_29 : True := by
  k_with "w:call ref" => (k_here; (with_reducible show wpAny _ _ (call (Value.ref 679) [Value.ref ck, Value.int _ _]) _ _ _); k_dflt (refine' SpecE.use (bindC_spec (Zr := Zr) _ ?bR9 ?bC9 ?bz9) ?qB7 ?qF7 ?qX7 ?qXP7 (newsSub ?qN7 ?qs7) ?qT7 ?qK7 ?qhd7 ?qhu7 ?_ ?_; (case qN7 => k_asm); (k_extra "m:use"); (case bR9 => with_reducible assumption); (case bC9 => with_reducible assumption); (case qs7 => k_extra "m:subX"); (case bz9 => omega)); all_goals first | (rintro _ _ h' tk' F' N' ⟨e1, ob', oo', e2, C', hnb'⟩; subst e1 e2; (try k_sweep); (try dsimp only)) | (intro hX' ee' gg' h' tk' FF' R' U'; (try dsimp only at R' U' ⊢)))
  k_with "w:leaving ref" => (k_dflt (refine' leave_onSN ?lK9 ?lF9 ?lR9 ?lU9 ?_; (case lR9 => exact R'); (case lK9 => k_asm); (case lF9 => with_reducible exact FF'); (case lU9 => with_reducible exact U')); intro h' R' RN' U'; clear RN'; (try dsimp only at R' U' ⊢))
  trivial
/-- what binders_of hands back -/
noncomputable def BindersR (news : List (Addr × Obj)) (ns : List Int) (r : Value) (news' : List (Addr × Obj)) : Prop := ∃ D us n, r = .ref D ∧ news' = (D, listOf (List.toArray us) n) :: news ∧ (∀ p ∈ news, p.1 < D) ∧ IntsAre us ns
section
variable {x dx lp : Addr} {lx r : Int} {tl tr t1 t2 t3 t4 : Tok} {n np : Nat} {ps : List Int} {vps : List Value} {b : Value} {news : List (Addr × Obj)}
set_option maxHeartbeats 600000 in
theorem binders_spec (w : World) (h1 : (x, instObj 283 dx) ∈ news) (h2 : (dx, dictOf [fld w.params "label" t1 (.int lx tl), fld w.params "params" t2 (.ref lp), fld w.params "rest" t3 (.int r tr), fld w.params "body" t4 b] n) ∈ news) (h3 : (lp, listOf vps.toArray np) ∈ news) (hI : IntsAre vps ps) (hz : ps.length ≤ 50000) :
    Spec w 273 20 200 [.ref x] news (BindersR news (own ps r)) NoX := by
  unfold Spec
  k_fill
  intro dp un gd cn cs a ccd cl outer A₀ base h₀ L m s Q E p loose mean mg mb B F X XP N T hk hd hu hret herr
  have hIl := IntsAre.length hI
  obtain ⟨q9, hown, hq9⟩ := own_split ps r
  refine wpAny_call ?_
  k_dflt (refine' code_def (binds := [(Str.ofString "self", .ref x)]) ?k1 ?k2 ?k3 ?k4 ?k5 ?kA ?kF ?kK ?k6 ?k7 ?k8 ?k9 ?kB ?_ ?c2 ?c3 ?c4 ?c5; k_extra "m:enter")
  k_with "w:binaryOp Add ref ref" => (k_here; (with_reducible show wpAny _ _ (binaryOp _ (Value.ref _) (Value.ref _)) _ _ _); k_dflt (refine' add_ints_at ?yF1 ?yN1 ?ya1 ?yb1 ?yi1 ?yj1 ?yz1 ?_; (case yF1 => k_asm); (case yN1 => k_asm); (case ya1 => k_mem); (case yb1 => k_mem); (case yi1 => with_reducible assumption); (case yj1 => exact IntsAre.cons _ _ IntsAre.nil); (case yz1 => (simp only [List.length_cons, List.length_nil]; omega))); intro Da' wa' h' F' N' la' hIa'; (rw [hown] at hIa'); (try k_sweep))
  k_with "w:call type:list" => (k_here; (with_reducible show wpAny _ _ (call (Value.type _) [Value.ref _]) _ _ _); k_dflt (refine' list_copyK ?lF ?lN ?ll ?_ ?lz; (case lF => k_asm); (case lN => k_asm); (case ll => exact is_list_at (by k_asm) h3); (case lz => (rw [sizeLine_eq, List.size_toArray]; omega))); intro D' c' h' F' N' l1; (try k_sweep); (try dsimp only))
  rcases hq9 with ⟨hr, rfl⟩ | ⟨hr, rfl⟩
  all_goals k_steps
  · exact hret _ _ _ _ (by k_asm) (newsSub (by k_asm) (by k_extra "m:subX")) ⟨Da', wa', 0, rfl, rfl, fun p hp => allLt_all la' p (.tail _ hp), hIa'⟩
  · exact hret _ _ _ _ (by k_asm) (newsSub (by k_asm) (by k_extra "m:subX")) ⟨D', vps, c', rfl, rfl, l1, by rw [← hown, List.append_nil]; exact hI⟩
end
theorem setup_30 : True := by
  k_with "w:call ref" => (k_here; (with_reducible show wpAny _ _ (call (Value.ref 273) [Value.ref _]) _ _ _); k_dflt (refine' Spec.use (binders_spec _ ?e0p ?e1p ?e2p ?e3p ?e4p) ?qB7 ?qF7 ?qX7 ?qXP7 ?qN7 ?qT7 ?qK7 ?qhd7 ?qhu7 ?_ ?qx7; (case qN7 => k_asm); (k_extra "m:use"); (case e0p => k_mem); (case e1p => k_mem); (case e2p => k_mem); (case e3p => with_reducible assumption); (case e4p => omega); (case qx7 => k_extra "m:noX")); (rintro _ _ h' tk' F' N' ⟨Db', ub', nb', e1, e2, lb', hb'⟩); subst e1 e2; (try k_sweep); (try dsimp only))
  trivial
/-- what binders_of hands back: a list that it makes, or one that stands -/
noncomputable def BindersG (news : List (Addr × Obj)) (ns : List Int) (r : Value) (news' : List (Addr × Obj)) : Prop :=
  ∃ D us n xs, r = .ref D ∧ news' = xs ++ news ∧ (∀ p ∈ xs, ∀ q ∈ news, q.1 < p.1) ∧ (D, listOf (List.toArray us) n) ∈ xs ++ news ∧ IntsAre us ns
section
variable {x dx lp l ln : Addr} {lx r : Int} {tl tr t1 t2 t3 t4 : Tok} {n np nn nl : Nat} {ps ns : List Int} {vps vns vs : List Value} {b : Value} {news : List (Addr × Obj)}
set_option maxHeartbeats 600000 in
theorem binders_of_lam (w : World) (h1 : (x, instObj 283 dx) ∈ news) (h2 : (dx, dictOf [fld w.params "label" t1 (.int lx tl), fld w.params "params" t2 (.ref lp), fld w.params "rest" t3 (.int r tr), fld w.params "body" t4 b] n) ∈ news) (h3 : (lp, listOf vps.toArray np) ∈ news) (hI : IntsAre vps ps) (hz : ps.length ≤ 50000) :
    Spec w 424 40 400 [.ref x] news (BindersG news (own ps r)) NoX := by
  unfold Spec
  k_fill
  intro dp un gd cn cs a ccd cl outer A₀ base h₀ L m s Q E p loose mean mg mb B F X XP N T hk hd hu hret herr
  refine wpAny_call ?_
  k_dflt (refine' code_def (binds := [(Str.ofString "node", .ref x)]) ?k1 ?k2 ?k3 ?k4 ?k5 ?kA ?kF ?kK ?k6 ?k7 ?k8 ?k9 ?kB ?_ ?c2 ?c3 ?c4 ?c5; k_extra "m:enter")
  k_steps
  exact hret _ _ _ _ (by k_asm) (newsSub (news' := (Db', listOf (List.toArray ub') nb') :: news) (by k_asm) (by k_extra "m:subX")) ⟨Db', ub', nb', [(Db', listOf (List.toArray ub') nb')], rfl, rfl, fun p hp q hq => by rw [List.mem_singleton.mp hp]; exact lb' q hq, .head _, hb'⟩
set_option maxHeartbeats 600000 in
theorem binders_of_fix (w : World) (h1 : (x, instObj 415 dx) ∈ news) (h2 : (dx, dictOf [fld w.params "numbers" t1 (.ref ln), fld w.params "lambdas" t2 (.ref l), fld w.params "body" t3 b] n) ∈ news) (h3 : (ln, listOf vns.toArray nn) ∈ news) (hI : IntsAre vns ns) :
    Spec w 424 40 400 [.ref x] news (BindersG news ns) NoX := by
  unfold Spec
  k_fill
  intro dp un gd cn cs a ccd cl outer A₀ base h₀ L m s Q E p loose mean mg mb B F X XP N T hk hd hu hret herr
  refine wpAny_call ?_
  k_dflt (refine' code_def (binds := [(Str.ofString "node", .ref x)]) ?k1 ?k2 ?k3 ?k4 ?k5 ?kA ?kF ?kK ?k6 ?k7 ?k8 ?k9 ?kB ?_ ?c2 ?c3 ?c4 ?c5; k_extra "m:enter")
  k_steps
  exact hret _ _ _ _ (by k_asm) (newsSub (news' := news) (by k_asm) (by k_extra "m:subX")) ⟨ln, vns, nn, [], rfl, rfl, fun _ h => (nomatch h), h3, hI⟩
end
theorem binders_of_any (w : World) {R news : List (Addr × Obj)} {v : Value} {T : Nd} (h : NodeIn w.params R v T) (sub : ∀ p ∈ R, p ∈ news) (hb : binding T = true) (hz : wt T ≤ 50000) : Spec w 424 40 400 [v] news (BindersG news (binders T)) NoX := by
  cases h with
  | lam h1 h2 h3 hI _ _ => exact binders_of_lam w (sub _ h1) (sub _ h2) (sub _ h3) hI (by simp only [wt] at hz; omega)
  | fix h1 h2 h3 hI _ _ _ _ => exact binders_of_fix w (sub _ h1) (sub _ h2) (sub _ h3) hI
  | _ => cases hb
theorem setup_31 : True := by
  k_with "w:call ref" => (k_here; (with_reducible show wpAny _ _ (call (Value.ref 424) [Value.ref _]) _ _ _); k_dflt (refine' Spec.use (binders_of_any _ ?e0p ?e1p ?e2p ?e3p) ?qB7 ?qF7 ?qX7 ?qXP7 ?qN7 ?qT7 ?qK7 ?qhd7 ?qhu7 ?_ ?qx7; (case e0p => with_reducible assumption); (case qN7 => k_asm); (k_extra "m:use"); (case e1p => k_extra "m:subX"); (case e2p => first | rfl | assumption); (case e3p => omega); (case qx7 => k_extra "m:noX")); (rintro _ _ h' tk' F' N' ⟨Db', ub', nb', xb', e1, e2, lb', mb', hb'⟩); subst e1 e2; (try k_sweep); (try dsimp only))
  trivial
theorem RaisedSN.sub {base G : Heap} {l : List Env} {e : Addr} {cls : Value} {news news' : List (Addr × Obj)} {h : Heap} (R : RaisedSN base G l e cls news h) (s : ∀ p ∈ news', p ∈ news) : RaisedSN base G l e cls news' h := by
  obtain ⟨B, a0, h1, h2, h3, h4⟩ := R
  exact ⟨B, a0, h1, h2, fun q hq => h3 q (s q hq), h4⟩
theorem CkR.more {w : World} {R : List (Addr × Obj)} {ck b o l : Addr} (h : CkR w R ck b o l) (x : List (Addr × Obj)) (h1 : ∀ p ∈ x, p.1 ≠ b) (h2 : ∀ p ∈ x, p.1 ≠ o) (h3 : ∀ p ∈ x, p.1 ≠ l) : CkR w (x ++ R) ck b o l :=
  { h with
    at_ := let ⟨dk, t1, t2, t3, n, a, c⟩ := h.at_; ⟨dk, t1, t2, t3, n, List.mem_append_right _ a, List.mem_append_right _ c⟩
    nb := List.forall_mem_append.mpr ⟨h1, h.nb⟩
    no := List.forall_mem_append.mpr ⟨h2, h.no⟩
    nl := List.forall_mem_append.mpr ⟨h3, h.nl⟩ }
theorem dict_not_list {prog : Program} {w : World} {o : Obj} {kvs : List (Int × Value)} {vs : Array Value} {n : Nat} (h : o.IsDictOf (intKind prog w) kvs) : o ≠ listOf vs n := fun e => by
  subst e
  obtain ⟨es, ep, _, hd, _⟩ := h
  cases hd
theorem mem_swapO {a b o l : Addr} {x ob oo oo2 ol : Obj} {xs Zr : List (Addr × Obj)} (h : (a, x) ∈ xs ++ (b, ob) :: (o, oo) :: (l, ol) :: Zr) (hn : oo ≠ x) : (a, x) ∈ xs ++ (b, ob) :: (o, oo2) :: (l, ol) :: Zr := by
  rcases List.mem_append.mp h with h | h
  · exact List.mem_append_left _ h
  · refine List.mem_append_right _ ?_
    rcases List.mem_cons.mp h with h | h
    · exact h ▸ .head _
    · rcases List.mem_cons.mp h with h | h
      · exact absurd (Prod.mk.inj h).2.symm hn
      · exact .tail _ (.tail _ h)
theorem mem_swapB {a b o l : Addr} {x ob ob2 oo ol : Obj} {xs Zr : List (Addr × Obj)} (h : (a, x) ∈ xs ++ (b, ob) :: (o, oo) :: (l, ol) :: Zr) (hn : ob ≠ x) : (a, x) ∈ xs ++ (b, ob2) :: (o, oo) :: (l, ol) :: Zr := by
  rcases List.mem_append.mp h with h | h
  · exact List.mem_append_left _ h
  · refine List.mem_append_right _ ?_
    rcases List.mem_cons.mp h with h | h
    · exact absurd (Prod.mk.inj h).2.symm hn
    · exact .tail _ h
theorem end_turn {w : World} {oo : Obj} {bo : Bo} {ns : List Int} {i : Nat} {n : Int} (hg : ns[i]? = some n) (hk : ∀ x ∈ ns, x ∈ keysOf bo) (h : oo.IsDictOf (intKind lw.row.prog w) (stored ((close (ns.take i) bo).map fun p => (p.1, Value.bool p.2)) n (.bool false))) :
    oo.IsDictOf (intKind lw.row.prog w) ((close (ns.take (i + 1)) bo).map fun p => (p.1, Value.bool p.2)) := by
  rw [stored_close (by rw [keys_close]; exact hk n (List.mem_of_getElem? hg))] at h
  rw [List.take_add_one, hg]
  rw [← close_snoc] at h
  exact h
/-- between the turns of the check's closing -/
noncomputable def endJ (w : World) (ck b o l : Addr) (ob ol : Obj) (xs Zr : List (Addr × Obj)) (bo : Bo) (ns : List Int) (i : Nat) (m₁ : Str → Option Value) (news₁ : List (Addr × Obj)) : Prop :=
  m₁ (Str.ofString "self") = some (.ref ck) ∧ ∃ oo', news₁ = xs ++ (b, ob) :: (o, oo') :: (l, ol) :: Zr ∧ oo'.IsDictOf (intKind lw.row.prog w) ((close (ns.take i) bo).map fun p => (p.1, Value.bool p.2))
set_option maxHeartbeats 1000000 in
theorem end_spec (w : World) {ck b o l : Addr} {ob oo ol : Obj} {s2 : St2} {R Zr : List (Addr × Obj)} {v : Value} {T : Nd} (hT : NodeIn w.params R v T) (hs : ∀ p ∈ R, p ∈ Zr) (hb : binding T = true) (hwt : wt T ≤ 50000) (hR : CkR w Zr ck b o l) (C : CkO w ob oo ol s2) (hz : s2.1.length ≤ 1000000) (hk9 : ∀ x ∈ binders T, x ∈ keysOf s2.1) :
    Spec w 693 60 600 [.ref ck, v] ((b, ob) :: (o, oo) :: (l, ol) :: Zr) (fun r news' => r = .none ∧ ∃ oo', news' = (b, ob) :: (o, oo') :: (l, ol) :: Zr ∧ CkO w ob oo' ol (leave T s2)) NoX := by
  unfold Spec
  k_fill
  intro dp un gd cn cs a ccd cl outer A₀ base h₀ L m s Q E p loose mean mg mb B F X XP N T' hk hd hu hret herr
  obtain ⟨dk, t1, t2, t3, n, hck, hdk⟩ := hR.at_
  obtain ⟨x, Cx, dx, rfl, hx9⟩ := id hT.ref
  clear hx9
  refine wpAny_call ?_
  k_dflt (refine' code_def (binds := [(Str.ofString "self", .ref ck), (Str.ofString "node", .ref x)]) ?k1 ?k2 ?k3 ?k4 ?k5 ?kA ?kF ?kK ?k6 ?k7 ?k8 ?k9 ?kB ?_ ?c2 ?c3 ?c4 ?c5; k_extra "m:enter")
  have kdF : KdF (fScope (inAt 38 3)) := by (unfold KdF; kernel_rfl!)
  have kd0 : KdL (fScope (inAt 38 3)) (Str.ofString "self") := ⟨by kernel_rfl!, by kernel_rfl!⟩
  have kd1 : KdL (fScope (inAt 38 3)) (Str.ofString "node") := ⟨by kernel_rfl!, by kernel_rfl!⟩
  have kd2 : KdL (fScope (inAt 38 3)) (Str.ofString "number") := ⟨by kernel_rfl!, by kernel_rfl!⟩
  have kd3 : KdG (fScope (inAt 38 3)) (Str.ofString "binders_of") := ⟨by kernel_rfl!, by kernel_rfl!⟩
  k_with "w:pyIter ref" => (k_dflt (refine' iter_invNL (endJ w ck b o l ob ol xb' Zr s2.1 (binders T)) ?oh ?ol ?oi ?oF ?oN ?oj ?ot ?od; (case oh => rfl); (case oN => k_asm); (case oF => k_asm); (case ol => exact mb'); (case oi => exact hb'); (case oj => exact ⟨rfl, _, rfl, by rw [List.take_zero, close_nil]; exact C.ho⟩)); all_goals first | (intro i n t m₁ news₁ h tk own hget hadr hoff hlm hJ₁ F₁ N₁; obtain ⟨hself, oo', rfl, ho'⟩ := hJ₁; have hoff' := OwnOff.ne hoff (b := o) (List.mem_map.mpr ⟨(o, oo), List.mem_append_right _ (.tail _ (.head _)), rfl⟩); k_sweep; dsimp only [envOf] at F₁ N₁) | (intro m₁ news₁ h tk hlm hJ₁ F₁ N₁; obtain ⟨hself, oo', rfl, ho'⟩ := hJ₁; clear hlm; rw [List.take_length] at ho'; k_sweep; dsimp only [envOf] at F₁ N₁))
  k_with "w:setItem ref int" => ((with_reducible show wpAny _ _ (setItem (Value.ref o) _ _) _ _ _); k_dflt (refine' u_dset (r := own ++ (xb' ++ (b, ob) :: (l, ol) :: Zr)) ?gF9 (newsSub ?gN9 ?gs9) ?go9 ho' ?gz9 ?_; (case gF9 => k_asm); (case gN9 => k_asm); (case gs9 => k_extra "m:subX"); (case go9 => exact List.forall_mem_append.mpr ⟨hoff', List.forall_mem_append.mpr ⟨fun p hp => Ne.symm (Nat.ne_of_lt (lb' p hp (o, oo) (.tail _ (.head _)))), (ck_offs hR ob oo ol).2.1⟩⟩); (case gz9 => (rw [List.length_map]; unfold close; rw [List.length_map]; omega))); intro h' oo'' F' N' ho''; k_sweep)
  k_with "w:InvEndN" => k_dflt (refine' InvEndN.intro (nx := xb' ++ (b, ob) :: (o, oo'') :: (l, ol) :: Zr) ?vF ?vN ⟨?vm, ?vq, oo'', rfl, ?vo⟩ ?va ?vn ?vw; (case vF => k_asm); (case vN => k_asm); (case vm => exact mem_swapO hlm (dict_not_list ho')); (case vq => exact upd_skip (by kernel_rfl!) hself); (case vo => exact end_turn hget hk9 ho''); (case va => (simp only [List.map_append, List.map_cons])); (case vn => k_extra "m:subX"); (case vw => k_extra "m:lift"))
  k_steps
  refine hret _ _ _ _ (by k_asm) (newsSub (by k_asm) (by k_extra "m:subX")) ⟨rfl, oo', rfl, ⟨?_, ho', C.hl, ?_⟩⟩
  · show ob.IsDictOf _ ((close (binders T) s2.1).map _)
    rw [close_trues]; exact C.hb
  · show (keysOf (close (binders T) s2.1)).Nodup
    rw [keys_close]; exact C.nd
/-- between the turns of the check's opening -/
noncomputable def beginJ (w : World) (ck b o l : Addr) (ol : Obj) (xs Zr : List (Addr × Obj)) (s2 : St2) (ns : List Int) (i : Nat) (m₁ : Str → Option Value) (news₁ : List (Addr × Obj)) : Prop :=
  m₁ (Str.ofString "self") = some (.ref ck) ∧ ∃ ob' oo' bo', news₁ = xs ++ (b, ob') :: (o, oo') :: (l, ol) :: Zr ∧ CkO w ob' oo' ol (bo', s2.2) ∧ bo'.length ≤ s2.1.length + i ∧ binds s2.1 ns = binds bo' (ns.drop i)
theorem binds_none {bo bo' : Bo} {ns : List Int} {i : Nat} {n : Int} (hg : ns[i]? = some n) (h : binds bo ns = binds bo' (ns.drop i)) (hx : n < 0 ∨ n ∈ keysOf bo') : binds bo ns = none := by
  rw [h, drop_of_get hg, binds_cons, if_pos hx]
theorem binds_next {bo bo' : Bo} {ns : List Int} {i : Nat} {n : Int} (hg : ns[i]? = some n) (h : binds bo ns = binds bo' (ns.drop i)) (hx : ¬ (n < 0 ∨ n ∈ keysOf bo')) : binds bo ns = binds (bo' ++ [(n, true)]) (ns.drop (i + 1)) := by
  rw [h, drop_of_get hg, binds_cons, if_neg hx]
/-- what begin hands back -/
noncomputable def BeginR (w : World) (b o l : Addr) (Zr : List (Addr × Obj)) (s2 : St2) (n : Nat) (c : Option St2) (r : Value) (news' : List (Addr × Obj)) : Prop :=
  r = .none ∧ ∃ ob' oo' ol' s', news' = (b, ob') :: (o, oo') :: (l, ol') :: Zr ∧ CkO w ob' oo' ol' s' ∧ s'.1.length ≤ s2.1.length + n ∧ s'.2.length ≤ s2.2.length + 1 ∧ c = some s'
set_option maxHeartbeats 1500000 in
theorem begin_fix (w : World) {ck b o l : Addr} {ob oo ol : Obj} {s2 : St2} {R Zr : List (Addr × Obj)} {x : Addr} {T : Nd} (hT : NodeIn w.params R (.ref x) T) (hs : ∀ p ∈ R, p ∈ Zr) (hb : binding T = true) (hkd : (kindOf T == 7) = false) (hwt : wt T ≤ 50000) (hR : CkR w Zr ck b o l) (C : CkO w ob oo ol s2) (hz : s2.1.length + (binders T).length ≤ 1000000) :
    SpecE w 686 80 800 [.ref ck, .ref x] ((b, ob) :: (o, oo) :: (l, ol) :: Zr) (BeginR w b o l Zr s2 (binders T).length ((binds s2.1 (binders T)).map fun b => (b, s2.2))) ((binds s2.1 (binders T)).map (fun b => (b, s2.2)) = none) Zr := by
  unfold SpecE
  k_fill
  intro dp un gd cn cs a ccd cl outer A₀ base h₀ L m s Q E p loose mean mg mb B F X XP N T' hk hd hu hret herr
  obtain ⟨dk, t1, t2, t3, n, hck, hdk⟩ := hR.at_
  refine wpAny_call ?_
  k_dflt (refine' code_def (binds := [(Str.ofString "self", .ref ck), (Str.ofString "node", .ref x)]) ?k1 ?k2 ?k3 ?k4 ?k5 ?kA ?kF ?kK ?k6 ?k7 ?k8 ?k9 ?kB ?_ ?c2 ?c3 ?c4 ?c5; k_extra "m:enter")
  have kdF : KdF (fScope (inAt 38 2)) := by (unfold KdF; kernel_rfl!)
  have kd0 : KdL (fScope (inAt 38 2)) (Str.ofString "self") := ⟨by kernel_rfl!, by kernel_rfl!⟩
  have kd1 : KdL (fScope (inAt 38 2)) (Str.ofString "node") := ⟨by kernel_rfl!, by kernel_rfl!⟩
  have kd2 : KdL (fScope (inAt 38 2)) (Str.ofString "number") := ⟨by kernel_rfl!, by kernel_rfl!⟩
  have kd3 : KdG (fScope (inAt 38 2)) (Str.ofString "LAMBDA") := ⟨by kernel_rfl!, by kernel_rfl!⟩
  have kd4 : KdG (fScope (inAt 38 2)) (Str.ofString "CoreError") := ⟨by kernel_rfl!, by kernel_rfl!⟩
  have kd5 : KdG (fScope (inAt 38 2)) (Str.ofString "binders_of") := ⟨by kernel_rfl!, by kernel_rfl!⟩
  k_with "w:pyIter ref" => (k_dflt (refine' iter_invNL (beginJ w ck b o l ol xb' Zr s2 (binders T)) ?oh ?ol ?oi ?oF ?oN ?oj ?ot ?od; (case oh => rfl); (case oN => k_asm); (case oF => k_asm); (case ol => exact mb'); (case oi => exact hb'); (case oj => exact ⟨rfl, _, _, _, rfl, C, Nat.le_refl _, rfl⟩)); all_goals first | (intro i n t m₁ news₁ h tk own hget hadr hoff hlm hJ₁ F₁ N₁; obtain ⟨hself, ob', oo', bo', rfl, C', hbl', hbe'⟩ := hJ₁; have hoffb := OwnOff.ne hoff (b := b) (List.mem_map.mpr ⟨(b, ob), List.mem_append_right _ (.head _), rfl⟩); have hoffo := OwnOff.ne hoff (b := o) (List.mem_map.mpr ⟨(o, oo), List.mem_append_right _ (.tail _ (.head _)), rfl⟩); have hoffl := OwnOff.ne hoff (b := l) (List.mem_map.mpr ⟨(l, ol), List.mem_append_right _ (.tail _ (.tail _ (.head _))), rfl⟩); have hi9 := (List.getElem?_eq_some_iff.mp hget).1; have hR' := (hR.more xb' (fun p hp => Ne.symm (Nat.ne_of_lt (lb' p hp (b, ob) (.head _)))) (fun p hp => Ne.symm (Nat.ne_of_lt (lb' p hp (o, oo) (.tail _ (.head _))))) (fun p hp => Ne.symm (Nat.ne_of_lt (lb' p hp (l, ol) (.tail _ (.tail _ (.head _))))))).more own hoffb hoffo hoffl; k_sweep; dsimp only [envOf] at F₁ N₁) | (intro m₁ news₁ h tk hlm hJ₁ F₁ N₁; obtain ⟨hself, ob', oo', bo', rfl, C', hbl', hbe'⟩ := hJ₁; clear hlm; rw [List.drop_length] at hbe'; k_sweep; dsimp only [envOf] at F₁ N₁))
  k_with "w:call ref" => (k_here; (with_reducible show wpAny _ _ (call (Value.ref 679) [Value.ref ck, Value.int _ _]) _ _ _); k_dflt (refine' SpecE.use (bindC_spec (Zr := own ++ (xb' ++ Zr)) _ hR' C' ?bz9) ?qB7 ?qF7 ?qX7 ?qXP7 (newsSub ?qN7 ?qs7) ?qT7 ?qK7 ?qhd7 ?qhu7 ?_ ?_; (case qN7 => k_asm); (k_extra "m:use"); (case qs7 => k_extra "m:subX"); (case bz9 => (show List.length bo' ≤ _); omega)); all_goals first | (rintro _ _ h' tk' F' N' ⟨e1, ob'', oo'', e2, C'', hnb'⟩; subst e1 e2; (try k_sweep); (try dsimp only)) | (intro hX' ee' gg' h' tk' FF' R' U'; (try dsimp only at R' U' ⊢)))
  k_with "w:InvEndN" => k_dflt (refine' InvEndN.intro (nx := xb' ++ (b, ob'') :: (o, oo'') :: (l, ol) :: Zr) ?vF ?vN ⟨?vm, ?vq, ob'', oo'', _, rfl, C'', ?vl, ?vo⟩ ?va ?vn ?vw; (case vF => k_asm); (case vN => k_asm); (case vm => exact mem_swapO (mem_swapB hlm (dict_not_list C'.hb)) (dict_not_list C'.ho)); (case vq => exact upd_skip (by kernel_rfl!) hself); (case vl => (rw [List.length_append]; simp only [List.length_cons, List.length_nil]; omega)); (case vo => exact binds_next hget hbe' hnb'); (case va => (simp only [List.map_append, List.map_cons])); (case vn => k_extra "m:subX"); (case vw => k_extra "m:lift"))
  k_steps
  · exact herr (by rw [binds_none hget hbe' hX']; rfl) _ _ _ _ FG' (RaisedSN.sub (news := own ++ (xb' ++ Zr)) R' fun p hp => List.mem_append_right _ (List.mem_append_right _ hp)) U'
  · exact hret _ _ _ _ (by k_asm) (newsSub (by k_asm) (by k_extra "m:subX")) ⟨rfl, ob', oo', ol, _, rfl, C', hbl', Nat.le_succ _, by rw [hbe']; rfl⟩
theorem CkO.label {w : World} {ob oo ol ol' : Obj} {s2 : St2} {k : Int} (C : CkO w ob oo ol s2) (h : ¬ k ∈ s2.2) (h1 : ol'.IsDictOf (intKind lw.row.prog w) (stored (s2.2.map fun x => (x, Value.bool true)) k (.bool true))) : CkO w ob oo ol' (s2.1, s2.2 ++ [k]) where
  hb := C.hb
  ho := C.ho
  hl := by
    have := stored_new (fun _ => Value.bool true) (bo := s2.2.map fun x => (x, true)) (k := k) (by rw [keysOf_pair]; exact h) true
    rw [List.map_map] at this
    have e : stored (s2.2.map fun x => (x, Value.bool true)) k (.bool true) = (s2.2 ++ [k]).map fun x => (x, Value.bool true) := by
      refine Eq.trans this ?_
      rw [List.map_append, List.map_append, List.map_map]; rfl
    rw [e] at h1
    exact h1
  nd := C.nd
theorem binds_len : ∀ {ns : List Int} {bo bo' : Bo}, binds bo ns = some bo' → bo'.length = bo.length + ns.length
  | [], bo, bo', h => by cases h; rfl
  | x :: r, bo, bo', h => by
    rw [binds_cons] at h
    split at h
    · cases h
    · have := binds_len h
      rw [this, List.length_append, List.length_cons, List.length_cons, List.length_nil]; omega
set_option maxHeartbeats 1500000 in
theorem begin_lam (w : World) {ck b o l : Addr} {ob oo ol : Obj} {s2 : St2} {R Zr : List (Addr × Obj)} {x dx : Addr} {t1 t2 t3 t4 tl tr : Tok} {n : Nat} {lp : Addr} {lx r : Int} {ps : List Int} {bv : Value} {U : Nd} (h1 : (x, instObj 283 dx) ∈ Zr) (h2 : (dx, dictOf [fld w.params "label" t1 (.int lx tl), fld w.params "params" t2 (.ref lp), fld w.params "rest" t3 (.int r tr), fld w.params "body" t4 bv] n) ∈ Zr)
    (hT : NodeIn w.params R (.ref x) (.lam lx ps r U)) (hs : ∀ p ∈ R, p ∈ Zr) (hwt : wt (.lam lx ps r U) ≤ 50000) (hR : CkR w Zr ck b o l) (C : CkO w ob oo ol s2) (hz : s2.1.length + (own ps r).length ≤ 1000000) (hz2 : s2.2.length ≤ 1000000) :
    SpecE w 686 80 800 [.ref ck, .ref x] ((b, ob) :: (o, oo) :: (l, ol) :: Zr) (BeginR w b o l Zr s2 (own ps r).length (hdC primOk (.lam lx ps r U) true s2)) (hdC primOk (.lam lx ps r U) true s2 = none) Zr := by
  unfold SpecE
  k_fill
  intro dp un gd cn cs a ccd cl outer A₀ base h₀ L m s Q E p loose mean mg mb B F X XP N T' hk hd hu hret herr
  obtain ⟨dk, t1', t2', t3', n', hck, hdk⟩ := hR.at_
  have hk7 : (kindOf (.lam lx ps r U) == 7) = true := rfl
  refine wpAny_call ?_
  k_dflt (refine' code_def (binds := [(Str.ofString "self", .ref ck), (Str.ofString "node", .ref x)]) ?k1 ?k2 ?k3 ?k4 ?k5 ?kA ?kF ?kK ?k6 ?k7 ?k8 ?k9 ?kB ?_ ?c2 ?c3 ?c4 ?c5; k_extra "m:enter")
  have kdF : KdF (fScope (inAt 38 2)) := by (unfold KdF; kernel_rfl!)
  have kd0 : KdL (fScope (inAt 38 2)) (Str.ofString "self") := ⟨by kernel_rfl!, by kernel_rfl!⟩
  have kd1 : KdL (fScope (inAt 38 2)) (Str.ofString "node") := ⟨by kernel_rfl!, by kernel_rfl!⟩
  have kd2 : KdL (fScope (inAt 38 2)) (Str.ofString "number") := ⟨by kernel_rfl!, by kernel_rfl!⟩
  have kd3 : KdG (fScope (inAt 38 2)) (Str.ofString "LAMBDA") := ⟨by kernel_rfl!, by kernel_rfl!⟩
  have kd4 : KdG (fScope (inAt 38 2)) (Str.ofString "CoreError") := ⟨by kernel_rfl!, by kernel_rfl!⟩
  have kd5 : KdG (fScope (inAt 38 2)) (Str.ofString "binders_of") := ⟨by kernel_rfl!, by kernel_rfl!⟩
  k_with "w:compareOp In int ref" => (k_dflt (refine' u_labelIn C ?gN9 ?gm9 ?gl9 ?_; (case gN9 => k_asm); (case gm9 => k_mem); (case gl9 => exact hR.sl)))
  k_with "w:setItem ref int" => ((with_reducible show wpAny _ _ (setItem (Value.ref l) _ _) _ _ _); k_dflt (refine' u_dset (r := (b, ob) :: (o, oo) :: Zr) ?gF9 (newsSub ?gN9 ?gs9) (ck_offs hR ob oo ol).2.2 C.hl ?gz9 ?_; (case gF9 => k_asm); (case gN9 => k_asm); (case gs9 => k_extra "m:subX"); (case gz9 => (rw [List.length_map]; omega))); intro h' ol' F' N' hl'; have C1 := C.label (by assumption) hl'; replace N' := newsSub (news' := (b, ob) :: (o, oo) :: (l, ol') :: Zr) N' (by k_extra "m:subX"); k_sweep)
  k_with "w:pyIter ref" => (k_dflt (refine' iter_invNL (ns := own ps r) (beginJ w ck b o l ol' xb' Zr (s2.1, s2.2 ++ [lx]) (own ps r)) ?oh ?ol ?oi ?oF ?oN ?oj ?ot ?od; (case oh => rfl); (case oN => k_asm); (case oF => k_asm); (case ol => exact mb'); (case oi => exact hb'); (case oj => exact ⟨rfl, _, _, _, rfl, C1, Nat.le_refl _, rfl⟩)); all_goals first | (intro i n t m₁ news₁ h tk own hget hadr hoff hlm hJ₁ F₁ N₁; unfold beginJ at hJ₁; obtain ⟨hself, ob', oo', bo', q9, C', hbl', hbe'⟩ := hJ₁; subst q9; dsimp only at C' hbl' hbe'; have hoffb := OwnOff.ne hoff (b := b) (List.mem_map.mpr ⟨(b, ob), List.mem_append_right _ (List.Mem.head _), rfl⟩); have hoffo := OwnOff.ne hoff (b := o) (List.mem_map.mpr ⟨(o, oo), List.mem_append_right _ (List.Mem.tail _ (List.Mem.head _)), rfl⟩); have hoffl := OwnOff.ne hoff (b := l) (List.mem_map.mpr ⟨(l, ol'), List.mem_append_right _ (List.Mem.tail _ (List.Mem.tail _ (List.Mem.head _))), rfl⟩); have hi9 := (List.getElem?_eq_some_iff.mp hget).1; have hR' := (hR.more xb' (fun p hp => Ne.symm (Nat.ne_of_lt (lb' p hp (b, ob) (List.Mem.head _)))) (fun p hp => Ne.symm (Nat.ne_of_lt (lb' p hp (o, oo) (List.Mem.tail _ (List.Mem.head _))))) (fun p hp => Ne.symm (Nat.ne_of_lt (lb' p hp (l, ol') (List.Mem.tail _ (List.Mem.tail _ (List.Mem.head _))))))).more own hoffb hoffo hoffl; k_sweep; dsimp only [envOf] at F₁ N₁) | (intro m₁ news₁ h tk hlm hJ₁ F₁ N₁; unfold beginJ at hJ₁; obtain ⟨hself, ob', oo', bo', q9, C', hbl', hbe'⟩ := hJ₁; subst q9; dsimp only at C' hbl' hbe'; clear hlm; rw [List.drop_length] at hbe'; k_sweep; dsimp only [envOf] at F₁ N₁))
  k_with "w:call ref" => (k_here; (with_reducible show wpAny _ _ (call (Value.ref 679) [Value.ref ck, Value.int _ _]) _ _ _); k_dflt (refine' SpecE.use (bindC_spec (Zr := own ++ (xb' ++ Zr)) _ hR' C' ?bz9) ?qB7 ?qF7 ?qX7 ?qXP7 (newsSub ?qN7 ?qs7) ?qT7 ?qK7 ?qhd7 ?qhu7 ?_ ?_; (case qN7 => k_asm); (k_extra "m:use"); (case qs7 => k_extra "m:subX"); (case bz9 => (show List.length bo' ≤ _); omega)); all_goals first | (rintro _ _ h' tk' F' N' ⟨e1, ob'', oo'', e2, C'', hnb'⟩; subst e1 e2; (try k_sweep); (try dsimp only)) | (intro hX' ee' gg' h' tk' FF' R' U'; (try dsimp only at R' U' ⊢)))
  k_with "w:InvEndN" => k_dflt (refine' InvEndN.intro (nx := xb' ++ (b, ob'') :: (o, oo'') :: (l, ol') :: Zr) ?vF ?vN ⟨?vm, ?vq, ob'', oo'', _, rfl, C'', ?vl, ?vo⟩ ?va ?vn ?vw; (case vF => k_asm); (case vN => k_asm); (case vm => exact mem_swapO (mem_swapB hlm (dict_not_list C'.hb)) (dict_not_list C'.ho)); (case vq => exact upd_skip (by kernel_rfl!) hself); (case vl => (rw [List.length_append]; simp only [List.length_cons, List.length_nil]; omega)); (case vo => exact binds_next hget hbe' hnb'); (case va => (simp only [List.map_append, List.map_cons])); (case vn => k_extra "m:subX"); (case vw => k_extra "m:lift"))
  k_steps
  all_goals first
    | exact herr (by simp only [hdC]; rw [if_pos (by assumption)]) _ _ _ _ FG' R' U'
    | exact herr (by simp only [hdC]; rw [if_neg (by assumption), binds_none hget hbe' hX']; rfl) _ _ _ _ FG' (RaisedSN.sub (news := own ++ (xb' ++ Zr)) R' fun p hp => List.mem_append_right _ (List.mem_append_right _ hp)) U'
    | exact hret _ _ _ _ (by k_asm) (newsSub (by k_asm) (by k_extra "m:subX")) ⟨rfl, ob', oo', ol', (bo', s2.2 ++ [lx]), rfl, C', hbl', by rw [List.length_append]; exact Nat.le_refl _, by simp only [hdC]; rw [if_neg (by assumption), hbe']; rfl⟩
/-! a loop over any list of the ledger -/
/-- a turn's end: the iterator apart -/
noncomputable def VEnd (h₀ : Heap) (L I : Addr) (oI : Obj) (J : (Str → Option Value) → List (Addr × Obj) → Prop) (s₁ s₂ : Shared) : Prop :=
  ∃ h' tk m' nx, s₂ = { s₁ with heap := h', toks := tk } ∧ Fr h₀ L h' m' ∧ News h₀ L h' ((I, oI) :: nx) ∧ (∀ p ∈ nx, p.1 ≠ I) ∧ J m' nx
theorem VEnd.intro {h₀ h' : Heap} {L I : Addr} {oI : Obj} {J : (Str → Option Value) → List (Addr × Obj) → Prop} {s₁ : Shared} {tk : Nat} {m' : Str → Option Value} {all nx : List (Addr × Obj)} (F : Fr h₀ L h' m') (N : News h₀ L h' all) (sub : ∀ p ∈ (I, oI) :: nx, p ∈ all) (off : ∀ p ∈ nx, p.1 ≠ I) (j : J m' nx) :
    VEnd h₀ L I oI J s₁ { s₁ with heap := h', toks := tk } := ⟨h', tk, m', nx, rfl, F, fun p hp => N p (sub p hp), off, j⟩
noncomputable def VPost (h₀ : Heap) (L I : Addr) (oI : Obj) (J : (Str → Option Value) → List (Addr × Obj) → Prop) (s₁ : Shared) (Q : Flow → Shared → Prop) (f : Flow) (s₂ : Shared) : Prop :=
  match f with
  | .ret v => Q (.ret v) s₂
  | .brk => Q .next s₂
  | _ => VEnd h₀ L I oI J s₁ s₂
section
variable {prog : Program} {w : World} {A : Around} {E : Value → Shared → Prop} {s : Shared} {env : Env} {h₀ : Heap} {x : Str} {body : List Stmt} {Q : Flow → Shared → Prop}
theorem u_iterV {l : Addr} {vs : List Value} {nn : Nat} {m₀ : Str → Option Value} {news : List (Addr × Obj)} (J : Nat → (Str → Option Value) → List (Addr × Obj) → Prop) (hh : A.handled = none) (hl : (l, listOf vs.toArray nn) ∈ news)
    (F : Fr h₀ env.locals s.heap m₀) (N : News h₀ env.locals s.heap news) (hJ : ∀ i m nx, J i m nx → (l, listOf vs.toArray nn) ∈ nx) (hj : J 0 m₀ news)
    (turn : ∀ (I : Addr) (oI : Obj) (i : Nat) (v : Value) m₁ news₁ h tk, vs[i]? = some v → J i m₁ news₁ → (∀ p ∈ news₁, p.1 ≠ I) → Fr h₀ env.locals h (fun y => if y = x then some v else m₁ y) → News h₀ env.locals h ((I, oI) :: news₁) →
      wpAny (model prog w) A (execs body env) (VPost h₀ env.locals I oI (J (i + 1)) { s with heap := h, toks := tk } Q) E { s with heap := h, toks := tk })
    (done : ∀ m₁ news₁ h tk, J vs.length m₁ news₁ → Fr h₀ env.locals h m₁ → News h₀ env.locals h news₁ → Q .next { s with heap := h, toks := tk }) :
    wpAny (model prog w) A (pyIter (.ref l)) (fun it s₂ => LoopAtV prog w A h₀ env x body Q E it s₂) E s := by
  have al := N _ hl
  have isl : s.heap.IsList l vs.toArray := ⟨_, al.1, rfl, nn, rfl⟩
  have hlt : l < s.heap.objs.size := Heap.lt_size al.1
  have hne : l ≠ s.heap.objs.size := Nat.ne_of_lt hlt
  have below : ∀ p ∈ news, p.1 ≠ s.heap.objs.size := fun p hp => Nat.ne_of_lt (Heap.lt_size (N p hp).1)
  refine wpAny_pyIter_list isl ⟨s.heap.objs.size, _, [s.heap.objs.size], _, _, _, m₀, news, J, rfl, Walks.list hh s.heap.objs.size l hne vs.toArray, ?_, ?_, ?_, ⟨⟨_, Heap.get?_push_size _ rfl, rfl, rfl⟩, isl.at fun o e => Heap.get?_push_of_some _ e⟩,
    F.push _, fun p hp => ⟨Heap.get?_push_of_some _ (N p hp).1, (N p hp).2⟩, hj, ?_, ?_⟩
  · intro hm
    rcases List.mem_cons.mp hm with e | hm
    · exact Nat.lt_irrefl _ (e ▸ F.ns.lt)
    · exact al.2.1 (List.mem_singleton.mp hm).symm
  · intro b hb
    rw [List.mem_singleton.mp hb]
    exact next_is_new F
  · intro p hp hI
    exact below p hp (List.mem_singleton.mp hI)
  · rintro i v m₁ news₁ s₁ own ⟨hh', tk', rfl⟩ _ hP hJ₁ hoff hown hget hfp st F₁ N₁
    obtain ⟨oI, hoI, _, _⟩ := st.1
    have hin : (s.heap.objs.size, oI) ∈ own := hfp _ (.head _) (next_is_new F) oI hoI
    have off1 : ∀ p ∈ news₁, p.1 ≠ s.heap.objs.size := fun p hp q => hoff p hp (List.mem_singleton.mpr q)
    have N₂ : News h₀ env.locals hh' ((s.heap.objs.size, oI) :: news₁) := fun p hp => N₁ p (by
      rcases List.mem_cons.mp hp with rfl | hp
      · exact List.mem_append_left _ hin
      · exact List.mem_append_right _ hp)
    have hlo := (N₂ _ (.tail _ (hJ _ _ _ hJ₁))).1
    refine wpAny_mono (turn s.heap.objs.size oI i v m₁ news₁ hh' tk' (by simpa using hP) hJ₁ off1 F₁ N₂) (fun f s₂ p => ?_) fun _ _ e => e
    have fin : VEnd h₀ env.locals s.heap.objs.size oI (J (i + 1)) { s with heap := hh', toks := tk' } s₂ → LoopStepU h₀ env.locals [s.heap.objs.size] own (J (i + 1)) { s with heap := hh', toks := tk' } .next s₂ := by
      rintro ⟨h', tk, m', nx, e, F', N', ho, hj'⟩
      refine ⟨rfl, h', tk, m', nx, e, F', fun p hp => ?_, fun p hp q => ho p hp (List.mem_singleton.mp q), hj'⟩
      rcases List.mem_append.mp hp with hp | hp
      · have at_ : hh'.get? p.1 = some p.2 := hget p hp
        rcases List.mem_cons.mp (hown p hp) with q | q
        · have : p = (s.heap.objs.size, oI) := Prod.ext q (by rw [q, hoI] at at_; exact (Option.some.inj at_).symm)
          rw [this]; exact N' _ (.head _)
        · have q := List.mem_singleton.mp q
          have : p = (l, listOf vs.toArray nn) := Prod.ext q (by rw [q, hlo] at at_; exact (Option.some.inj at_).symm)
          rw [this]; exact N' _ (.tail _ (hJ _ _ _ hj'))
      · exact N' p (.tail _ hp)
    cases f with
    | ret v => exact .ret p
    | brk => exact .brk p
    | next => exact .next (fin p)
    | cont => exact .cont (fin p)
  · rintro h' tk m' news' F' N' _ hj'
    exact done m' news' h' tk (by simpa using hj') F' N'
end
local macro_rules | `(tactic| walk_at "VPost") => `(tactic| dsimp only [VPost])
section
variable {news : List (Addr × Obj)} {op : Int} {to : Tok}
set_option maxHeartbeats 400000 in
theorem how_many_spec (w : World) : Spec w 644 10 100 [] news (fun r news' => (∃ t, r = .int 192 t) ∧ news' = news) NoX := by
  unfold Spec
  k_fill
  intro dp un gd cn cs a ccd cl outer A₀ base h₀ L m s Q E p loose mean mg mb B F X XP N T hk hd hu hret herr
  refine wpAny_call ?_
  k_dflt (refine' code_def (binds := []) ?k1 ?k2 ?k3 ?k4 ?k5 ?kA ?kF ?kK ?k6 ?k7 ?k8 ?k9 ?kB ?_ ?c2 ?c3 ?c4 ?c5; k_extra "m:enter")
  k_steps
  exact hret _ _ _ _ (by k_asm) (newsSub (by k_asm) (by k_extra "m:subX")) ⟨⟨_, rfl⟩, rfl⟩
set_option maxHeartbeats 400000 in
theorem least_of_spec (w : World) (h0 : 0 ≤ op) (h1 : op < 192) : Spec w 651 10 100 [.int op to] news (fun r news' => (∃ t, r = .int (leastT op.toNat) t) ∧ news' = news) NoX := by
  unfold Spec
  k_fill
  intro dp un gd cn cs a ccd cl outer A₀ base h₀ L m s Q E p loose mean mg mb B F X XP N T hk hd hu hret herr
  refine wpAny_call ?_
  k_dflt (refine' code_def (binds := [(Str.ofString "op", .int op to)]) ?k1 ?k2 ?k3 ?k4 ?k5 ?kA ?kF ?kK ?k6 ?k7 ?k8 ?k9 ?kB ?_ ?c2 ?c3 ?c4 ?c5; k_extra "m:enter")
  k_steps
  exact hret _ _ _ _ (by k_asm) (newsSub (by k_asm) (by k_extra "m:subX")) ⟨⟨_, rfl⟩, rfl⟩
set_option maxHeartbeats 400000 in
theorem most_of_spec (w : World) (h0 : 0 ≤ op) (h1 : op < 192) : Spec w 658 10 100 [.int op to] news (fun r news' => (∃ t, r = .int (mostT op.toNat) t) ∧ news' = news) NoX := by
  unfold Spec
  k_fill
  intro dp un gd cn cs a ccd cl outer A₀ base h₀ L m s Q E p loose mean mg mb B F X XP N T hk hd hu hret herr
  refine wpAny_call ?_
  k_dflt (refine' code_def (binds := [(Str.ofString "op", .int op to)]) ?k1 ?k2 ?k3 ?k4 ?k5 ?kA ?kF ?kK ?k6 ?k7 ?k8 ?k9 ?kB ?_ ?c2 ?c3 ?c4 ?c5; k_extra "m:enter")
  k_steps
  exact hret _ _ _ _ (by k_asm) (newsSub (by k_asm) (by k_extra "m:subX")) ⟨⟨_, rfl⟩, rfl⟩
end
set_option maxHeartbeats 1500000 in
theorem need_operands_spec (w : World) {x dx l : Addr} {op : Int} {to t1 t2 : Tok} {n nl : Nat} {vs : List Value} {Zr : List (Addr × Obj)} (h1 : (x, instObj 382 dx) ∈ Zr) (h2 : (dx, dictOf [fld w.params "op" t1 (.int op to), fld w.params "operands" t2 (.ref l)] n) ∈ Zr) (h3 : (l, listOf vs.toArray nl) ∈ Zr) (hl : vs.length ≤ 50000) :
    SpecE w 714 60 600 [.ref x] Zr (fun r news' => r = .none ∧ news' = Zr ∧ primOk op vs.length = true) (primOk op vs.length = false) Zr := by
  unfold SpecE
  k_fill
  intro dp un gd cn cs a ccd cl outer A₀ base h₀ L m s Q E p loose mean mg mb B F X XP N T hk hd hu hret herr
  refine wpAny_call ?_
  k_dflt (refine' code_def (binds := [(Str.ofString "node", .ref x)]) ?k1 ?k2 ?k3 ?k4 ?k5 ?kA ?kF ?kK ?k6 ?k7 ?k8 ?k9 ?kB ?_ ?c2 ?c3 ?c4 ?c5; k_extra "m:enter")
  k_with "w:call ref" => (k_here; (with_reducible show wpAny _ _ (call (Value.ref 644) []) _ _ _); k_dflt (refine' Spec.use (how_many_spec _) ?qB7 ?qF7 ?qX7 ?qXP7 ?qN7 ?qT7 ?qK7 ?qhd7 ?qhu7 ?_ ?qx7; (case qN7 => k_asm); (k_extra "m:use"); (case qx7 => k_extra "m:noX")); (rintro _ nw' h' tk' F' N' ⟨⟨tq', e1⟩, e2⟩); subst e1; subst nw'; (try k_sweep); (try dsimp only))
  k_with "w:call ref" => (k_here; (with_reducible show wpAny _ _ (call (Value.ref 651) [Value.int _ _]) _ _ _); k_dflt (refine' Spec.use (least_of_spec _ ?u0p ?u1p) ?qB7 ?qF7 ?qX7 ?qXP7 ?qN7 ?qT7 ?qK7 ?qhd7 ?qhu7 ?_ ?qx7; (case qN7 => k_asm); (k_extra "m:use"); (case u0p => omega); (case u1p => omega); (case qx7 => k_extra "m:noX")); (rintro _ nw' h' tk' F' N' ⟨⟨tq', e1⟩, e2⟩); subst e1; subst nw'; (try k_sweep); (try dsimp only))
  k_with "w:call ref" => (k_here; (with_reducible show wpAny _ _ (call (Value.ref 658) [Value.int _ _]) _ _ _); k_dflt (refine' Spec.use (most_of_spec _ ?u0p ?u1p) ?qB7 ?qF7 ?qX7 ?qXP7 ?qN7 ?qT7 ?qK7 ?qhd7 ?qhu7 ?_ ?qx7; (case qN7 => k_asm); (k_extra "m:use"); (case u0p => omega); (case u1p => omega); (case qx7 => k_extra "m:noX")); (rintro _ nw' h' tk' F' N' ⟨⟨tq', e1⟩, e2⟩); subst e1; subst nw'; (try k_sweep); (try dsimp only))
  k_with "w:call ref" => ((dsimp only [List.cons_append, List.nil_append]); k_extra "w:call ref")
  k_steps
  all_goals first
    | (refine hret _ _ _ _ (by k_asm) (newsSub (by k_asm) (by k_extra "m:subX")) ⟨rfl, rfl, ?_⟩; unfold primOk; first | (simp only [decide_eq_true_eq, decide_eq_false_iff_not] at *; simp [*]; done) | (simp only [decide_eq_true_eq, decide_eq_false_iff_not] at *; simp [*]; omega))
    | (refine herr ?_ _ _ _ _ FG' R' U'; unfold primOk; first | (simp only [decide_eq_true_eq, decide_eq_false_iff_not] at *; simp [*]; done) | (simp only [decide_eq_true_eq, decide_eq_false_iff_not] at *; simp [*]; omega))
noncomputable def fixOk (ns : List Int) (ts : List Nd) : Prop := ns.length = ts.length ∧ ¬ ns.length = 0 ∧ ∀ t ∈ ts, isL t = true
theorem take_all {ts : List Nd} {i : Nat} {T : Nd} (h : ts[i]? = some T) (ha : ∀ t ∈ ts.take i, isL t = true) (hT : isL T = true) : ∀ t ∈ ts.take (i + 1), isL t = true := by
  rw [List.take_add_one, h]
  exact List.forall_mem_append.mpr ⟨ha, fun t ht => by rw [List.mem_singleton.mp ht]; exact hT⟩
set_option maxHeartbeats 1500000 in
theorem need_fix_spec (w : World) {x dx l ln : Addr} {t1 t2 t3 : Tok} {n nn nl : Nat} {ns : List Int} {vns vs : List Value} {ts : List Nd} {b : Value} {R Zr : List (Addr × Obj)} (h1 : (x, instObj 415 dx) ∈ Zr) (h2 : (dx, dictOf [fld w.params "numbers" t1 (.ref ln), fld w.params "lambdas" t2 (.ref l), fld w.params "body" t3 b] n) ∈ Zr) (h3n : (ln, listOf vns.toArray nn) ∈ Zr) (hI9 : IntsAre vns ns)
    (h3 : (l, listOf vs.toArray nl) ∈ Zr) (hNs : NodesIn w.params R vs ts) (hs : ∀ p ∈ R, p ∈ Zr) (hz1 : ns.length ≤ 50000) (hz2 : ts.length ≤ 50000) :
    SpecE w 721 60 600 [.ref x] Zr (fun r news' => r = .none ∧ news' = Zr ∧ fixOk ns ts) (¬ fixOk ns ts) Zr := by
  unfold SpecE
  k_fill
  intro dp un gd cn cs a ccd cl outer A₀ base h₀ L m s Q E p loose mean mg mb B F X XP N T hk hd hu hret herr
  have hIl := IntsAre.length hI9
  have hvl := hNs.1
  refine wpAny_call ?_
  k_dflt (refine' code_def (binds := [(Str.ofString "node", .ref x)]) ?k1 ?k2 ?k3 ?k4 ?k5 ?kA ?kF ?kK ?k6 ?k7 ?k8 ?k9 ?kB ?_ ?c2 ?c3 ?c4 ?c5; k_extra "m:enter")
  have kdF : KdF (fScope (stAt 40)) := by (unfold KdF; kernel_rfl!)
  have kd0 : KdL (fScope (stAt 40)) (Str.ofString "node") := ⟨by kernel_rfl!, by kernel_rfl!⟩
  have kd1 : KdL (fScope (stAt 40)) (Str.ofString "part") := ⟨by kernel_rfl!, by kernel_rfl!⟩
  have kd2 : KdG (fScope (stAt 40)) (Str.ofString "CoreError") := ⟨by kernel_rfl!, by kernel_rfl!⟩
  have kd3 : KdG (fScope (stAt 40)) (Str.ofString "LAMBDA") := ⟨by kernel_rfl!, by kernel_rfl!⟩
  k_with "w:pyIter ref" => (k_dflt (refine' u_iterV (vs := vs) (nn := nl) (fun i m nx => nx = Zr ∧ ∀ t ∈ ts.take i, isL t = true) ?vh9 ?vl9 ?vF9 ?vN9 ?vJ9 ?vj9 ?vt9 ?vd9; (case vh9 => rfl); (case vF9 => k_asm); (case vN9 => k_asm); (case vl9 => exact h3); (case vJ9 => (rintro _ _ _ ⟨e9, _⟩; rw [e9]; exact h3)); (case vj9 => exact ⟨rfl, fun t ht => absurd ht (by simp)⟩)); all_goals first | (intro I oI i v m₁ news₁ h tk hget hJ₁ offI F₁ N₁; obtain ⟨q9, hall⟩ := hJ₁; subst news₁; have hil : i < ts.length := (by rw [← hvl]; exact (List.getElem?_eq_some_iff.mp hget).1); have hTi : ts[i]? = some ts[i] := List.getElem?_eq_getElem hil; have hnd := hNs.2 i v _ hget hTi; obtain ⟨xv, Cv, dv, e9, hx9⟩ := hnd.ref; subst e9; clear hx9; k_sweep; dsimp only [envOf] at F₁ N₁) | (intro m₁ news₁ h tk hJ₁ F₁ N₁; obtain ⟨q9, hall⟩ := hJ₁; subst news₁; k_sweep; dsimp only [envOf] at F₁ N₁))
  k_with "w:VEnd" => (k_dflt (refine' VEnd.intro (nx := Zr) ?wF9 ?wN9 ?ws9 offI ⟨rfl, ?wh9⟩; (case wF9 => k_asm); (case wN9 => k_asm); (case ws9 => k_extra "m:subX"); (case wh9 => exact take_all hTi hall (kind_isL (by assumption)))))
  k_steps
  · exact herr (fun q => by have := q.1; omega) _ _ _ _ FG' R' U'
  · exact herr (fun q => by have := q.2.1; omega) _ _ _ _ FG' R' U'
  · exact herr (fun q => by have := q.2.2 _ (List.mem_of_getElem? hTi); rw [kind_notL (by assumption)] at this; cases this) _ _ _ _ FG' R' U'
  · rw [hvl, List.take_length] at hall
    exact hret _ _ _ _ (by k_asm) (newsSub (by k_asm) (by k_extra "m:subX")) ⟨rfl, rfl, by omega, by omega, hall⟩
/-! what the check asks of one node, by its kind -/
noncomputable def beginC : Nd → St2 → Option St2
  | .lam lb ps r _, s => if lb ∈ s.2 then none else (binds s.1 (own ps r)).map fun b => (b, s.2 ++ [lb])
  | .fix ns _ _, s => (binds s.1 ns).map fun b => (b, s.2)
  | _, _ => none
noncomputable def fixOkT : Nd → Prop
  | .fix ns ts _ => fixOk ns ts
  | _ => False
noncomputable section
variable {T : Nd} {top : Bool} {s : St2}
theorem hdC_num (h : ([1, 3].any fun x => x == kindOf T) = true) : hdC primOk T top s = if (numOf T, true) ∈ s.1 then some s else none := by cases T <;> first | rfl | cases h
theorem hdC_sym (h : ([2, 4, 5].any fun x => x == kindOf T) = true) : hdC primOk T top s = if symOf T < 0 ∨ (kindOf T = 5 ∧ top = false) then none else some s := by
  cases T <;> first
    | (simp only [hdC, symOf, kindOf]; simp; done)
    | cases h
theorem hdC_lam (h : kindOf T = 7) : hdC primOk T top s = beginC T s := by cases T <;> first | rfl | cases h
theorem hdC_fix (h : kindOf T = 11) (hf : fixOkT T) : hdC primOk T top s = beginC T s := by
  cases T <;> first | cases h | skip
  obtain ⟨h1, h2, h3⟩ := hf
  simp only [hdC, beginC]
  exact if_neg fun q => q.elim (fun q => q.elim (fun q => q h1) h2) fun ⟨t, ht, e⟩ => by rw [h3 t ht] at e; cases e
theorem hdC_fix0 (h : kindOf T = 11) (hf : ¬ fixOkT T) : hdC primOk T top s = none := by
  cases T <;> first | cases h | skip
  rename_i ns ls b
  simp only [hdC]
  refine if_pos (Classical.byContradiction fun q => hf ⟨?_, ?_, fun t ht => ?_⟩)
  · exact Classical.byContradiction fun z => q (.inl (.inl z))
  · exact fun z => q (.inl (.inr z))
  · cases e : isL t with
    | true => rfl
    | false => exact absurd (.inr ⟨t, ht, e⟩) q
theorem hdC_seq (h : kindOf T = 9) : hdC primOk T top s = if (kids T).length = 0 then none else some s := by cases T <;> first | rfl | cases h
theorem hdC_prim (h : kindOf T = 10) : hdC primOk T top s = if primOkT T = true then some s else none := by cases T <;> first | rfl | cases h
theorem hdC_else (h1 : ([1, 3].any fun x => x == kindOf T) = false) (h2 : ([2, 4, 5].any fun x => x == kindOf T) = false) (h3 : kindOf T ≠ 7) (h4 : kindOf T ≠ 11) (h5 : kindOf T ≠ 9) (h6 : kindOf T ≠ 10) : hdC primOk T top s = some s := by
  cases T <;> first | rfl | (cases h1; done) | (cases h2; done) | exact absurd rfl h3 | exact absurd rfl h4 | exact absurd rfl h5 | exact absurd rfl h6
theorem kind_else (h1 : ([1, 3].any fun x => x == kindOf T) = false) (h2 : ([2, 4, 5].any fun x => x == kindOf T) = false) (h3 : kindOf T ≠ 7) (h4 : kindOf T ≠ 11) (h5 : kindOf T ≠ 9) (h6 : kindOf T ≠ 10) : ([0, 6, 8].any fun x => x == kindOf T) = true := by
  cases T <;> first | rfl | (cases h1; done) | (cases h2; done) | exact absurd rfl h3 | exact absurd rfl h4 | exact absurd rfl h5 | exact absurd rfl h6
end
theorem kind_binding {T : Nd} (h : kindOf T = 7 ∨ kindOf T = 11) : binding T = true := by cases T <;> first | rfl | (rcases h with h | h <;> cases h)
theorem binders_len (T : Nd) : (binders T).length ≤ wt T := by
  cases T <;> simp only [binders, wt, List.length_nil] <;> first | omega | skip
  · have := own_len ‹List Int› ‹Int›
    rename_i lb ps r u
    have := own_len ps r
    omega
theorem binding_kind2 {T : Nd} (h : binding T = true) : kindOf T = 7 ∨ kindOf T = 11 := by cases T <;> first | exact .inl rfl | exact .inr rfl | cases h
theorem begin_any (w : World) {ck b o l : Addr} {ob oo ol : Obj} {s2 : St2} {R Zr : List (Addr × Obj)} {x : Addr} {T : Nd} (hT : NodeIn w.params R (.ref x) T) (hs : ∀ p ∈ R, p ∈ Zr) (hb : binding T = true) (hwt : wt T ≤ 50000) (hR : CkR w Zr ck b o l) (C : CkO w ob oo ol s2) (hz : s2.1.length ≤ 100000) (hz2 : s2.2.length ≤ 100000) :
    SpecE w 686 80 800 [.ref ck, .ref x] ((b, ob) :: (o, oo) :: (l, ol) :: Zr) (BeginR w b o l Zr s2 (binders T).length (beginC T s2)) (beginC T s2 = none) Zr := by
  have hl := binders_len T
  rcases binding_kind2 hb with k | k
  · refine hT.elim_lam k fun e a b c f g q => ?_
    subst e
    exact begin_lam w (hs _ a) (hs _ b) (.lam a b c f g q) hs hwt hR C (by simp only [binders] at hl; omega) (by omega)
  · refine hT.elim_fix k fun e a b c f g i j => ?_
    subst e
    exact begin_fix w (.fix a b c f g i.1 i.2 j) hs rfl rfl hwt hR C (by omega)
theorem need_fix_any (w : World) {x : Addr} {T : Nd} {R Zr : List (Addr × Obj)} (hT : NodeIn w.params R (.ref x) T) (hs : ∀ p ∈ R, p ∈ Zr) (hk : kindOf T = 11) (hwt : wt T ≤ 50000) :
    SpecE w 721 60 600 [.ref x] Zr (fun r news' => r = .none ∧ news' = Zr ∧ fixOkT T) (¬ fixOkT T) Zr := by
  refine hT.elim_fix hk fun e h1 h2 h3 h4 h5 h6 _ => ?_
  subst e
  have := len_le_wts ‹List Nd›
  simp only [wt] at hwt
  exact need_fix_spec w (hs _ h1) (hs _ h2) (hs _ h3) h4 (hs _ h5) h6 hs (by omega) (by omega)
theorem need_operands_any (w : World) {x : Addr} {T : Nd} {R Zr : List (Addr × Obj)} (hT : NodeIn w.params R (.ref x) T) (hs : ∀ p ∈ R, p ∈ Zr) (hk : kindOf T = 10) (hwt : wt T ≤ 50000) :
    SpecE w 714 60 600 [.ref x] Zr (fun r news' => r = .none ∧ news' = Zr ∧ primOkT T = true) (primOkT T = false) Zr := by
  refine hT.elim_prim hk fun e h1 h2 h3 h4 => ?_
  subst e
  have := len_le_wts ‹List Nd›
  simp only [wt] at hwt
  have h5 := need_operands_spec w (hs _ h1) (hs _ h2) (hs _ h3) (by rw [h4.1]; omega)
  rw [h4.1] at h5
  exact h5
theorem setup_37 : True := by
  k_with "w:getAttr ref" => (k_here; (with_reducible show wpAny _ _ (getAttr (Value.ref _) (Str.ofString "number") true) _ _ _); k_dflt (refine' node_number ?ahn ?asu ?ahk ?aN ?aF ?aX ?_; (case ahn => with_reducible assumption); (case ahk => with_reducible assumption); (case aN => k_asm); (case asu => k_extra "m:subX"); (case aF => k_asm); (case aX => k_asm)); intro tk9; (try dsimp only))
  k_with "w:getAttr ref" => (k_here; (with_reducible show wpAny _ _ (getAttr (Value.ref _) (Str.ofString "symbol") true) _ _ _); k_dflt (refine' node_symbol ?ahn ?asu ?ahk ?aN ?aF ?aX ?_; (case ahn => with_reducible assumption); (case ahk => with_reducible assumption); (case aN => k_asm); (case asu => k_extra "m:subX"); (case aF => k_asm); (case aX => k_asm)); intro tk9; (try dsimp only))
  k_with "w:getAttr ref" => (k_here; (with_reducible show wpAny _ _ (getAttr (Value.ref _) (Str.ofString "items") true) _ _ _); k_dflt (refine' node_items ?ahn ?asu ?ahk ?aN ?aF ?aX ?_; (case ahn => with_reducible assumption); (case ahk => with_reducible assumption); (case aN => k_asm); (case asu => k_extra "m:subX"); (case aF => k_asm); (case aX => k_asm)); intro li' vi' ni' mi' hi'; (try dsimp only))
  k_with "w:call ref" => (k_here; (with_reducible show wpAny _ _ (call (Value.ref 700) [Value.ref ck, Value.int _ _]) _ _ _); k_dflt (refine' SpecE.use (need_open_spec (Zr := Zr) _ ?bR9 ?bC9) ?qB7 ?qF7 ?qX7 ?qXP7 (newsSub ?qN7 ?qs7) ?qT7 ?qK7 ?qhd7 ?qhu7 ?_ ?_; (case qN7 => k_asm); (k_extra "m:use"); (case bR9 => with_reducible assumption); (case bC9 => with_reducible assumption); (case qs7 => k_extra "m:subX")); all_goals first | (rintro _ nw' h' tk' F' N' ⟨e1, e2, hno'⟩; subst e1; subst nw'; (try k_sweep); (try dsimp only)) | (intro hX' ee' gg' h' tk' FF' R' U'; (try dsimp only at R' U' ⊢)))
  k_with "w:call ref" => (k_here; (with_reducible show wpAny _ _ (call (Value.ref 686) [Value.ref ck, Value.ref _]) _ _ _); k_dflt (refine' SpecE.use (begin_any (Zr := Zr) _ ?bT9 ?bs9 ?bb9 ?bw9 ?bR9 ?bC9 ?bz9 ?by9) ?qB7 ?qF7 ?qX7 ?qXP7 (newsSub ?qN7 ?qs7) ?qT7 ?qK7 ?qhd7 ?qhu7 ?_ ?_; (case qN7 => k_asm); (k_extra "m:use"); (case bT9 => with_reducible assumption); (case bs9 => with_reducible assumption); (case bb9 => exact kind_binding (by first | exact Or.inl (by assumption) | exact Or.inr (by assumption))); (case bw9 => omega); (case bR9 => with_reducible assumption); (case bC9 => with_reducible assumption); (case bz9 => omega); (case by9 => omega); (case qs7 => k_extra "m:subX")); all_goals first | (rintro _ nw' h' tk' F' N' ⟨e1, ob', oo', ol', s', e2, C', hl1', hl2', hc'⟩; subst e1; subst nw'; (try k_sweep); (try dsimp only)) | (intro hX' ee' gg' h' tk' FF' R' U'; (try dsimp only at R' U' ⊢)))
  k_with "w:call ref" => (k_here; (with_reducible show wpAny _ _ (call (Value.ref 721) [Value.ref _]) _ _ _); k_dflt (refine' SpecE.use (need_fix_any (Zr := (b, ob) :: (o, oo) :: (l, ol) :: Zr) _ ?bT9 ?bs9 ?bk9 ?bw9) ?qB7 ?qF7 ?qX7 ?qXP7 (newsSub ?qN7 ?qs7) ?qT7 ?qK7 ?qhd7 ?qhu7 ?_ ?_; (case qN7 => k_asm); (k_extra "m:use"); (case bT9 => with_reducible assumption); (case bs9 => exact fun p hp => .tail _ (.tail _ (.tail _ (hs p hp)))); (case bk9 => with_reducible assumption); (case bw9 => omega); (case qs7 => k_extra "m:subX")); all_goals first | (rintro _ nw' h' tk' F' N' ⟨e1, e2, hfo'⟩; subst e1; subst nw'; (try k_sweep); (try dsimp only)) | (intro hX' ee' gg' h' tk' FF' R' U'; (try dsimp only at R' U' ⊢)))
  k_with "w:call ref" => (k_here; (with_reducible show wpAny _ _ (call (Value.ref 714) [Value.ref _]) _ _ _); k_dflt (refine' SpecE.use (need_operands_any (Zr := (b, ob) :: (o, oo) :: (l, ol) :: Zr) _ ?bT9 ?bs9 ?bk9 ?bw9) ?qB7 ?qF7 ?qX7 ?qXP7 (newsSub ?qN7 ?qs7) ?qT7 ?qK7 ?qhd7 ?qhu7 ?_ ?_; (case qN7 => k_asm); (k_extra "m:use"); (case bT9 => with_reducible assumption); (case bs9 => exact fun p hp => .tail _ (.tail _ (.tail _ (hs p hp)))); (case bk9 => with_reducible assumption); (case bw9 => omega); (case qs7 => k_extra "m:subX")); all_goals first | (rintro _ nw' h' tk' F' N' ⟨e1, e2, hpo'⟩; subst e1; subst nw'; (try k_sweep); (try dsimp only)) | (intro hX' ee' gg' h' tk' FF' R' U'; (try dsimp only at R' U' ⊢)))
  trivial
/-- what look_at hands back -/
noncomputable def LookR (w : World) (b o l : Addr) (Zr : List (Addr × Obj)) (s2 : St2) (T : Nd) (top : Bool) (r : Value) (news' : List (Addr × Obj)) : Prop :=
  r = .none ∧ ∃ ob' oo' ol' s', news' = (b, ob') :: (o, oo') :: (l, ol') :: Zr ∧ CkO w ob' oo' ol' s' ∧ s'.1.length ≤ s2.1.length + (binders T).length ∧ s'.2.length ≤ s2.2.length + 1 ∧ hdC primOk T top s2 = some s'
set_option maxHeartbeats 4000000 in
theorem look_at_spec (w : World) {ck b o l : Addr} {ob oo ol : Obj} {s2 : St2} {R Zr : List (Addr × Obj)} {x : Addr} {T : Nd} {top : Bool} (hT : NodeIn w.params R (.ref x) T) (hs : ∀ p ∈ R, p ∈ Zr) (hwt : wt T ≤ 50000) (hR : CkR w Zr ck b o l) (C : CkO w ob oo ol s2) (hz : s2.1.length ≤ 100000) (hz2 : s2.2.length ≤ 100000) :
    SpecE w 728 120 1200 [.ref ck, .ref x, .bool top] ((b, ob) :: (o, oo) :: (l, ol) :: Zr) (LookR w b o l Zr s2 T top) (hdC primOk T top s2 = none) Zr := by
  unfold SpecE
  k_fill
  intro dp un gd cn cs a ccd cl outer A₀ base h₀ L m s Q E p loose mean mg mb B F X XP N T' hk hd hu hret herr
  obtain ⟨dk, t1, t2, t3, n, hck, hdk⟩ := hR.at_
  have hkl := len_le_wts (kids T)
  have hkw := wt_kids T
  refine wpAny_call ?_
  k_dflt (refine' code_def (binds := [(Str.ofString "check", .ref ck), (Str.ofString "node", .ref x), (Str.ofString "is_top", .bool top)]) ?k1 ?k2 ?k3 ?k4 ?k5 ?kA ?kF ?kK ?k6 ?k7 ?k8 ?k9 ?kB ?_ ?c2 ?c3 ?c4 ?c5; k_extra "m:enter")
  have kdF : KdF (fScope (stAt 41)) := by (unfold KdF; kernel_rfl!)
  have kd0 : KdL (fScope (stAt 41)) (Str.ofString "check") := ⟨by kernel_rfl!, by kernel_rfl!⟩
  have kd1 : KdL (fScope (stAt 41)) (Str.ofString "node") := ⟨by kernel_rfl!, by kernel_rfl!⟩
  have kd2 : KdL (fScope (stAt 41)) (Str.ofString "is_top") := ⟨by kernel_rfl!, by kernel_rfl!⟩
  have kd3 : KdG (fScope (stAt 41)) (Str.ofString "LOCAL") := ⟨by kernel_rfl!, by kernel_rfl!⟩
  have kd4 : KdG (fScope (stAt 41)) (Str.ofString "SET_LOCAL") := ⟨by kernel_rfl!, by kernel_rfl!⟩
  have kd5 : KdG (fScope (stAt 41)) (Str.ofString "GLOBAL") := ⟨by kernel_rfl!, by kernel_rfl!⟩
  have kd6 : KdG (fScope (stAt 41)) (Str.ofString "SET_GLOBAL") := ⟨by kernel_rfl!, by kernel_rfl!⟩
  have kd7 : KdG (fScope (stAt 41)) (Str.ofString "DEFINE") := ⟨by kernel_rfl!, by kernel_rfl!⟩
  have kd8 : KdG (fScope (stAt 41)) (Str.ofString "CoreError") := ⟨by kernel_rfl!, by kernel_rfl!⟩
  have kd9 : KdG (fScope (stAt 41)) (Str.ofString "LAMBDA") := ⟨by kernel_rfl!, by kernel_rfl!⟩
  have kd10 : KdG (fScope (stAt 41)) (Str.ofString "FIX") := ⟨by kernel_rfl!, by kernel_rfl!⟩
  have kd11 : KdG (fScope (stAt 41)) (Str.ofString "need_fix") := ⟨by kernel_rfl!, by kernel_rfl!⟩
  have kd12 : KdG (fScope (stAt 41)) (Str.ofString "SEQ") := ⟨by kernel_rfl!, by kernel_rfl!⟩
  have kd13 : KdG (fScope (stAt 41)) (Str.ofString "PRIM") := ⟨by kernel_rfl!, by kernel_rfl!⟩
  have kd14 : KdG (fScope (stAt 41)) (Str.ofString "need_operands") := ⟨by kernel_rfl!, by kernel_rfl!⟩
  have kd15 : KdG (fScope (stAt 41)) (Str.ofString "CONST") := ⟨by kernel_rfl!, by kernel_rfl!⟩
  have kd16 : KdG (fScope (stAt 41)) (Str.ofString "IF") := ⟨by kernel_rfl!, by kernel_rfl!⟩
  have kd17 : KdG (fScope (stAt 41)) (Str.ofString "CALL") := ⟨by kernel_rfl!, by kernel_rfl!⟩
  k_steps
  all_goals first
    | (refine hret _ _ _ _ (by k_asm) (newsSub (by k_asm) (by k_extra "m:subX")) ⟨rfl, ob', oo', ol', s', rfl, C', hl1', hl2', ?_⟩; rw [hdC_lam (by assumption)]; exact hc')
    | (refine hret _ _ _ _ (by k_asm) (newsSub (by k_asm) (by k_extra "m:subX")) ⟨rfl, ob', oo', ol', s', rfl, C', hl1', hl2', ?_⟩; rw [hdC_fix (by assumption) hfo']; exact hc')
    | (refine hret _ _ _ _ (by k_asm) (newsSub (by k_asm) (by k_extra "m:subX")) ⟨rfl, ob, oo, ol, s2, rfl, C, Nat.le_add_right _ _, Nat.le_succ _, ?_⟩; rw [hdC_num (by assumption), if_pos hno'])
    | (refine hret _ _ _ _ (by k_asm) (newsSub (by k_asm) (by k_extra "m:subX")) ⟨rfl, ob, oo, ol, s2, rfl, C, Nat.le_add_right _ _, Nat.le_succ _, ?_⟩; rw [hdC_sym (by assumption), if_neg (fun q => q.elim (by assumption) fun q => absurd q.1 (by assumption))])
    | (refine hret _ _ _ _ (by k_asm) (newsSub (by k_asm) (by k_extra "m:subX")) ⟨rfl, ob, oo, ol, s2, rfl, C, Nat.le_add_right _ _, Nat.le_succ _, ?_⟩; rw [hdC_sym (by assumption), if_neg (fun q => q.elim (by assumption) fun q => absurd q.2 (by simp [*]))])
    | (refine hret _ _ _ _ (by k_asm) (newsSub (by k_asm) (by k_extra "m:subX")) ⟨rfl, ob, oo, ol, s2, rfl, C, Nat.le_add_right _ _, Nat.le_succ _, ?_⟩; rw [hdC_seq (by assumption), if_neg (by omega)])
    | (refine hret _ _ _ _ (by k_asm) (newsSub (by k_asm) (by k_extra "m:subX")) ⟨rfl, ob, oo, ol, s2, rfl, C, Nat.le_add_right _ _, Nat.le_succ _, ?_⟩; rw [hdC_prim (by assumption), if_pos hpo'])
    | (refine hret _ _ _ _ (by k_asm) (newsSub (by k_asm) (by k_extra "m:subX")) ⟨rfl, ob, oo, ol, s2, rfl, C, Nat.le_add_right _ _, Nat.le_succ _, ?_⟩; exact hdC_else (by assumption) (by assumption) (by assumption) (by assumption) (by assumption) (by assumption))
    | (exact absurd ((kind_else (by assumption) (by assumption) (by assumption) (by assumption) (by assumption) (by assumption)).symm.trans (by assumption)) (by decide))
    | (refine herr ?_ _ _ _ _ FG' (RaisedSN.sub R' (by k_extra "m:subX")) U'; rw [hdC_num (by assumption), if_neg hX'])
    | (refine herr ?_ _ _ _ _ FG' (RaisedSN.sub R' (by k_extra "m:subX")) U'; rw [hdC_sym (by assumption), if_pos (Or.inl (by assumption))])
    | (refine herr ?_ _ _ _ _ FG' (RaisedSN.sub R' (by k_extra "m:subX")) U'; rw [hdC_sym (by assumption), if_pos (Or.inr ⟨(by assumption), (by assumption)⟩)])
    | (refine herr ?_ _ _ _ _ FG' (RaisedSN.sub R' (by k_extra "m:subX")) U'; rw [hdC_lam (by assumption)]; exact hX')
    | (refine herr ?_ _ _ _ _ FG' (RaisedSN.sub R' (by k_extra "m:subX")) U'; rw [hdC_fix (by assumption) hfo']; exact hX')
    | (refine herr ?_ _ _ _ _ FG' (RaisedSN.sub R' (by k_extra "m:subX")) U'; exact hdC_fix0 (by assumption) hX')
    | (refine herr ?_ _ _ _ _ FG' (RaisedSN.sub R' (by k_extra "m:subX")) U'; rw [hdC_seq (by assumption), if_pos (by omega)])
    | (refine herr ?_ _ _ _ _ FG' (RaisedSN.sub R' (by k_extra "m:subX")) U'; rw [hdC_prim (by assumption), if_neg (by rw [hX']; decide)])
/-! its text stands in part 23 -/
theorem setup_39 : True := by
  k_with "w:getMethod ref" => (k_here; (with_reducible show wpAny _ _ (getMethod (Value.ref _) (Str.ofString "parts") _) _ _ _); k_dflt (refine' node_parts ?ahn ?asu ?aN ?aF ?aX ?_; (case ahn => with_reducible assumption); (case aN => k_asm); (case asu => k_extra "m:subX"); (case aF => k_asm); (case aX => k_asm)); intro tk9; (try dsimp only))
  k_with "w:call ref" => (k_here; (with_reducible show wpAny _ _ (call (Value.ref (partsFn _)) [Value.ref _]) _ _ _); k_dflt (refine' Spec.use (parts_any _ ?e0p ?e1p ?e2p) ?qB7 ?qF7 ?qX7 ?qXP7 ?qN7 ?qT7 ?qK7 ?qhd7 ?qhu7 ?_ ?qx7; (case e0p => with_reducible assumption); (case qN7 => k_asm); (k_extra "m:use"); (case e1p => k_extra "m:subX"); (case e2p => omega); (case qx7 => k_extra "m:noX")); (rintro _ nw' h' tk' F' N' ⟨D', pvs', pn', e1, e2, lD', hP'⟩); subst e1; subst nw'; (replace lD' := allLt_of lD'); (try k_sweep); (try dsimp only))
  k_with "w:callWith ref" => (k_here; (with_reducible show wpAny _ _ (callWith _ (Value.ref (partsFn _)) [Value.ref _] _ _) _ _ _); k_dflt (refine' u_callParts ?cX9 ?cF9 ?_; (case cX9 => k_asm); (case cF9 => k_asm)); (try dsimp only))
  trivial
/-! the check's stack -/
noncomputable abbrev tup3 (a b c : Value) : Obj := { cls := .type "tuple", data := .seq #[a, b, c] }
inductive EntIn (P : Params) (R X : List (Addr × Obj)) : Value → Ent → Prop
  | enter {tp x : Addr} {tk : Tok} {T : Nd} {d : Nat} {top : Bool} : (tp, tup3 (.int 0 tk) (.ref x) (.bool top)) ∈ X → NodeIn P R (.ref x) T → dpt T ≤ d → EntIn P R X (.ref tp) (.enter d T top)
  | leave {tp x : Addr} {tk : Tok} {T : Nd} : (tp, tup3 (.int 1 tk) (.ref x) (.bool false)) ∈ X → NodeIn P R (.ref x) T → binding T = true → wt T ≤ 50000 → EntIn P R X (.ref tp) (.leave T)
inductive StackIn (P : Params) (R X : List (Addr × Obj)) : List Value → List Ent → Prop
  | nil : StackIn P R X [] []
  | push {vs : List Value} {es : List Ent} {v : Value} {e : Ent} : StackIn P R X vs es → EntIn P R X v e → StackIn P R X (vs ++ [v]) (e :: es)
section
variable {P : Params} {R X X' : List (Addr × Obj)}
theorem EntIn.mono {v : Value} {e : Ent} (h : EntIn P R X v e) (s : ∀ p ∈ X, p ∈ X') : EntIn P R X' v e := by
  cases h with
  | enter a b c => exact .enter (s _ a) b c
  | leave a b c e => exact .leave (s _ a) b c e
theorem StackIn.mono {vs : List Value} {es : List Ent} (h : StackIn P R X vs es) (s : ∀ p ∈ X, p ∈ X') : StackIn P R X' vs es := by
  induction h with
  | nil => exact .nil
  | push _ a ih => exact .push ih (a.mono s)
theorem StackIn.cases {vs : List Value} {es : List Ent} (h : StackIn P R X vs es) : (vs = [] ∧ es = []) ∨ ∃ vs' v e es', vs = vs' ++ [v] ∧ es = e :: es' ∧ StackIn P R X vs' es' ∧ EntIn P R X v e := by
  cases h with
  | nil => exact .inl ⟨rfl, rfl⟩
  | push a b => exact .inr ⟨_, _, _, _, rfl, rfl, a, b⟩
end
noncomputable def mu : List Ent → Nat
  | [] => 0
  | .enter _ T _ :: r => 2 * wt T + mu r
  | .leave _ :: r => 1 + mu r
theorem StackIn.len {P : Params} {R X : List (Addr × Obj)} {vs : List Value} {es : List Ent} (h : StackIn P R X vs es) : vs.length ≤ mu es := by
  induction h with
  | nil => exact Nat.le_refl _
  | push _ a ih =>
    rw [List.length_append, List.length_cons, List.length_nil]
    cases a with
    | @enter tp x tk T d top a b c => have := wt_pos T; simp only [mu]; omega
    | leave a b c e => simp only [mu]; omega
theorem mu_map (d : Nat) (b : Bool) : ∀ (l : List Nd) (es : List Ent), mu (l.map (fun u => Ent.enter d u b) ++ es) = 2 * wts l + mu es
  | [], _ => by simp [wts]
  | t :: l, es => by
    have := mu_map d b l es
    simp only [List.map_cons, List.cons_append, mu, wts, this]; omega
theorem mu_step (d : Nat) (T : Nd) (b : Bool) (es : List Ent) : mu ((kids T).map (fun u => Ent.enter d u b) ++ (closing T ++ es)) + (binders T).length + 1 ≤ 2 * wt T + mu es := by
  rw [mu_map]
  have hk := wt_kids T
  cases T with
  | lam lb ps r u =>
    have := own_len ps r
    have e : closing (.lam lb ps r u) = [.leave (.lam lb ps r u)] := rfl
    rw [e]
    simp only [kids, wts, binders, wt, List.cons_append, List.nil_append, mu] at *
    omega
  | fix ns ls u =>
    have e : closing (.fix ns ls u) = [.leave (.fix ns ls u)] := rfl
    rw [e]
    simp only [kids, wts_append, wts, binders, wt, List.cons_append, List.nil_append, mu] at *
    omega
  | _ =>
    simp only [closing, binding, binders, List.length_nil] at *
    simp
    omega
noncomputable def LeavesOk (es : List Ent) (bo : Bo) : Prop := ∀ T, Ent.leave T ∈ es → ∀ x ∈ binders T, x ∈ keysOf bo
theorem binds_keys : ∀ {ns : List Int} {bo bo' : Bo}, binds bo ns = some bo' → keysOf bo' = keysOf bo ++ ns
  | [], bo, bo', h => by cases h; simp
  | x :: r, bo, bo', h => by
    rw [binds_cons] at h
    split at h
    · cases h
    · rw [binds_keys h, keysOf_append]
      simp [keysOf]
theorem hdC_keys {ok : Int → Nat → Bool} {T : Nd} {top : Bool} {s s' : St2} (h : hdC ok T top s = some s') : (∀ x ∈ keysOf s.1, x ∈ keysOf s'.1) ∧ ∀ x ∈ binders T, x ∈ keysOf s'.1 := by
  have plain : s = s' → binders T = [] → (∀ x ∈ keysOf s.1, x ∈ keysOf s'.1) ∧ ∀ x ∈ binders T, x ∈ keysOf s'.1 := fun e z => by subst e; exact ⟨fun _ h => h, by rw [z]; exact fun _ h => absurd h List.not_mem_nil⟩
  have bound : ∀ {ns lbs}, (binds s.1 ns).map (fun b => (b, lbs)) = some s' → (∀ x ∈ keysOf s.1, x ∈ keysOf s'.1) ∧ ∀ x ∈ ns, x ∈ keysOf s'.1 := fun {ns lbs} h => by
    cases e : binds s.1 ns with
    | none => rw [e] at h; cases h
    | some bo' =>
      rw [e] at h
      cases h
      have := binds_keys e
      show (∀ x ∈ keysOf s.1, x ∈ keysOf bo') ∧ ∀ x ∈ ns, x ∈ keysOf bo'
      rw [this]
      exact ⟨fun x hx => List.mem_append_left _ hx, fun x hx => List.mem_append_right _ hx⟩
  cases T <;> simp only [hdC] at h
  case const => exact plain (Option.some.inj h) rfl
  case iff => exact plain (Option.some.inj h) rfl
  case call => exact plain (Option.some.inj h) rfl
  case lam lb ps r u =>
    split at h
    · cases h
    · exact bound h
  case fix ns ls u =>
    split at h
    · cases h
    · exact bound h
  all_goals
    split at h
    · first | exact plain (Option.some.inj h) rfl | cases h
    · first | exact plain (Option.some.inj h) rfl | cases h
theorem leaves_step {ok : Int → Nat → Bool} {T : Nd} {top b : Bool} {s s' : St2} {es : List Ent} {d d' : Nat} (h : LeavesOk (.enter d T top :: es) s.1) (hs : hdC ok T top s = some s') : LeavesOk ((kids T).map (fun u => Ent.enter d' u b) ++ (closing T ++ es)) s'.1 := fun U hU => by
  have hk := hdC_keys hs
  rcases List.mem_append.mp hU with hU | hU
  · obtain ⟨u, _, e⟩ := List.mem_map.mp hU
    cases e
  · rcases List.mem_append.mp hU with hU | hU
    · unfold closing at hU
      split at hU
      · have e := List.mem_singleton.mp hU
        cases e
        exact hk.2
      · cases hU
    · exact fun x hx => hk.1 x (h U (.tail _ hU) x hx)
theorem leaves_leave {T : Nd} {s : St2} {es : List Ent} (h : LeavesOk (.leave T :: es) s.1) : LeavesOk es (leave T s).1 := fun U hU x hx => by
  show x ∈ keysOf (close (binders T) s.1)
  rw [keys_close]
  exact h U (.tail _ hU) x hx
theorem kl_last_snoc (l : List Value) (v : Value) : kl_last (l ++ [v]) = some (l, v) := by
  induction l with
  | nil => rfl
  | cons x r ih =>
    show (match kl_last (r ++ [v]) with | some (p, y) => some (x :: p, y) | none => some ([], x)) = _
    rw [ih]
theorem isSeq_kind (T : Nd) : (kindOf T == 9) = isSeq T := by cases T <;> rfl
theorem binding_kind (T : Nd) : ([7, 11].any fun x => x == kindOf T) = binding T := by cases T <;> rfl
section
variable {prog : Program} {w : World} {A : Around} {E : Value → Shared → Prop} {s : Shared} {h₀ : Heap} {L D : Addr} {m : Str → Option Value} {r : List (Addr × Obj)} {Q : Value → Shared → Prop} {vs : List Value} {v : Value} {n : Nat}
theorem u_popV (F : Fr h₀ L s.heap m) (N : News h₀ L s.heap ((D, listOf (vs ++ [v]).toArray n) :: r)) (off : ∀ p ∈ r, p.1 ≠ D) (hz : vs.length ≤ 1000000)
    (h : ∀ h', Fr h₀ L h' m → News h₀ L h' ((D, listOf vs.toArray (n + 1)) :: r) → Q v { s with heap := h' }) : wpAny (model prog w) A (call (.builtin "list.pop") [.ref D]) Q E s :=
  kl_pop (its := (vs ++ [v]).toArray) F N (kl_last_snoc vs v) (.head off) (by rw [sizeLine_eq]; show (vs ++ [v]).length ≤ _; rw [List.length_append]; simp only [List.length_cons, List.length_nil]; omega) h
theorem u_appV (F : Fr h₀ L s.heap m) (N : News h₀ L s.heap ((D, listOf vs.toArray n) :: r)) (off : ∀ p ∈ r, p.1 ≠ D) (hz : vs.length ≤ 1000000)
    (h : ∀ h', Fr h₀ L h' m → News h₀ L h' ((D, listOf (List.toArray (vs ++ [v])) (n + 1)) :: r) → Q .none { s with heap := h' }) : wpAny (model prog w) A (call (.builtin "list.append") [.ref D, v]) Q E s :=
  append_K (its := vs.toArray) F N (.head off) (fun h' F' N' => h h' F' (by rw [List.push_toArray] at N'; exact N')) (by rw [List.size_toArray, sizeLine_eq]; omega)
end
theorem NodesIn.rev {P : Params} {R : List (Addr × Obj)} {vs : List Value} {ts : List Nd} (h : NodesIn P R vs ts) : NodesIn P R vs.reverse ts.reverse := by
  induction vs generalizing ts with
  | nil =>
    rcases h.cases with ⟨_, rfl⟩ | ⟨_, _, _, _, e, _⟩
    · exact h
    · cases e
  | cons w vs ih =>
    rcases h.cases with ⟨e, _⟩ | ⟨_, _, _, _, e, rfl, h1, h2⟩
    · cases e
    · cases e
      rw [List.reverse_cons, List.reverse_cons]
      exact (ih h2).snoc h1
/-- the walk's start: its frame, the list and its one tuple -/
theorem start_of {g h : Heap} {L' wl tp ck x : Addr} {m' : Str → Option Value} {n : Nat} {tk : Tok} {rest : List (Addr × Obj)} (F : Fr g L' h m') (N : News g L' h ((wl, listOf (List.toArray [.ref tp]) n) :: (tp, tup3 (.int 0 tk) (.ref x) (.bool true)) :: rest))
    (hc : m' (Str.ofString "check") = some (.ref ck)) (hw : m' (Str.ofString "waiting") = some (.ref wl)) (l1 : AllLt tp rest) (l2 : AllLt wl ((tp, tup3 (.int 0 tk) (.ref x) (.bool true)) :: rest)) :
    ∃ m₀ wl tp tk tn, Fr g L' h m₀ ∧ News g L' h ((wl, listOf (List.toArray [.ref tp]) tn) :: (tp, tup3 (.int 0 tk) (.ref x) (.bool true)) :: rest) ∧ m₀ (Str.ofString "check") = some (.ref ck) ∧ m₀ (Str.ofString "waiting") = some (.ref wl) ∧ (∀ p ∈ rest, p.1 < tp) ∧ (∀ p ∈ rest, p.1 < wl) ∧ tp < wl :=
  ⟨m', wl, tp, tk, n, F, N, hc, hw, allLt_all l1, fun p hp => allLt_all l2 p (.tail _ hp), allLt_all l2 _ (.head _)⟩
/-- after the If that lays the leaving -/
noncomputable def IfP (P : Params) (h₀ : Heap) (L : Addr) (m : Str → Option Value) (s : Shared) (top4 : List (Addr × Obj)) (b o l wl : Addr) (R Zr : List (Addr × Obj)) (es : List Ent) (f : Flow) (s' : Shared) : Prop :=
  f = .next ∧ ∃ h' tk' tvs tn X, s' = { s with heap := h', toks := tk' } ∧ Fr h₀ L h' m ∧ News h₀ L h' (top4 ++ (wl, listOf (List.toArray tvs) tn) :: (X ++ Zr)) ∧ StackIn P R X tvs es ∧ (∀ p ∈ X, p.1 ≠ b) ∧ (∀ p ∈ X, p.1 ≠ o) ∧ (∀ p ∈ X, p.1 ≠ l) ∧ (∀ p ∈ X, p.1 ≠ wl)
noncomputable def SeqP (h₀ : Heap) (L : Addr) (m : Str → Option Value) (s : Shared) (news : List (Addr × Obj)) (v : Value) (r : Value) (s' : Shared) : Prop :=
  r = v ∧ ∃ h' tk', s' = { s with heap := h', toks := tk' } ∧ Fr h₀ L h' m ∧ News h₀ L h' news
/-- between the turns over a node's parts, turned round -/
noncomputable def pushJ (P : Params) (ck : Addr) (top4 : List (Addr × Obj)) (b o l wl : Addr) (R Zr : List (Addr × Obj)) (rl : Addr × Obj) (d : Nat) (nx : Bool) (ts : List Nd) (es : List Ent) (i : Nat) (m₁ : Str → Option Value) (news₁ : List (Addr × Obj)) : Prop :=
  m₁ (Str.ofString "check") = some (.ref ck) ∧ m₁ (Str.ofString "waiting") = some (.ref wl) ∧ m₁ (Str.ofString "is_next") = some (.bool nx) ∧ ∃ tvs tn X, news₁ = top4 ++ (wl, listOf (List.toArray tvs) tn) :: (X ++ rl :: Zr) ∧
    StackIn P R X tvs ((ts.take i).reverse.map (fun u => Ent.enter d u nx) ++ es) ∧ (∀ p ∈ X, p.1 ≠ b) ∧ (∀ p ∈ X, p.1 ≠ o) ∧ (∀ p ∈ X, p.1 ≠ l) ∧ (∀ p ∈ X, p.1 ≠ wl)
theorem u_lenSnoc {prog : Program} {w : World} {A : Around} {E : Value → Shared → Prop} {s : Shared} {h₀ : Heap} {L D : Addr} {news : List (Addr × Obj)} {Q : Value → Shared → Prop} {vs : List Value} {v : Value} {n : Nat} (N : News h₀ L s.heap news) (hm : (D, listOf (vs ++ [v]).toArray n) ∈ news) (hz : vs.length ≤ 1000000)
    (h : ∀ (k : Int) t tk, 0 < k → Q (.int k t) { s with toks := tk }) : wpAny (model prog w) A (call (.builtin "len") [.ref D]) Q E s := by
  have hl : (vs ++ [v]).length = vs.length + 1 := by rw [List.length_append]; rfl
  exact kst_len N hm rfl (by omega) (h _ _ _ (by omega))
section
variable {M : Model} {A : Around} {E : Value → Shared → Prop} {h₀ h' : Heap} {L b o l wl y D : Addr} {m : Str → Option Value} {s : Shared} {top4 R Zr X rest : List (Addr × Obj)} {P : Params} {es : List Ent} {tvs : List Value} {tn tk' : Nat} {T : Nd} {tk : Tok}
theorem join_if {t : Sem Flow} {Q : Flow → Shared → Prop} (F : Fr h₀ L s.heap m) (h1 : wpAny M A t (IfP P h₀ L m s top4 b o l wl R Zr es) E s)
    (h2 : ∀ h' tk' tvs tn X, Fr h₀ L h' m → News h₀ L h' (top4 ++ (wl, listOf (List.toArray tvs) tn) :: (X ++ Zr)) → StackIn P R X tvs es → (∀ p ∈ X, p.1 ≠ b) → (∀ p ∈ X, p.1 ≠ o) → (∀ p ∈ X, p.1 ≠ l) → (∀ p ∈ X, p.1 ≠ wl) → Q .next { s with heap := h', toks := tk' }) : wpAny M A t Q E s :=
  wpAny_mono h1 (by rintro f s' ⟨rfl, h', tk', tvs, tn, X, rfl, a1, a2, a3, a4, a5, a6, a7⟩; exact h2 h' tk' tvs tn X a1 a2 a3 a4 a5 a6 a7) fun _ _ e => e
theorem join_val {t : Sem Value} {Q : Value → Shared → Prop} {news : List (Addr × Obj)} (v : Value) (F : Fr h₀ L s.heap m) (N : News h₀ L s.heap news) (h1 : wpAny M A t (SeqP h₀ L m s news v) E s)
    (h2 : ∀ h' tk', Fr h₀ L h' m → News h₀ L h' news → Q v { s with heap := h', toks := tk' }) : wpAny M A t Q E s :=
  wpAny_mono h1 (by rintro f s' ⟨rfl, h', tk', rfl, a1, a2⟩; exact h2 h' tk' a1 a2) fun _ _ e => e
theorem offs_cons {c : Addr} {ob : Obj} (h : @Ne Nat D c) (k : ∀ p ∈ X, p.1 ≠ c) : ∀ p ∈ (D, ob) :: X, p.1 ≠ c := List.forall_mem_cons.mpr ⟨h, k⟩
theorem ifP_leave (F : Fr h₀ L h' m) (N : News h₀ L h' ((wl, listOf (List.toArray (tvs ++ [.ref D])) tn) :: (D, tup3 (.int 1 tk) (.ref y) (.bool false)) :: rest)) (hr1 : ∀ p ∈ top4, p ∈ rest) (hr2 : ∀ p ∈ X, p ∈ rest) (hr3 : ∀ p ∈ Zr, p ∈ rest) (d1 : @Ne Nat D b) (d2 : @Ne Nat D o) (d3 : @Ne Nat D l) (d4 : @Ne Nat D wl)
    (hS : StackIn P R X tvs es) (hn : NodeIn P R (.ref y) T) (hb : ([7, 11].any fun x => x == kindOf T) = true) (hw : wt T ≤ 50000) (x1 : ∀ p ∈ X, p.1 ≠ b) (x2 : ∀ p ∈ X, p.1 ≠ o) (x3 : ∀ p ∈ X, p.1 ≠ l) (x4 : ∀ p ∈ X, p.1 ≠ wl) :
    IfP P h₀ L m s top4 b o l wl R Zr (closing T ++ es) .next { s with heap := h', toks := tk' } := by
  have hr : ∀ p ∈ top4 ++ (X ++ Zr), p ∈ rest := List.forall_mem_append.mpr ⟨hr1, List.forall_mem_append.mpr ⟨hr2, hr3⟩⟩
  rw [binding_kind] at hb
  refine ⟨rfl, h', tk', tvs ++ [.ref D], tn, (D, tup3 (.int 1 tk) (.ref y) (.bool false)) :: X, rfl, F, newsSub N ?_, ?_, offs_cons d1 x1, offs_cons d2 x2, offs_cons d3 x3, offs_cons d4 x4⟩
  · refine List.forall_mem_append.mpr ⟨fun p hp => .tail _ (.tail _ (hr p (List.mem_append_left _ hp))), List.forall_mem_cons.mpr ⟨.head _, List.forall_mem_append.mpr ⟨List.forall_mem_cons.mpr ⟨.tail _ (.head _), fun p hp => .tail _ (.tail _ (hr p (List.mem_append_right _ (List.mem_append_left _ hp))))⟩, fun p hp => .tail _ (.tail _ (hr p (List.mem_append_right _ (List.mem_append_right _ hp))))⟩⟩⟩
  · have e : closing T = [.leave T] := by unfold closing; rw [if_pos hb]
    rw [e]
    exact .push (hS.mono fun p hp => .tail _ hp) (.leave (.head _) hn hb hw)
theorem ifP_stay (F : Fr h₀ L h' m) (N : News h₀ L h' rest) (hr1 : ∀ p ∈ top4, p ∈ rest) (hr0 : (wl, listOf (List.toArray tvs) tn) ∈ rest) (hr2 : ∀ p ∈ X, p ∈ rest) (hr3 : ∀ p ∈ Zr, p ∈ rest) (hS : StackIn P R X tvs es) (hb : ([7, 11].any fun x => x == kindOf T) = false) (x1 : ∀ p ∈ X, p.1 ≠ b) (x2 : ∀ p ∈ X, p.1 ≠ o) (x3 : ∀ p ∈ X, p.1 ≠ l) (x4 : ∀ p ∈ X, p.1 ≠ wl) :
    IfP P h₀ L m s top4 b o l wl R Zr (closing T ++ es) .next { s with heap := h', toks := tk' } := by
  have hr : ∀ p ∈ top4 ++ (wl, listOf (List.toArray tvs) tn) :: (X ++ Zr), p ∈ rest := List.forall_mem_append.mpr ⟨hr1, List.forall_mem_cons.mpr ⟨hr0, List.forall_mem_append.mpr ⟨hr2, hr3⟩⟩⟩
  rw [binding_kind] at hb
  have e : closing T = [] := by unfold closing; rw [if_neg (by rw [hb]; decide)]
  rw [e]
  exact ⟨rfl, h', tk', tvs, tn, X, rfl, F, newsSub N hr, hS, x1, x2, x3, x4⟩
end
/-- between the turns of the check's walk -/
noncomputable def lookJ (w : World) (ck b o l wl : Addr) (R Zr : List (Addr × Obj)) (M : Option St2) (B0 n : Nat) (m₁ : Str → Option Value) (news₁ : List (Addr × Obj)) : Prop :=
  m₁ (Str.ofString "check") = some (.ref ck) ∧ m₁ (Str.ofString "waiting") = some (.ref wl) ∧ ∃ ob oo ol tvs tn X es s2, news₁ = (b, ob) :: (o, oo) :: (l, ol) :: (wl, listOf (List.toArray tvs) tn) :: (X ++ Zr) ∧ CkO w ob oo ol s2 ∧ StackIn w.params R X tvs es ∧ LeavesOk es s2.1 ∧
    machine primOk es s2 = M ∧ mu es = n ∧ s2.1.length + mu es ≤ B0 ∧ s2.2.length + mu es ≤ B0 ∧ (∀ p ∈ X, p.1 ≠ b) ∧ (∀ p ∈ X, p.1 ≠ o) ∧ (∀ p ∈ X, p.1 ≠ l) ∧ (∀ p ∈ X, p.1 ≠ wl)
/-- what look_through hands back -/
noncomputable def ThroughR (w : World) (b o l : Addr) (Zr : List (Addr × Obj)) (B0 : Nat) (M : Option St2) (r : Value) (news' : List (Addr × Obj)) : Prop :=
  r = .none ∧ ∃ ob' oo' ol' s', news' = (b, ob') :: (o, oo') :: (l, ol') :: Zr ∧ CkO w ob' oo' ol' s' ∧ s'.1.length ≤ B0 ∧ s'.2.length ≤ B0 ∧ M = some s'
theorem look_start {w : World} {ck b o l wl tp x : Addr} {ob oo ol : Obj} {s2 : St2} {R Zr : List (Addr × Obj)} {T : Nd} {d B0 : Nat} {m₀ : Str → Option Value} {tk0 : Tok} {tn0 : Nat} (hT : NodeIn w.params R (.ref x) T) (hdp : dpt T ≤ d) (C : CkO w ob oo ol s2) (hc0 : m₀ (Str.ofString "check") = some (.ref ck)) (hw0 : m₀ (Str.ofString "waiting") = some (.ref wl))
    (hz : s2.1.length + 2 * wt T ≤ B0) (hz2 : s2.2.length + 2 * wt T ≤ B0) (h1 : ∀ p ∈ [(tp, tup3 (.int 0 tk0) (.ref x) (.bool true))], p.1 ≠ b) (h2 : ∀ p ∈ [(tp, tup3 (.int 0 tk0) (.ref x) (.bool true))], p.1 ≠ o) (h3 : ∀ p ∈ [(tp, tup3 (.int 0 tk0) (.ref x) (.bool true))], p.1 ≠ l) (h4 : ∀ p ∈ [(tp, tup3 (.int 0 tk0) (.ref x) (.bool true))], p.1 ≠ wl) :
    lookJ w ck b o l wl R Zr (chk primOk d T true s2) B0 (2 * wt T) m₀ ((b, ob) :: (o, oo) :: (l, ol) :: (wl, listOf (List.toArray ([] ++ [.ref tp])) tn0) :: ([(tp, tup3 (.int 0 tk0) (.ref x) (.bool true))] ++ Zr)) :=
  ⟨hc0, hw0, ob, oo, ol, _, tn0, _, [.enter d T true], s2, rfl, C, .push .nil (.enter (.head _) hT hdp), fun U hU => by simp at hU, by show (chk primOk d T true s2).bind (machine primOk []) = _; cases chk primOk d T true s2 <;> rfl, rfl, hz, hz2, h1, h2, h3, h4⟩
theorem look_begin {w : World} {g h : Heap} {L' wl tp ck x b o l : Addr} {ob oo ol : Obj} {s2 : St2} {R Zr : List (Addr × Obj)} {T : Nd} {d B0 : Nat} {m' : Str → Option Value} {n : Nat} {tk : Tok} (hT : NodeIn w.params R (.ref x) T) (hdp : dpt T ≤ d) (C : CkO w ob oo ol s2) (hz : s2.1.length + 2 * wt T ≤ B0) (hz2 : s2.2.length + 2 * wt T ≤ B0)
    (F : Fr g L' h m') (N : News g L' h ((wl, listOf (List.toArray [.ref tp]) n) :: (tp, tup3 (.int 0 tk) (.ref x) (.bool true)) :: (b, ob) :: (o, oo) :: (l, ol) :: Zr)) (hc : m' (Str.ofString "check") = some (.ref ck)) (hw : m' (Str.ofString "waiting") = some (.ref wl))
    (l1 : AllLt tp ((b, ob) :: (o, oo) :: (l, ol) :: Zr)) (l2 : AllLt wl ((tp, tup3 (.int 0 tk) (.ref x) (.bool true)) :: (b, ob) :: (o, oo) :: (l, ol) :: Zr)) :
    ∃ m₀ wl news₀, Fr g L' h m₀ ∧ News g L' h news₀ ∧ lookJ w ck b o l wl R Zr (chk primOk d T true s2) B0 (2 * wt T) m₀ news₀ ∧ NeA b wl ∧ NeA o wl ∧ NeA l wl ∧ ∀ p ∈ Zr, p.1 ≠ wl := by
  have a1 := allLt_all l1
  have a2 := allLt_all l2
  have one : ∀ {P : Addr × Obj → Prop}, P (tp, tup3 (.int 0 tk) (.ref x) (.bool true)) → ∀ p ∈ [(tp, tup3 (.int 0 tk) (.ref x) (.bool true))], P p := fun h p hp => by rw [List.mem_singleton.mp hp]; exact h
  refine ⟨m', wl, _, F, newsSub (news' := (b, ob) :: (o, oo) :: (l, ol) :: (wl, listOf (List.toArray ([] ++ [.ref tp])) n) :: ([(tp, tup3 (.int 0 tk) (.ref x) (.bool true))] ++ Zr)) N ?_,
    look_start hT hdp C hc hw hz hz2 (one (Ne.symm (Nat.ne_of_lt (a1 _ (.head _))))) (one (Ne.symm (Nat.ne_of_lt (a1 _ (.tail _ (.head _)))))) (one (Ne.symm (Nat.ne_of_lt (a1 _ (.tail _ (.tail _ (.head _))))))) (one (Nat.ne_of_lt (a2 _ (.head _)))),
    Nat.ne_of_lt (a2 _ (.tail _ (.head _))), Nat.ne_of_lt (a2 _ (.tail _ (.tail _ (.head _)))), Nat.ne_of_lt (a2 _ (.tail _ (.tail _ (.tail _ (.head _))))), fun p hp => Nat.ne_of_lt (a2 p (.tail _ (.tail _ (.tail _ (.tail _ hp)))))⟩
  refine List.forall_mem_cons.mpr ⟨.tail _ (.tail _ (.head _)), List.forall_mem_cons.mpr ⟨.tail _ (.tail _ (.tail _ (.head _))), List.forall_mem_cons.mpr ⟨.tail _ (.tail _ (.tail _ (.tail _ (.head _)))), List.forall_mem_cons.mpr ⟨.head _, List.forall_mem_cons.mpr ⟨.tail _ (.head _), fun p hp => .tail _ (.tail _ (.tail _ (.tail _ (.tail _ hp))))⟩⟩⟩⟩⟩
theorem top_eq {top : Bool} {T : Nd} (h : top = true) : (kindOf T == 9) = (top && isSeq T) := by subst h; exact isSeq_kind T
theorem top_ne {top : Bool} {T : Nd} (h : top = false) : top = (top && isSeq T) := by subst h; rfl
theorem machine_bad {ok : Int → Nat → Bool} {d : Nat} {T : Nd} {top : Bool} {es : List Ent} {s : St2} (h : hdC ok T top s = none) : machine ok (.enter d T top :: es) s = none := by
  show (chk ok d T top s).bind _ = none
  cases d with
  | zero => rfl
  | succ d => unfold chk; rw [h]; rfl
theorem leave_len (T : Nd) (s : St2) : (leave T s).1.length = s.1.length := by
  have := congrArg List.length (keys_close (binders T) s.1)
  unfold keysOf at this
  rw [List.length_map, List.length_map] at this
  exact this
theorem lookJ.leave {w : World} {ck b o l wl : Addr} {ob oo ol : Obj} {s2 : St2} {R Zr X : List (Addr × Obj)} {T : Nd} {B0 tn : Nat} {m₀ : Str → Option Value} {tvs : List Value} {es : List Ent} {M : Option St2} (hc0 : m₀ (Str.ofString "check") = some (.ref ck)) (hw0 : m₀ (Str.ofString "waiting") = some (.ref wl)) (C : CkO w ob oo ol (leave T s2)) (hS : StackIn w.params R X tvs es)
    (hL : LeavesOk (.leave T :: es) s2.1) (hM : machine primOk (.leave T :: es) s2 = M) (hb1 : s2.1.length + mu (.leave T :: es) ≤ B0) (hb2 : s2.2.length + mu (.leave T :: es) ≤ B0) (x1 : ∀ p ∈ X, p.1 ≠ b) (x2 : ∀ p ∈ X, p.1 ≠ o) (x3 : ∀ p ∈ X, p.1 ≠ l) (x4 : ∀ p ∈ X, p.1 ≠ wl) :
    lookJ w ck b o l wl R Zr M B0 (mu es) m₀ ((b, ob) :: (o, oo) :: (l, ol) :: (wl, listOf (List.toArray tvs) tn) :: (X ++ Zr)) :=
  ⟨hc0, hw0, ob, oo, ol, tvs, tn, X, es, Mine.leave T s2, rfl, C, hS, leaves_leave hL, hM, rfl, by rw [leave_len]; exact Nat.le_trans (Nat.add_le_add_left (by simp only [mu]; omega) _) hb1, Nat.le_trans (Nat.add_le_add_left (by simp only [mu]; omega) _) hb2, x1, x2, x3, x4⟩
theorem isList_of {g h : Heap} {L D : Addr} {news : List (Addr × Obj)} {vs : List Value} {n : Nat} (N : News g L h news) (hl : (D, listOf (List.toArray vs) n) ∈ news) : h.IsList D vs.toArray := ⟨_, (N _ hl).1, rfl, n, rfl⟩
theorem kids_len (T : Nd) : (kids T).length ≤ wt T := by
  have := len_le_wts (kids T)
  have := wt_kids T
  omega
noncomputable def UPost (h₀ : Heap) (L I : Addr) (oI : Obj) (J : (Str → Option Value) → List (Addr × Obj) → Prop) (s₁ : Shared) (f : Flow) (s₂ : Shared) : Prop :=
  match f with
  | .next => VEnd h₀ L I oI J s₁ s₂
  | _ => False
section
variable {prog : Program} {w : World} {A : Around} {E : Value → Shared → Prop} {s : Shared} {env : Env} {h₀ : Heap} {x : Str} {body : List Stmt} {Q : Flow → Shared → Prop}
theorem u_iterU {l : Addr} {vs : List Value} {nn : Nat} {m₀ : Str → Option Value} {news : List (Addr × Obj)} (J : Nat → (Str → Option Value) → List (Addr × Obj) → Prop) (hh : A.handled = none) (hl : (l, listOf vs.toArray nn) ∈ news)
    (F : Fr h₀ env.locals s.heap m₀) (N : News h₀ env.locals s.heap news) (hJ : ∀ i m nx, J i m nx → (l, listOf vs.toArray nn) ∈ nx) (hj : J 0 m₀ news)
    (turn : ∀ (I : Addr) (oI : Obj) (i : Nat) (v : Value) m₁ news₁ (s₁ : Shared), vs[i]? = some v → J i m₁ news₁ → (∀ p ∈ news₁, p.1 ≠ I) → Fr h₀ env.locals s₁.heap (fun y => if y = x then some v else m₁ y) → News h₀ env.locals s₁.heap ((I, oI) :: news₁) →
      wpAny (model prog w) A (execs body env) (UPost h₀ env.locals I oI (J (i + 1)) s₁) E s₁)
    (done : ∀ m₁ news₁ h tk, J vs.length m₁ news₁ → Fr h₀ env.locals h m₁ → News h₀ env.locals h news₁ → Q .next { s with heap := h, toks := tk }) :
    wpAny (model prog w) A (pyIter (.ref l)) (fun it s₂ => LoopAtU prog w A h₀ env x body Q E it s₂) E s := by
  have al := N _ hl
  have isl : s.heap.IsList l vs.toArray := ⟨_, al.1, rfl, nn, rfl⟩
  have hlt : l < s.heap.objs.size := Heap.lt_size al.1
  have hne : l ≠ s.heap.objs.size := Nat.ne_of_lt hlt
  have below : ∀ p ∈ news, p.1 ≠ s.heap.objs.size := fun p hp => Nat.ne_of_lt (Heap.lt_size (N p hp).1)
  refine wpAny_pyIter_list isl ⟨s.heap.objs.size, _, [s.heap.objs.size], _, _, _, m₀, news, J, rfl, Walks.list hh s.heap.objs.size l hne vs.toArray, ?_, ?_, ?_, ⟨⟨_, Heap.get?_push_size _ rfl, rfl, rfl⟩, isl.at fun o e => Heap.get?_push_of_some _ e⟩,
    F.push _, fun p hp => ⟨Heap.get?_push_of_some _ (N p hp).1, (N p hp).2⟩, hj, ?_, ?_⟩
  · intro hm
    rcases List.mem_cons.mp hm with e | hm
    · exact Nat.lt_irrefl _ (e ▸ F.ns.lt)
    · exact al.2.1 (List.mem_singleton.mp hm).symm
  · intro b hb
    rw [List.mem_singleton.mp hb]
    exact next_is_new F
  · intro p hp hI
    exact below p hp (List.mem_singleton.mp hI)
  · rintro i v m₁ news₁ s₁ own _ hP hJ₁ hoff hown hget hfp st F₁ N₁
    obtain ⟨oI, hoI, _, _⟩ := st.1
    have hin : (s.heap.objs.size, oI) ∈ own := hfp _ (.head _) (next_is_new F) oI hoI
    have off1 : ∀ p ∈ news₁, p.1 ≠ s.heap.objs.size := fun p hp q => hoff p hp (List.mem_singleton.mpr q)
    have N₂ : News h₀ env.locals s₁.heap ((s.heap.objs.size, oI) :: news₁) := fun p hp => N₁ p (by
      rcases List.mem_cons.mp hp with rfl | hp
      · exact List.mem_append_left _ hin
      · exact List.mem_append_right _ hp)
    have hlo := (N₂ _ (.tail _ (hJ _ _ _ hJ₁))).1
    refine wpAny_mono (turn s.heap.objs.size oI i v m₁ news₁ s₁ (by simpa using hP) hJ₁ off1 F₁ N₂) (fun f s₂ p => ?_) fun _ _ e => e
    cases f with
    | next =>
      obtain ⟨h', tk, m', nx, e, F', N', ho, hj'⟩ := p
      refine ⟨rfl, h', tk, m', nx, e, F', fun p hp => ?_, fun p hp q => ho p hp (List.mem_singleton.mp q), hj'⟩
      rcases List.mem_append.mp hp with hp | hp
      · have at_ : s₁.heap.get? p.1 = some p.2 := hget p hp
        rcases List.mem_cons.mp (hown p hp) with q | q
        · have : p = (s.heap.objs.size, oI) := Prod.ext q (by rw [q, hoI] at at_; exact (Option.some.inj at_).symm)
          rw [this]; exact N' _ (.head _)
        · have q := List.mem_singleton.mp q
          have : p = (l, listOf vs.toArray nn) := Prod.ext q (by rw [q, hlo] at at_; exact (Option.some.inj at_).symm)
          rw [this]; exact N' _ (.tail _ (hJ _ _ _ hj'))
      · exact N' p (.tail _ hp)
    | ret v => exact absurd p id
    | brk => exact absurd p id
    | cont => exact absurd p id
  · rintro h' tk m' news' F' N' _ hj'
    exact done m' news' h' tk (by simpa using hj') F' N'
end
theorem push_sub {top4 X Zr : List (Addr × Obj)} {q rl d : Addr × Obj} : ∀ p ∈ top4 ++ q :: (X ++ rl :: Zr), p ∈ rl :: d :: (top4 ++ q :: (X ++ Zr)) :=
  List.forall_mem_append.mpr ⟨fun p hp => .tail _ (.tail _ (List.mem_append_left _ hp)), List.forall_mem_cons.mpr ⟨.tail _ (.tail _ (List.mem_append_right _ (.head _))), List.forall_mem_append.mpr ⟨fun p hp => .tail _ (.tail _ (List.mem_append_right _ (.tail _ (List.mem_append_left _ hp)))), List.forall_mem_cons.mpr ⟨.head _, fun p hp => .tail _ (.tail _ (List.mem_append_right _ (.tail _ (List.mem_append_right _ hp))))⟩⟩⟩⟩
theorem push_mem {top4 X Zr : List (Addr × Obj)} {q rl : Addr × Obj} : rl ∈ top4 ++ q :: (X ++ rl :: Zr) := List.mem_append_right _ (.tail _ (List.mem_append_right _ (.head _)))
section
variable {P : Params} {ck b o l wl D : Addr} {top4 R Zr X X2 : List (Addr × Obj)} {rl : Addr × Obj} {d i tn : Nat} {nx : Bool} {ts : List Nd} {es : List Ent} {m₁ : Str → Option Value} {news₁ : List (Addr × Obj)} {tvs tvs2 : List Value}
theorem pushJ.mem (h : pushJ P ck top4 b o l wl R Zr rl d nx ts es i m₁ news₁) : rl ∈ news₁ := by
  obtain ⟨_, _, _, _, _, _, rfl, _⟩ := h
  exact push_mem
theorem pushJ.start (hc : m₁ (Str.ofString "check") = some (.ref ck)) (hw : m₁ (Str.ofString "waiting") = some (.ref wl)) (hn : m₁ (Str.ofString "is_next") = some (.bool nx)) (hS : StackIn P R X tvs es) (x1 : ∀ p ∈ X, p.1 ≠ b) (x2 : ∀ p ∈ X, p.1 ≠ o) (x3 : ∀ p ∈ X, p.1 ≠ l) (x4 : ∀ p ∈ X, p.1 ≠ wl) :
    pushJ P ck top4 b o l wl R Zr rl d nx ts es 0 m₁ (top4 ++ (wl, listOf (List.toArray tvs) tn) :: (X ++ rl :: Zr)) := ⟨hc, hw, hn, tvs, tn, X, rfl, hS, x1, x2, x3, x4⟩
theorem pushJ.next {T : Nd} {y : Addr} {tk : Tok} (hc : m₁ (Str.ofString "check") = some (.ref ck)) (hw : m₁ (Str.ofString "waiting") = some (.ref wl)) (hn : m₁ (Str.ofString "is_next") = some (.bool nx)) (hS : StackIn P R X tvs ((ts.take i).reverse.map (fun u => Ent.enter d u nx) ++ es)) (hT : ts[i]? = some T) (hN : NodeIn P R (.ref y) T) (hd : dpt T ≤ d)
    (d1 : @Ne Nat D b) (d2 : @Ne Nat D o) (d3 : @Ne Nat D l) (d4 : @Ne Nat D wl) (x1 : ∀ p ∈ X, p.1 ≠ b) (x2 : ∀ p ∈ X, p.1 ≠ o) (x3 : ∀ p ∈ X, p.1 ≠ l) (x4 : ∀ p ∈ X, p.1 ≠ wl) :
    pushJ P ck top4 b o l wl R Zr rl d nx ts es (i + 1) m₁ (top4 ++ (wl, listOf (List.toArray (tvs ++ [.ref D])) tn) :: ((D, tup3 (.int 0 tk) (.ref y) (.bool nx)) :: X ++ rl :: Zr)) := by
  refine ⟨hc, hw, hn, _, tn, _, rfl, ?_, offs_cons d1 x1, offs_cons d2 x2, offs_cons d3 x3, offs_cons d4 x4⟩
  have e : (ts.take (i + 1)).reverse.map (fun u => Ent.enter d u nx) = Ent.enter d T nx :: (ts.take i).reverse.map (fun u => Ent.enter d u nx) := by
    rw [List.take_add_one, hT, Option.toList_some, List.reverse_append]; rfl
  rw [e]
  exact .push (hS.mono fun p hp => .tail _ hp) (.enter (.head _) hN hd)
theorem StackIn.length (h : StackIn P R X tvs es) : tvs.length = es.length := by
  induction h with
  | nil => rfl
  | push _ _ ih => rw [List.length_append, List.length_cons, ih]; rfl
theorem push_len (h : StackIn P R X tvs ((ts.take i).reverse.map (fun u => Ent.enter d u nx) ++ es)) (h2 : StackIn P R X2 tvs2 es) : tvs.length ≤ ts.length + tvs2.length := by
  rw [h.length, h2.length, List.length_append, List.length_map, List.length_reverse, List.length_take]
  omega
theorem mu_closing (T : Nd) (es : List Ent) : mu (closing T ++ es) ≤ 1 + mu es := by
  unfold closing
  split
  · exact Nat.le_refl _
  · exact Nat.le_add_left _ _
theorem take_all_rev (l : List Nd) (vs : List Value) (h : vs.length = l.length) : (l.reverse.take vs.reverse.length).reverse = l := by
  rw [List.length_reverse, h, ← List.length_reverse, List.take_length, List.reverse_reverse]
end
theorem lookJ.enter {w : World} {ck b o l wl : Addr} {ob oo ol : Obj} {s1 s' : St2} {R Zr X : List (Addr × Obj)} {T : Nd} {d B0 tn : Nat} {top : Bool} {m₀ : Str → Option Value} {tvs : List Value} {es : List Ent} {M : Option St2} (hc0 : m₀ (Str.ofString "check") = some (.ref ck)) (hw0 : m₀ (Str.ofString "waiting") = some (.ref wl)) (C : CkO w ob oo ol s')
    (hS : StackIn w.params R X tvs ((kids T).map (fun u => Ent.enter (d - 1) u (top && isSeq T)) ++ (closing T ++ es))) (hd : dpt T ≤ d) (hL : LeavesOk (.enter d T top :: es) s1.1) (hM : machine primOk (.enter d T top :: es) s1 = M) (hc : hdC primOk T top s1 = some s') (hl1 : s'.1.length ≤ s1.1.length + (binders T).length) (hl2 : s'.2.length ≤ s1.2.length + 1)
    (hb1 : s1.1.length + mu (.enter d T top :: es) ≤ B0) (hb2 : s1.2.length + mu (.enter d T top :: es) ≤ B0) (x1 : ∀ p ∈ X, p.1 ≠ b) (x2 : ∀ p ∈ X, p.1 ≠ o) (x3 : ∀ p ∈ X, p.1 ≠ l) (x4 : ∀ p ∈ X, p.1 ≠ wl) :
    lookJ w ck b o l wl R Zr M B0 (mu ((kids T).map (fun u => Ent.enter (d - 1) u (top && isSeq T)) ++ (closing T ++ es))) m₀ ((b, ob) :: (o, oo) :: (l, ol) :: (wl, listOf (List.toArray tvs) tn) :: (X ++ Zr)) := by
  have hm := mu_step (d - 1) T (top && isSeq T) es
  simp only [mu] at hb1 hb2
  refine ⟨hc0, hw0, ob, oo, ol, tvs, tn, X, _, s', rfl, C, hS, leaves_step hL hc, ?_, rfl, ?_, ?_, x1, x2, x3, x4⟩
  · obtain ⟨d, rfl⟩ : ∃ k, d = k + 1 := ⟨d - 1, by have := dpt_pos T; omega⟩
    rw [machine_step, hc] at hM
    exact hM
  · omega
  · omega
theorem push_drop {top4 X Zr : List (Addr × Obj)} {q rl : Addr × Obj} : ∀ p ∈ top4 ++ q :: (X ++ Zr), p ∈ top4 ++ q :: (X ++ rl :: Zr) :=
  List.forall_mem_append.mpr ⟨fun p hp => List.mem_append_left _ hp, List.forall_mem_cons.mpr ⟨List.mem_append_right _ (.head _), List.forall_mem_append.mpr ⟨fun p hp => List.mem_append_right _ (.tail _ (List.mem_append_left _ hp)), fun p hp => List.mem_append_right _ (.tail _ (List.mem_append_right _ (.tail _ hp)))⟩⟩⟩
theorem mu_less {T : Nd} {d n : Nat} {top b : Bool} {es : List Ent} (e : mu (.enter d T top :: es) = n) : mu ((kids T).map (fun u => Ent.enter (d - 1) u b) ++ (closing T ++ es)) < n := by
  have := mu_step (d - 1) T b es
  simp only [mu] at e
  omega
theorem push_end {P : Params} {h₀ h' : Heap} {L D I ck b o l wl y : Addr} {ob oo ol oI : Obj} {R Zr X : List (Addr × Obj)} {rl : Addr × Obj} {d i tn tn0 tk' : Nat} {tk : Tok} {nx : Bool} {ts : List Nd} {T : Nd} {es : List Ent} {m' : Str → Option Value} {tvs : List Value} {s₁ : Shared} (F : Fr h₀ L h' m') (N : News h₀ L h' ((wl, listOf (List.toArray (tvs ++ [.ref D])) tn) :: (D, tup3 (.int 0 tk) (.ref y) (.bool nx)) :: (I, oI) :: (b, ob) :: (o, oo) :: (l, ol) :: (X ++ rl :: Zr)))
    (lt : AllLt D ((I, oI) :: (b, ob) :: (o, oo) :: (l, ol) :: (wl, listOf (List.toArray tvs) tn0) :: (X ++ rl :: Zr))) (offI : ∀ p ∈ (b, ob) :: (o, oo) :: (l, ol) :: (wl, listOf (List.toArray tvs) tn0) :: (X ++ rl :: Zr), p.1 ≠ I) (hc : m' (Str.ofString "check") = some (.ref ck)) (hw : m' (Str.ofString "waiting") = some (.ref wl)) (hn : m' (Str.ofString "is_next") = some (.bool nx))
    (hS : StackIn P R X tvs ((ts.take i).reverse.map (fun u => Ent.enter d u nx) ++ es)) (hT : ts[i]? = some T) (hN : NodeIn P R (.ref y) T) (hd : dpt T ≤ d) (x1 : ∀ p ∈ X, p.1 ≠ b) (x2 : ∀ p ∈ X, p.1 ≠ o) (x3 : ∀ p ∈ X, p.1 ≠ l) (x4 : ∀ p ∈ X, p.1 ≠ wl) :
    UPost h₀ L I oI (pushJ P ck [(b, ob), (o, oo), (l, ol)] b o l wl R Zr rl d nx ts es (i + 1)) s₁ .next { s₁ with heap := h', toks := tk' } := by
  have a := allLt_all lt
  have ne : ∀ p ∈ (I, oI) :: (b, ob) :: (o, oo) :: (l, ol) :: (wl, listOf (List.toArray tvs) tn0) :: (X ++ rl :: Zr), @Ne Nat D p.1 := fun p hp => Ne.symm (Nat.ne_of_lt (a p hp))
  show VEnd _ _ _ _ _ _ _
  refine VEnd.intro F N (nx := [(b, ob), (o, oo), (l, ol)] ++ (wl, listOf (List.toArray (tvs ++ [.ref D])) tn) :: ((D, tup3 (.int 0 tk) (.ref y) (.bool nx)) :: X ++ rl :: Zr)) ?_ ?_
    (pushJ.next hc hw hn hS hT hN hd (ne _ (.tail _ (.head _))) (ne _ (.tail _ (.tail _ (.head _)))) (ne _ (.tail _ (.tail _ (.tail _ (.head _))))) (ne _ (.tail _ (.tail _ (.tail _ (.tail _ (.head _)))))) x1 x2 x3 x4)
  · exact List.forall_mem_cons.mpr ⟨.tail _ (.tail _ (.head _)), List.forall_mem_cons.mpr ⟨.tail _ (.tail _ (.tail _ (.head _))), List.forall_mem_cons.mpr ⟨.tail _ (.tail _ (.tail _ (.tail _ (.head _)))), List.forall_mem_cons.mpr ⟨.tail _ (.tail _ (.tail _ (.tail _ (.tail _ (.head _))))), List.forall_mem_cons.mpr ⟨.head _, List.forall_mem_cons.mpr ⟨.tail _ (.head _), fun p hp => .tail _ (.tail _ (.tail _ (.tail _ (.tail _ (.tail _ hp)))))⟩⟩⟩⟩⟩⟩
  · exact List.forall_mem_cons.mpr ⟨offI _ (.head _), List.forall_mem_cons.mpr ⟨offI _ (.tail _ (.head _)), List.forall_mem_cons.mpr ⟨offI _ (.tail _ (.tail _ (.head _))), List.forall_mem_cons.mpr ⟨offI (wl, listOf (List.toArray tvs) tn0) (.tail _ (.tail _ (.tail _ (.head _)))), List.forall_mem_cons.mpr ⟨ne _ (.head _), fun p hp => offI p (.tail _ (.tail _ (.tail _ (.tail _ hp))))⟩⟩⟩⟩⟩
set_option maxHeartbeats 8000000 in
theorem look_through_spec (w : World) {ck b o l : Addr} {ob oo ol : Obj} {s2 : St2} {R Zr : List (Addr × Obj)} {x : Addr} {T : Nd} {d B0 : Nat} (hT : NodeIn w.params R (.ref x) T) (hs : ∀ p ∈ R, p ∈ Zr) (hdp : dpt T ≤ d) (hwt : wt T ≤ 20000) (hR : CkR w Zr ck b o l) (C : CkO w ob oo ol s2) (hz : s2.1.length + 2 * wt T ≤ B0) (hz2 : s2.2.length + 2 * wt T ≤ B0) (hB0 : B0 ≤ 90000) :
    SpecE w 735 180 1800 [.ref ck, .ref x] ((b, ob) :: (o, oo) :: (l, ol) :: Zr) (ThroughR w b o l Zr B0 (chk primOk d T true s2)) (chk primOk d T true s2 = none) Zr := by
  unfold SpecE
  k_fill
  intro dp un gd cn cs a ccd cl outer A₀ base h₀ L m s Q E p loose mean mg mb B F X XP N T' hk hd hu hret herr
  obtain ⟨dk, t1, t2, t3, n9, hck, hdk⟩ := hR.at_
  refine wpAny_call ?_
  k_dflt (refine' code_def (binds := [(Str.ofString "check", .ref ck), (Str.ofString "node", .ref x)]) ?k1 ?k2 ?k3 ?k4 ?k5 ?kA ?kF ?kK ?k6 ?k7 ?k8 ?k9 ?kB ?_ ?c2 ?c3 ?c4 ?c5; k_extra "m:enter")
  have kdF : KdF (fScope (stAt 42)) := by (unfold KdF; kernel_rfl!)
  have kd0 : KdL (fScope (stAt 42)) (Str.ofString "check") := ⟨by kernel_rfl!, by kernel_rfl!⟩
  have kd1 : KdL (fScope (stAt 42)) (Str.ofString "node") := ⟨by kernel_rfl!, by kernel_rfl!⟩
  have kd2 : KdL (fScope (stAt 42)) (Str.ofString "waiting") := ⟨by kernel_rfl!, by kernel_rfl!⟩
  have kd3 : KdL (fScope (stAt 42)) (Str.ofString "what") := ⟨by kernel_rfl!, by kernel_rfl!⟩
  have kd4 : KdL (fScope (stAt 42)) (Str.ofString "here") := ⟨by kernel_rfl!, by kernel_rfl!⟩
  have kd5 : KdL (fScope (stAt 42)) (Str.ofString "is_top") := ⟨by kernel_rfl!, by kernel_rfl!⟩
  have kd6 : KdL (fScope (stAt 42)) (Str.ofString "is_next") := ⟨by kernel_rfl!, by kernel_rfl!⟩
  have kd7 : KdL (fScope (stAt 42)) (Str.ofString "part") := ⟨by kernel_rfl!, by kernel_rfl!⟩
  have kd8 : KdG (fScope (stAt 42)) (Str.ofString "ENTER") := ⟨by kernel_rfl!, by kernel_rfl!⟩
  have kd9 : KdG (fScope (stAt 42)) (Str.ofString "LEAVE") := ⟨by kernel_rfl!, by kernel_rfl!⟩
  have kd10 : KdG (fScope (stAt 42)) (Str.ofString "look_at") := ⟨by kernel_rfl!, by kernel_rfl!⟩
  have kd11 : KdG (fScope (stAt 42)) (Str.ofString "LAMBDA") := ⟨by kernel_rfl!, by kernel_rfl!⟩
  have kd12 : KdG (fScope (stAt 42)) (Str.ofString "FIX") := ⟨by kernel_rfl!, by kernel_rfl!⟩
  have kd13 : KdG (fScope (stAt 42)) (Str.ofString "SEQ") := ⟨by kernel_rfl!, by kernel_rfl!⟩
  k_with "w:exec While" => (obtain ⟨m0, wl, nw0, F0, N0, J0, wb, wo, wlq, wz⟩ := look_begin (ck := ck) (x := x) (Zr := Zr) hT hdp C hz hz2 (by with_reducible assumption : Fr g' L' _ _) (by with_reducible assumption) rfl rfl (by with_reducible assumption) (by with_reducible assumption); k_sweep; (refine While_inv2 (lookJ w ck b o l wl R Zr (chk primOk d T true s2) B0) (n₀ := 2 * wt T) F0 N0 J0 ?_); clear F0 N0 J0; rintro n m₁ news₁ h₁ tk₁ F₁ N₁ ⟨hchk, hwait, ob1, oo1, ol1, tvs, tn1, X1, es, s1, rfl, C1, hS, hL, hM, hmu, hb1, hb2, x1, x2, x3, x4⟩; have hlen9 := hS.len; k_sweep; (rcases hS.cases with ⟨rfl, rfl⟩ | ⟨tvs, v, e, es, rfl, rfl, hS', @⟨tp, y, tk, T1, d1, top1, hm1, hn1, hd1⟩ | @⟨tp, y, tk, T1, hm1, hn1, hbn, hbw⟩⟩))
  k_with "w:call builtin:len" => ((with_reducible show wpAny _ _ (call (Value.builtin "len") [Value.ref wl]) _ _ _); k_dflt (refine' u_lenSnoc ?gN9 ?gm9 ?gz9 ?_; (case gN9 => k_asm); (case gm9 => k_mem); (case gz9 => (have hl8 : (tvs ++ [Value.ref tp]).length = tvs.length + 1 := by (rw [List.length_append]; rfl)); omega)); intro kk tt tk' hkk; k_sweep)
  k_with "w:call builtin:list.pop" => ((try dsimp only); (with_reducible show wpAny _ _ (call (Value.builtin "list.pop") [Value.ref wl]) _ _ _); k_dflt (refine' u_popV (r := (b, ob1) :: (o, oo1) :: (l, ol1) :: (X1 ++ Zr)) ?gF9 (newsSub ?gN9 ?gs9) ?go9 ?gz9 ?_; (case gF9 => k_asm); (case gN9 => k_asm); (case gs9 => k_extra "m:subX"); (case go9 => exact List.forall_mem_cons.mpr ⟨wb, List.forall_mem_cons.mpr ⟨wo, List.forall_mem_cons.mpr ⟨wlq, List.forall_mem_append.mpr ⟨x4, wz⟩⟩⟩⟩); (case gz9 => (have hl8 : (tvs ++ [Value.ref tp]).length = tvs.length + 1 := by (rw [List.length_append]; rfl)); omega)); intro h' F' N'; k_sweep)
  k_with "w:call ref" => (k_here; (with_reducible show wpAny _ _ (call (Value.ref 728) [Value.ref ck, Value.ref y, Value.bool top1]) _ _ _); k_dflt (refine' SpecE.use (look_at_spec (Zr := (wl, listOf (List.toArray tvs) (tn1 + 1)) :: (X1 ++ Zr)) _ hn1 ?bs9 ?bw9 ?bR9 C1 ?bz9 ?by9) ?qB7 ?qF7 ?qX7 ?qXP7 (newsSub ?qN7 ?qs7) ?qT7 ?qK7 ?qhd7 ?qhu7 ?_ ?_; (case qN7 => k_asm); (k_extra "m:use"); (case bs9 => exact fun p hp => List.Mem.tail _ (List.mem_append_right _ (hs p hp))); (case bw9 => (simp only [mu] at hb1; omega)); (case bR9 => exact (hR.more X1 x1 x2 x3).more [(wl, listOf (List.toArray tvs) (tn1 + 1))] (fun p hp => by rw [List.mem_singleton.mp hp]; exact Ne.symm wb) (fun p hp => by rw [List.mem_singleton.mp hp]; exact Ne.symm wo) (fun p hp => by rw [List.mem_singleton.mp hp]; exact Ne.symm wlq)); (case bz9 => omega); (case by9 => omega); (case qs7 => k_extra "m:subX")); all_goals first | (rintro _ nw' h' tk' F' N' ⟨e1, ob', oo', ol', s', e2, C', hl1', hl2', hc'⟩; subst e1; subst nw'; (have hwt1 : wt T1 ≤ 45000 := by (simp only [mu] at hb1; omega)); (try k_sweep); (try dsimp only)) | (intro hX' ee' gg' h' tk' FF' R' U'; (try dsimp only at R' U' ⊢)))
  k_with "w:call ref" => (k_here; (with_reducible show wpAny _ _ (call (Value.ref 693) [Value.ref ck, Value.ref y]) _ _ _); k_dflt (refine' Spec.use (end_spec (Zr := (wl, listOf (List.toArray tvs) (tn1 + 1)) :: (X1 ++ Zr)) _ hn1 ?bs9 hbn ?bw9 ?bR9 C1 ?bz9 ?by9) ?qB7 ?qF7 ?qX7 ?qXP7 (newsSub ?qN7 ?qs7) ?qT7 ?qK7 ?qhd7 ?qhu7 ?_ ?qx7; (case qN7 => k_asm); (k_extra "m:use"); (case bs9 => exact fun p hp => List.Mem.tail _ (List.mem_append_right _ (hs p hp))); (case bw9 => exact hbw); (case bR9 => exact (hR.more X1 x1 x2 x3).more [(wl, listOf (List.toArray tvs) (tn1 + 1))] (fun p hp => by rw [List.mem_singleton.mp hp]; exact Ne.symm wb) (fun p hp => by rw [List.mem_singleton.mp hp]; exact Ne.symm wo) (fun p hp => by rw [List.mem_singleton.mp hp]; exact Ne.symm wlq)); (case bz9 => omega); (case by9 => exact hL _ (List.Mem.head _)); (case qs7 => k_extra "m:subX"); (case qx7 => k_extra "m:noX")); (rintro _ nw' h' tk' F' N' ⟨e1, oo', e2, C'⟩); subst e1; subst nw'; (try k_sweep); (try dsimp only))
  k_with "w:exec If" => ((with_reducible show wpAny _ _ (exec (Stmt.If (Expr.Compare _ [CmpOp.In] _ _) _ _ _) _) _ _ _); (goal_lacks IfP); k_dflt (refine' join_if (P := w.params) (top4 := [(b, ob'), (o, oo'), (l, ol')]) (b := b) (o := o) (l := l) (wl := wl) (R := R) (Zr := Zr) (es := closing T1 ++ es) ?jF9 ?_ ?_; (case jF9 => k_asm)); all_goals first | (intro h' tk' tvs2 tn2 X2 F' N' hS2 z1 z2 z3 z4; (simp only [List.cons_append, List.nil_append] at N'); k_sweep) | skip)
  k_with "w:call builtin:list.append" => ((try dsimp only); k_dflt (refine' u_appV (vs := tvs) ?gF9 (Pick.front ?gP9 ?gN9) ?go9 ?gz9 ?_; (case gN9 => k_asm); (case gP9 => k_extra "m:pick"); (case gF9 => k_asm); (case go9 => k_all); (case gz9 => (have hl8 : (tvs ++ [Value.ref tp]).length = tvs.length + 1 := by (rw [List.length_append]; rfl)); omega)); intro h' F' N'; k_sweep)
  k_with "w:eval BoolOp" => ((goal_lacks SeqP); k_dflt (refine' join_val (.bool (top1 && isSeq T1)) ?jF9 ?jN9 ?_ ?_; (case jF9 => k_asm); (case jN9 => k_asm)); all_goals first | (intro h' tk' F' N'; k_sweep) | skip)
  k_with "w:SeqP" => (refine' ⟨?sv9, _, _, rfl, ?sF9, ?sN9⟩; (case sF9 => k_asm); (case sN9 => k_asm); (case sv9 => exact congrArg Value.bool (top_eq (by with_reducible assumption))))
  k_with "w:SeqP" => (refine' ⟨?sv9, _, _, rfl, ?sF9, ?sN9⟩; (case sF9 => k_asm); (case sN9 => k_asm); (case sv9 => exact congrArg Value.bool (top_ne (by with_reducible assumption))))
  k_with "w:subscriptTail Name Slice ref ref" => (k_here; (with_reducible show wpAny _ _ (subscriptTail _ (PySem.Expr.Slice none none (some _) _) (Value.ref _) (Value.ref _)) _ _ _); k_dflt (refine' krv_lit (its := pvs'.toArray) (zs := pvs'.reverse) ?rF9 ?rN9 ?rl9 ?rk9 ?re9 ?_ ?rs9 ?rt9 ?rz9; (case rF9 => k_asm); (case rN9 => k_asm); (case rl9 => exact isList_of (by with_reducible assumption) (List.Mem.head _)); (case rk9 => exact IsPart.int _ _); (case re9 => rfl); (case rs9 => with_unfolding_all rfl); (case rt9 => kmk_pure); (case rz9 => (have hl8 := hP'.1; have hl7 := kids_len T1; rw [List.size_toArray, sizeLine_eq]; omega)); intro D2 h' F' N' l1; (try k_lt l1); (try k_sweep)))
  k_with "w:pyIter ref" => (k_dflt (refine' u_iterU (news := [(b, ob'), (o, oo'), (l, ol')] ++ (wl, listOf (List.toArray tvs2) tn2) :: (X2 ++ (D2, listOf (List.toArray pvs'.reverse) 0) :: Zr)) (vs := pvs'.reverse) (nn := 0) (pushJ w.params ck [(b, ob'), (o, oo'), (l, ol')] b o l wl R Zr (D2, listOf (List.toArray pvs'.reverse) 0) (d1 - 1) (top1 && isSeq T1) (kids T1).reverse (closing T1 ++ es)) ?vh9 ?vl9 ?vF9 (newsSub ?vN9 ?vs9) ?vJ9 ?vj9 ?vt9 ?vd9; (case vh9 => rfl); (case vF9 => k_asm); (case vj9 => (refine' pushJ.start ?h1 ?h2 ?h3 hS2 z1 z2 z3 z4; (case h1 => (show m₁ (Str.ofString "check") = _; exact hchk)); (case h2 => (show m₁ (Str.ofString "waiting") = _; exact hwait)); (case h3 => rfl))); (case vN9 => k_asm); (case vs9 => exact push_sub); (case vl9 => exact push_mem); (case vJ9 => exact fun _ _ _ h => pushJ.mem h)); (have hD2 : NeA D2 wl := (by k_ne)); all_goals first | (intro I oI i v m₁ news₁ s₁ hget hJ₁ offI F₁ N₁; obtain ⟨jc, jw, jn, tvsJ, tnJ, XJ, q9, jS, j1, j2, j3, j4⟩ := hJ₁; subst news₁; (simp only [List.cons_append, List.nil_append] at N₁ offI); have hrev := hP'.rev; have hil : i < (kids T1).reverse.length := (by rw [← hrev.1]; exact (List.getElem?_eq_some_iff.mp hget).1); have hTi : (kids T1).reverse[i]? = some (kids T1).reverse[i] := List.getElem?_eq_getElem hil; have hnd := hrev.2 i v _ hget hTi; obtain ⟨xv, Cv, dv, e9, hx9⟩ := hnd.ref; subst e9; clear hx9; k_sweep; dsimp only [envOf] at F₁ N₁) | (intro m₁ news₁ h tk hJ₁ F₁ N₁; obtain ⟨jc, jw, jn, tvsJ, tnJ, XJ, q9, jS, j1, j2, j3, j4⟩ := hJ₁; subst news₁; (simp only [List.cons_append, List.nil_append] at N₁); (rw [take_all_rev _ _ hP'.1] at jS); k_sweep; dsimp only [envOf] at F₁ N₁))
  k_with "w:call builtin:list.append" => ((try dsimp only); (have hIw : NeA I wl := fun q => offI _ (List.Mem.tail _ (List.Mem.tail _ (List.Mem.tail _ (List.Mem.head _)))) q.symm); k_dflt (refine' u_appV (vs := tvsJ) ?gF9 (Pick.front ?gP9 ?gN9) ?go9 ?gz9 ?_; (case gN9 => k_asm); (case gP9 => k_extra "m:pick"); (case gF9 => k_asm); (case go9 => exact List.forall_mem_cons.mpr ⟨by k_ne, List.forall_mem_cons.mpr ⟨hIw, List.forall_mem_cons.mpr ⟨wb, List.forall_mem_cons.mpr ⟨wo, List.forall_mem_cons.mpr ⟨wlq, List.forall_mem_append.mpr ⟨j4, List.forall_mem_cons.mpr ⟨hD2, wz⟩⟩⟩⟩⟩⟩⟩); (case gz9 => (have hl8 := push_len jS hS2; have hl7 := hS2.len; have hl6 := mu_closing T1 es; have hl5 := kids_len T1; rw [List.length_reverse] at hl8; simp only [mu] at hb1; omega))); intro h' F' N'; k_sweep)
  k_with "w:IfP" => (k_dflt (refine' ifP_stay (X := X1) ?iF9 ?iN9 ?ir1 ?ir0 ?ir2 ?ir3 hS' ?ib9 x1 x2 x3 x4; (case ib9 => with_reducible assumption); (case iF9 => k_asm); (case iN9 => k_asm); (case ir1 => k_extra "m:subX"); (case ir0 => k_mem); (case ir2 => k_extra "m:lift"); (case ir3 => k_extra "m:lift")))
  k_with "w:IfP" => (k_dflt (refine' ifP_leave (X := X1) ?iF9 ?iN9 ?ir1 ?ir2 ?ir3 ?i1 ?i2 ?i3 ?i4 hS' hn1 ?ib9 ?iw9 x1 x2 x3 x4; (case ib9 => with_reducible assumption); (case iF9 => k_asm); (case iN9 => k_asm); (case iw9 => omega); (case ir1 => k_extra "m:subX"); (case ir2 => k_extra "m:lift"); (case ir3 => k_extra "m:lift"); (case i1 => k_ne); (case i2 => k_ne); (case i3 => k_ne); (case i4 => k_ne)))
  k_steps
  all_goals first
    | (refine hret _ _ _ _ (by k_asm) (newsSub (by k_asm) (by k_extra "m:subX")) ⟨rfl, ob1, oo1, ol1, s1, rfl, C1, Nat.le_trans (Nat.le_add_right _ _) hb1, Nat.le_trans (Nat.le_add_right _ _) hb2, hM.symm⟩)
    | (refine herr ?_ _ _ _ _ FG' (RaisedSN.sub R' (by k_extra "m:subX")) U'; rw [← hM]; exact machine_bad hX')
    | (refine' ⟨_, _, _, (b, ob1) :: (o, oo') :: (l, ol1) :: (wl, listOf (List.toArray tvs) (tn1 + 1)) :: (X1 ++ Zr), mu es, rfl, ?wf9, newsSub ?wn9 ?ws9, ?wl9, lookJ.leave (T := T1) (s2 := s1) ?wc9 ?wd9 C' hS' hL hM hb1 hb2 x1 x2 x3 x4⟩; (case wf9 => k_asm); (case wn9 => k_asm); (case ws9 => k_extra "m:subX"); (case wl9 => (rw [← hmu]; simp only [mu]; omega)); (case wc9 => exact hchk); (case wd9 => exact hwait))
    | (refine' push_end ?uf9 ?un9 ?ul9 offI ?uc9 ?uw9 ?ux9 jS hTi hnd ?ud9 j1 j2 j3 j4; (case uf9 => k_asm); (case un9 => k_asm); (case ul9 => with_reducible assumption); (case uc9 => (show m₁ (Str.ofString "check") = _; exact jc)); (case uw9 => (show m₁ (Str.ofString "waiting") = _; exact jw)); (case ux9 => (show m₁ (Str.ofString "is_next") = _; exact jn)); (case ud9 => exact dpt_kids (by omega) _ (List.mem_reverse.mp (List.mem_of_getElem? hTi))))
    | (refine' ⟨_, _, _, (b, ob') :: (o, oo') :: (l, ol') :: (wl, listOf (List.toArray tvsJ) tnJ) :: (XJ ++ Zr), _, rfl, ?wf9, newsSub ?wn9 ?ws9, ?wl9, lookJ.enter (T := T1) (s1 := s1) ?wc9 ?wd9 C' jS hd1 hL hM hc' hl1' hl2' hb1 hb2 j1 j2 j3 j4⟩; (case wf9 => k_asm); (case wn9 => k_asm); (case ws9 => exact push_drop (top4 := [(b, ob'), (o, oo'), (l, ol')])); (case wl9 => exact mu_less hmu); (case wc9 => exact jc); (case wd9 => exact jw))
local macro_rules | `(tactic| walk_at "UPost") => `(tactic| dsimp only [UPost])
/-! check_core and check_program -/
noncomputable def CheckR (w : World) (news : List (Addr × Obj)) (r : Value) (news' : List (Addr × Obj)) : Prop :=
  ∃ ck b o l ob oo ol X, r = .ref ck ∧ news' = (b, ob) :: (o, oo) :: (l, ol) :: (X ++ news) ∧ CkR w (X ++ news) ck b o l ∧ CkO w ob oo ol ([], [])
theorem perm5 {B O Lq X D : Addr × Obj} {news : List (Addr × Obj)} : ∀ p ∈ B :: O :: Lq :: ([X, D] ++ news), p ∈ Lq :: O :: B :: X :: D :: news :=
  List.forall_mem_cons.mpr ⟨.tail _ (.tail _ (.head _)), List.forall_mem_cons.mpr ⟨.tail _ (.head _), List.forall_mem_cons.mpr ⟨.head _, fun p hp => .tail _ (.tail _ (.tail _ hp))⟩⟩⟩
theorem check_of {w : World} {x dx b o l : Addr} {ob oo ol e1 e2 e3 : Obj} {t1 t2 t3 : Tok} {n : Nat} {news : List (Addr × Obj)} (lb : AllLt b ((x, instObj 703 dx) :: (dx, e1) :: news)) (lo : AllLt o ((b, ob) :: (x, instObj 703 dx) :: (dx, e2) :: news)) (ll : AllLt l ((o, oo) :: (b, ob) :: (x, instObj 703 dx) :: (dx, e3) :: news))
    (sb : (b == sysModules) = false) (so : (o == sysModules) = false) (sl : (l == sysModules) = false) (hb : ob.IsDictOf (intKind lw.row.prog w) []) (ho : oo.IsDictOf (intKind lw.row.prog w) []) (hl : ol.IsDictOf (intKind lw.row.prog w) []) :
    CheckR w news (.ref x) ((b, ob) :: (o, oo) :: (l, ol) :: ([(x, instObj 703 dx), (dx, dictOf [fld w.params "bound" t1 (.ref b), fld w.params "open" t2 (.ref o), fld w.params "labels" t3 (.ref l)] n)] ++ news)) := by
  have a1 := allLt_all lb
  have a2 := allLt_all lo
  have a3 := allLt_all ll
  have off : ∀ {c : Addr} {e : Obj}, (∀ p ∈ (x, instObj 703 dx) :: (dx, e) :: news, p.1 < c) → ∀ p ∈ [(x, instObj 703 dx), (dx, dictOf [fld w.params "bound" t1 (.ref b), fld w.params "open" t2 (.ref o), fld w.params "labels" t3 (.ref l)] n)] ++ news, p.1 ≠ c := fun {c e} h =>
    List.forall_mem_cons.mpr ⟨Nat.ne_of_lt (h _ (.head _)), List.forall_mem_cons.mpr ⟨Nat.ne_of_lt (h (dx, e) (.tail _ (.head _))), fun p hp => Nat.ne_of_lt (h p (.tail _ (.tail _ hp)))⟩⟩
  exact ⟨x, b, o, l, ob, oo, ol, _, rfl, rfl, ⟨⟨dx, t1, t2, t3, n, .head _, .tail _ (.head _)⟩, Nat.ne_of_lt (a2 _ (.head _)), Nat.ne_of_lt (a3 _ (.tail _ (.head _))), Nat.ne_of_lt (a3 _ (.head _)), off a1, off fun p hp => a2 p (.tail _ hp), off fun p hp => a3 p (.tail _ (.tail _ hp)), sb, so, sl⟩, ⟨hb, ho, hl, List.nodup_nil⟩⟩
set_option maxHeartbeats 8000000 in
theorem check_make (w : World) {news : List (Addr × Obj)} : Spec w 703 10 100 [] news (CheckR w news) NoX := by
  unfold Spec
  k_fill
  intro dp un gd cn cs a ccd cl outer A₀ base h₀ L m s Q E p loose mean mg mb B F X XP N T hk hd hu hret herr
  k_dflt (refine' call_cls ?qF7 ?qX7 ?qN7 ?hm ?hi ?hf ?_; (case qF7 => k_asm); (case qX7 => k_asm); (case qN7 => k_asm); (case hm => k_is); (case hi => k_is); (case hf => k_is); k_whole)
  intro x dx h1 F1 N1 l1 l2
  replace l1 := allLt_of l1
  k_lt2 l2
  k_sweep
  k_dflt (refine' code_def (binds := [(Str.ofString "self", .ref x)]) ?k1 ?k2 ?k3 ?k4 ?k5 ?kA ?kF ?kK ?k6 ?k7 ?k8 ?k9 ?kB ?_ ?c2 ?c3 ?c4 ?c5; k_extra "m:enter")
  k_steps
  refine hret _ _ _ _ (by k_asm) (newsSub (by k_asm) perm5) (check_of (by with_reducible assumption) (by with_reducible assumption) (by with_reducible assumption) (by assumption) (by assumption) (by assumption) (by assumption) (by assumption) (by assumption))
set_option maxHeartbeats 4000000 in
theorem check_core_spec (w : World) {R news : List (Addr × Obj)} {x : Addr} {T : Nd} (hT : NodeIn w.params R (.ref x) T) (hs : ∀ p ∈ R, p ∈ news) (hwt : wt T ≤ 20000) :
    SpecE w 742 200 2000 [.ref x] news (fun r news' => r = .none ∧ news' = news ∧ chk primOk (dpt T) T true ([], []) ≠ none) (chk primOk (dpt T) T true ([], []) = none) news := by
  unfold SpecE
  k_fill
  intro dp un gd cn cs a ccd cl outer A₀ base h₀ L m s Q E p loose mean mg mb B F X XP N T' hk hd hu hret herr
  refine wpAny_call ?_
  k_dflt (refine' code_def (binds := [(Str.ofString "node", .ref x)]) ?k1 ?k2 ?k3 ?k4 ?k5 ?kA ?kF ?kK ?k6 ?k7 ?k8 ?k9 ?kB ?_ ?c2 ?c3 ?c4 ?c5; k_extra "m:enter")
  k_with "w:call ref" => (k_here; (with_reducible show wpAny _ _ (call (Value.ref 703) []) _ _ _); k_dflt (refine' Spec.use (check_make _) ?qB7 ?qF7 ?qX7 ?qXP7 ?qN7 ?qT7 ?qK7 ?qhd7 ?qhu7 ?_ ?qx7; (case qN7 => k_asm); (k_extra "m:use"); (case qx7 => k_extra "m:noX")); (rintro _ nw' h' tk' F' N' ⟨ck, b, o, l, ob, oo, ol, X9, e1, e2, hR9, C9⟩); subst e1; subst nw'; (try k_sweep); (try dsimp only))
  k_with "w:call ref" => (k_here; (with_reducible show wpAny _ _ (call (Value.ref 735) [Value.ref _, Value.ref _]) _ _ _); k_dflt (refine' SpecE.use (look_through_spec (B0 := 90000) _ hT ?bs9 (Nat.le_refl _) hwt hR9 C9 ?bz9 ?by9 ?bw9) ?qB7 ?qF7 ?qX7 ?qXP7 ?qN7 ?qT7 ?qK7 ?qhd7 ?qhu7 ?_ ?_; (case qN7 => k_asm); (k_extra "m:use"); (case bs9 => exact fun p hp => List.mem_append_right _ (hs p hp)); (case bz9 => (show 0 + 2 * wt T ≤ 90000; omega)); (case by9 => (show 0 + 2 * wt T ≤ 90000; omega)); (case bw9 => exact Nat.le_refl _)); all_goals first | (rintro _ nw' h' tk' F' N' ⟨e1, ob', oo', ol', s', e2, C', hl1', hl2', hc'⟩; subst e1; subst nw'; (try k_sweep); (try dsimp only)) | (intro hX' ee' gg' h' tk' FF' R' U'; (try dsimp only at R' U' ⊢)))
  k_steps
  all_goals first
    | (refine hret _ _ _ _ (by k_asm) (newsSub (by k_asm) (by k_extra "m:subX")) ⟨rfl, rfl, by rw [hc']; exact fun q => nomatch q⟩)
    | (exact herr hX' _ _ _ _ FG' (RaisedSN.sub R' (by k_extra "m:subX")) U')
/-! check_program: the same over a list of nodes -/
noncomputable def progF (d : Nat) : Nd → St2 → Option St2 := fun u s => chk primOk d u true s
noncomputable def progJ (w : World) (ck b o l : Addr) (d : Nat) (ts : List Nd) (Zr : List (Addr × Obj)) (i : Nat) (m₁ : Str → Option Value) (news₁ : List (Addr × Obj)) : Prop :=
  m₁ (Str.ofString "check") = some (.ref ck) ∧ ∃ ob oo ol s', news₁ = (b, ob) :: (o, oo) :: (l, ol) :: Zr ∧ CkO w ob oo ol s' ∧ s'.1.length ≤ 40000 * i ∧ s'.2.length ≤ 40000 * i ∧ runs (progF d) (ts.take i) ([], []) = some s'
theorem progJ.mem {w : World} {ck b o l D : Addr} {od : Obj} {d i : Nat} {ts : List Nd} {Zr news₁ : List (Addr × Obj)} {m₁ : Str → Option Value} (h : progJ w ck b o l d ts Zr i m₁ news₁) (hm : (D, od) ∈ Zr) : (D, od) ∈ news₁ := by
  obtain ⟨_, _, _, _, _, rfl, _⟩ := h
  exact .tail _ (.tail _ (.tail _ hm))
theorem prog_take {d i : Nat} {ts : List Nd} {T : Nd} {s s' : St2} (hT : ts[i]? = some T) (h : runs (progF d) (ts.take i) s = some s') : runs (progF d) (ts.take (i + 1)) s = progF d T s' := by
  rw [List.take_add_one, hT, Option.toList_some, runs_append, h]
  show (progF d T s').bind (runs (progF d) []) = _
  cases progF d T s' <;> rfl
theorem prog_bad {d i : Nat} {ts : List Nd} {T : Nd} {s s' : St2} (hT : ts[i]? = some T) (h : runs (progF d) (ts.take i) s = some s') (hb : chk primOk d T true s' = none) : runs (progF d) ts s = none := by
  have e := prog_take hT h
  rw [show progF d T s' = none from hb] at e
  rw [← List.take_append_drop (i + 1) ts, runs_append, e]
  rfl
theorem prog_end {w : World} {h₀ h' : Heap} {L I ck b o l : Addr} {ob oo ol ob' oo' ol' oI : Obj} {Zr : List (Addr × Obj)} {d i tk' : Nat} {ts : List Nd} {T : Nd} {m' : Str → Option Value} {s₁ : Shared} {s s' : St2} (F : Fr h₀ L h' m') (N : News h₀ L h' ((b, ob') :: (o, oo') :: (l, ol') :: (I, oI) :: Zr)) (offI : ∀ p ∈ (b, ob) :: (o, oo) :: (l, ol) :: Zr, p.1 ≠ I)
    (hc : m' (Str.ofString "check") = some (.ref ck)) (C : CkO w ob' oo' ol' s') (h1 : s'.1.length ≤ 40000 * i + 40000) (h2 : s'.2.length ≤ 40000 * i + 40000) (hT : ts[i]? = some T) (jr : runs (progF d) (ts.take i) ([], []) = some s) (hs : chk primOk d T true s = some s') :
    VEnd h₀ L I oI (progJ w ck b o l d ts Zr (i + 1)) s₁ { s₁ with heap := h', toks := tk' } := by
  refine VEnd.intro F N (nx := (b, ob') :: (o, oo') :: (l, ol') :: Zr) ?_ ?_ ⟨hc, ob', oo', ol', s', rfl, C, by omega, by omega, by rw [prog_take hT jr]; exact hs⟩
  · exact List.forall_mem_cons.mpr ⟨.tail _ (.tail _ (.tail _ (.head _))), List.forall_mem_cons.mpr ⟨.head _, List.forall_mem_cons.mpr ⟨.tail _ (.head _), List.forall_mem_cons.mpr ⟨.tail _ (.tail _ (.head _)), fun p hp => .tail _ (.tail _ (.tail _ (.tail _ hp)))⟩⟩⟩⟩
  · exact List.forall_mem_cons.mpr ⟨offI (b, ob) (.head _), List.forall_mem_cons.mpr ⟨offI (o, oo) (.tail _ (.head _)), List.forall_mem_cons.mpr ⟨offI (l, ol) (.tail _ (.tail _ (.head _))), fun p hp => offI p (.tail _ (.tail _ (.tail _ hp)))⟩⟩⟩
set_option maxHeartbeats 4000000 in
theorem check_program_spec (w : World) {R news : List (Addr × Obj)} {lk : Addr} {vs : List Value} {ts : List Nd} {n d : Nat} (hlk : (lk, listOf (List.toArray vs) n) ∈ news) (hNs : NodesIn w.params R vs ts) (hs : ∀ p ∈ R, p ∈ news) (hdp : ∀ t ∈ ts, dpt t ≤ d) (hwt : ∀ t ∈ ts, wt t ≤ 20000) (hlen : ts.length ≤ 2) :
    SpecE w 749 220 2500 [.ref lk] news (fun r news' => r = .none ∧ news' = news ∧ runs (progF d) ts ([], []) ≠ none) (runs (progF d) ts ([], []) = none) news := by
  unfold SpecE
  k_fill
  intro dp un gd cn cs a ccd cl outer A₀ base h₀ L m s Q E p loose mean mg mb B F X XP N T' hk hd hu hret herr
  have hvl := hNs.1
  refine wpAny_call ?_
  k_dflt (refine' code_def (binds := [(Str.ofString "nodes", .ref lk)]) ?k1 ?k2 ?k3 ?k4 ?k5 ?kA ?kF ?kK ?k6 ?k7 ?k8 ?k9 ?kB ?_ ?c2 ?c3 ?c4 ?c5; k_extra "m:enter")
  have kdF : KdF (fScope (stAt 44)) := by (unfold KdF; kernel_rfl!)
  have kd0 : KdL (fScope (stAt 44)) (Str.ofString "nodes") := ⟨by kernel_rfl!, by kernel_rfl!⟩
  have kd1 : KdL (fScope (stAt 44)) (Str.ofString "check") := ⟨by kernel_rfl!, by kernel_rfl!⟩
  have kd2 : KdL (fScope (stAt 44)) (Str.ofString "node") := ⟨by kernel_rfl!, by kernel_rfl!⟩
  have kd3 : KdG (fScope (stAt 44)) (Str.ofString "Check") := ⟨by kernel_rfl!, by kernel_rfl!⟩
  have kd4 : KdG (fScope (stAt 44)) (Str.ofString "look_through") := ⟨by kernel_rfl!, by kernel_rfl!⟩
  k_with "w:call ref" => (k_here; (with_reducible show wpAny _ _ (call (Value.ref 703) []) _ _ _); k_dflt (refine' Spec.use (check_make _) ?qB7 ?qF7 ?qX7 ?qXP7 ?qN7 ?qT7 ?qK7 ?qhd7 ?qhu7 ?_ ?qx7; (case qN7 => k_asm); (k_extra "m:use"); (case qx7 => k_extra "m:noX")); (rintro _ nw' h' tk' F' N' ⟨ck, b, o, l, ob, oo, ol, X9, e1, e2, hR9, C9⟩); subst e1; subst nw'; (try k_sweep); (try dsimp only))
  k_with "w:exec For" => (k_here; (with_reducible show wpAny _ _ (exec (Stmt.For _ (Expr.Name _ _) _ [] _) _) _ _ _); (rename Fr _ _ _ _ => lF'); (with_unfolding_all refine' For_invVF lF' ?k1 ?k2 ?_; (case k1 => exact rfl); (case k2 => exact rfl)))
  k_with "w:pyIter ref" => (k_dflt (refine' u_iterV (vs := vs) (nn := n) (progJ w ck b o l d ts (X9 ++ news)) ?vh9 ?vl9 ?vF9 ?vN9 ?vJ9 ?vj9 ?vt9 ?vd9; (case vh9 => rfl); (case vF9 => k_asm); (case vN9 => k_asm); (case vl9 => exact List.Mem.tail _ (List.Mem.tail _ (List.Mem.tail _ (List.mem_append_right _ hlk)))); (case vJ9 => exact fun _ _ _ h => h.mem (List.mem_append_right _ hlk)); (case vj9 => exact ⟨rfl, ob, oo, ol, ([], []), rfl, C9, Nat.le_refl _, Nat.le_refl _, rfl⟩)); all_goals first | (intro I oI i v m₁ news₁ h tk hget hJ₁ offI F₁ N₁; obtain ⟨jc, ob1, oo1, ol1, s1, q9, C1, jb1, jb2, jr⟩ := hJ₁; subst news₁; have hil : i < ts.length := (by rw [← hvl]; exact (List.getElem?_eq_some_iff.mp hget).1); have hTi : ts[i]? = some ts[i] := List.getElem?_eq_getElem hil; have hnd := hNs.2 i v _ hget hTi; have hmT := List.mem_of_getElem? hTi; have hwT := hwt _ hmT; obtain ⟨xv, Cv, dv, e9, hx9⟩ := hnd.ref; subst e9; clear hx9; k_sweep; dsimp only [envOf] at F₁ N₁) | (intro m₁ news₁ h tk hJ₁ F₁ N₁; obtain ⟨jc, ob1, oo1, ol1, s1, q9, C1, jb1, jb2, jr⟩ := hJ₁; subst news₁; k_sweep; dsimp only [envOf] at F₁ N₁))
  k_with "w:call ref" => (k_here; (with_reducible show wpAny _ _ (call (Value.ref 735) [Value.ref _, Value.ref _]) _ _ _); k_dflt (refine' SpecE.use (look_through_spec (B0 := 40000 * i + 40000) (Zr := (I, oI) :: (X9 ++ news)) _ hnd ?bs9 (hdp _ hmT) hwT (hR9.more [(I, oI)] ?bm1 ?bm2 ?bm3) C1 ?bz9 ?by9 ?bw9) ?qB7 ?qF7 ?qX7 ?qXP7 (newsSub ?qN7 ?qs7) ?qT7 ?qK7 ?qhd7 ?qhu7 ?_ ?_; (case qN7 => k_asm); (k_extra "m:use"); (case bs9 => exact fun p hp => List.Mem.tail _ (List.mem_append_right _ (hs p hp))); (case bm1 => exact fun p hp => by rw [List.mem_singleton.mp hp]; exact fun q => offI _ (List.Mem.head _) q.symm); (case bm2 => exact fun p hp => by rw [List.mem_singleton.mp hp]; exact fun q => offI _ (List.Mem.tail _ (List.Mem.head _)) q.symm); (case bm3 => exact fun p hp => by rw [List.mem_singleton.mp hp]; exact fun q => offI _ (List.Mem.tail _ (List.Mem.tail _ (List.Mem.head _))) q.symm); (case bz9 => omega); (case by9 => omega); (case bw9 => omega); (case qs7 => k_extra "m:subX")); all_goals first | (rintro _ nw' h' tk' F' N' ⟨e1, ob', oo', ol', s', e2, C', hl1', hl2', hc'⟩; subst e1; subst nw'; (try k_sweep); (try dsimp only)) | (intro hX' ee' gg' h' tk' FF' R' U'; (try dsimp only at R' U' ⊢)))
  k_steps
  all_goals first
    | (refine hret _ _ _ _ (by k_asm) (newsSub (by k_asm) (by k_extra "m:subX")) ⟨rfl, rfl, ?_⟩; rw [hvl, List.take_length] at jr; rw [jr]; exact fun q => nomatch q)
    | (exact herr (prog_bad hTi jr hX') _ _ _ _ FG' (RaisedSN.sub R' (by k_extra "m:subX")) U')
    | (refine' prog_end ?wF9 ?wN9 offI ?wc9 C' hl1' hl2' hTi jr hc'; (case wF9 => k_asm); (case wN9 => k_asm); (case wc9 => (show m₁ (Str.ofString "check") = _; exact jc)))
/-! a frame with a catch, called from a frame with cells -/
section
variable {prog : Program} {w : World} {A₀ A : Around} {s : Shared} {base h₀ : Heap} {outer : List Env} {L a : Addr} {m : Str → Option Value} {env : Env} {news : List (Addr × Obj)} {K : Frag} {p : Program} {loose : List Str} {mean : ExcName → Option Value} {mg mb : Str → Option Value}
    {R : Result → Shared → Prop} {name qual : Str} {params : Arguments} {body : List Stmt} {scope : Scope} {dV kV doc pm cdv ct oc : Value} {an od : Option Addr} {osl : Array (Option Value)} {f : Addr} {args : Args} {binds : List (Str × Value)}
theorem enterX (B : Below A₀ base outer h₀) (F : Fr h₀ L s.heap m) (N : News h₀ L s.heap news) (hA : A.frames = some (env :: outer)) (hf : env.frame = some L) (hke : env.scope.kind = .function) :
    ∃ oL es ep, (hideAll s.heap (news.map (·.1))).get? L = some oL ∧ oL.data = .dict es ep ∧ (∀ (sl : Array (Option Value)) h', h'.get? L = some { oL with slots := sl } → Heap.Ns h' L m) ∧
      h₀.StaysIn (hideAll s.heap (news.map (·.1))) ∧ Fr h₀ L (hideAll s.heap (news.map (·.1))) m ∧ Below A base (env :: outer) (hideAll s.heap (news.map (·.1))) := by
  obtain ⟨FG, BG, st, _⟩ := groundX (R := fun _ _ => True) B F N hA hf hke
  obtain ⟨oL, es, ep, hL, hLd, hLk, hLf⟩ := id FG.ns
  exact ⟨oL, es, ep, hL, hLd, fun sl h' e => ⟨_, es, ep, e, hLd, hLk, hLf⟩, st, FG, BG⟩
theorem code_defX0 (B : Below A₀ base [] h₀) (F : Fr h₀ L s.heap m) (X₀ : K.In h₀) (N : News h₀ L s.heap news) (T : Top p loose mean mg mb h₀) (hA : A.frames = some [env]) (hf : env.frame = some L) (hke : env.scope.kind = .function)
    (ho : K.lookup f = some ⟨oc, od, .func (fnOf name qual params body scope dV kV doc pm an cdv ct), osl⟩) (hcd : codeIn K cdv qual = true) (hroom : A.depth < recursionLimit)
    (hbind : BindsTo s (fnOf name qual params body scope dV kV doc pm an cdv ct) args binds) (hloc : ∀ y ∈ binds, scope.names.lookup y.1 = some .local)
    (h : ∀ g L' h₁, Fr h₀ L g m → Fr g L' h₁ (fun y => binds.reverse.lookup y) → News g L' h₁ news → Below A base [env] g → K.In g → Top p loose mean mg mb g → KtsDicts ([env].filterMap (·.frame)) g →
      wpAny (model prog w) (A.deeper (envOf qual scope L' f cdv)) (execs body (envOf qual scope L' f cdv))
        (fun fl s' => LeaveS0 ([env].filterMap (·.frame)) h₀ L m g R (match fl with | .ret v => v | _ => .none) s')
        (fun e s' => wpAny (model prog w) (A.deeper (envOf qual scope L' f cdv)) (leaving (envOf qual scope L' f cdv) e) (fun _ s'' => R (.error e) s'') (fun e' s'' => R (.error e') s'') s')
        { s with heap := h₁, toks := s.toks + binds.length })
    (hco : scope.isCoroutine = false) (hgen : scope.isGenerator = false) (hk : scope.kind = .function)
    (hcell : ∀ x ∈ scope.names, x.2 ≠ .cell) : codeAny (model prog w) A (.call (.ref f) args) R s := by
  have X := X₀.keeps F.keep
  refine codeAny_call_def (fd := fnOf name qual params body scope dV kV doc pm an cdv ct) (body := body) (binds := binds) hroom (X _ _ ho) rfl (T.nolimit.keeps F.keep) (codeRec_of X hcd) rfl hbind hcell hloc (fun h₁ hns hk₁ => ?_) hco hgen hk
  obtain ⟨oL, es, ep, hLg, hLd, hNs, st, FG, B₂⟩ := enterX B F N hA hf hke
  have one : ∀ {b : Addr}, b ∈ [env].filterMap (·.frame) → b = L := fun {b} hb => by
    rw [List.filterMap_cons, hf] at hb
    simpa using hb
  refine wpAny_mono (h _ s.heap.objs.size h₁ FG ⟨hns, fun b o e => hk₁ b o (of_hideAll _ e), Nat.le_of_eq (hideAll_size _ _)⟩
    (fun p hp => ⟨hk₁ _ _ (N p hp).1, Nat.ne_of_lt (Heap.lt_size (N p hp).1), hideAll_none _ (List.mem_map_of_mem hp)⟩) B₂ (X₀.keeps st) (T.keeps st) (fun b hb => by
      rw [one hb]; exact ⟨oL, es, ep, hLg, hLd⟩)) (fun fl s' hl => ?_) fun _ _ y => y
  obtain ⟨g', L', m', news', T', F', N', k⟩ := hl
  have nL₀ : h₀.get? L = none := kts_self F
  obtain ⟨sl, hs⟩ := T'.up hLg
  refine k ⟨hNs sl _ (F'.keep _ _ hs), fun b o e => F'.keep b o (T'.other b o (st b o e) (fun q => by
    rw [one q, nL₀] at e
    cases e)), F.above⟩ fun p hp => ⟨(N' p hp).1, fun q => ?_, ?_⟩
  · have := (N' p hp).2.2; rw [q, hs] at this; cases this
  · cases q : h₀.get? p.1 with
    | none => rfl
    | some o =>
      obtain ⟨sl', hs'⟩ := T'.up (st _ _ q)
      have := (N' p hp).2.2
      rw [hs'] at this
      cases this
end
/-! _law_is_let_through: a try -/
/-- as Spec, for a function with a catch: no frame stands under the caller's -/
noncomputable def SpecT (w : World) (f : Addr) (dm um : Nat) (vs : List Value) (news : List (Addr × Obj)) (R : Value → Prop) : Prop :=
  ∀ (dp un : Nat) (gd : Option (List Code)) (cn : Str) (cs : Scope) (a : Addr) (ccd : Value) (cl : List (Str × Addr)) (A₀ : Around) (base h₀ : Heap) (L : Addr) (m : Str → Option Value) (s : Shared) (Q E : Value → Shared → Prop) (p : Program) (loose : List Str) (mean : ExcName → Option Value) (mg mb : Str → Option Value),
  Below A₀ base [] h₀ → Fr h₀ L s.heap m → (KK w.params).In h₀ → Prims h₀ → News h₀ L s.heap news → Top p loose mean mg mb h₀ → (KK w.params).In base → Top p loose mean mg mb base → cs.kind = .function → dp + dm < recursionLimit → un + um < cLine →
    (∀ r h' tk', Fr h₀ L h' m → News h₀ L h' news → R r → Q r { s with heap := h', toks := tk' }) →
    wpAny (model lw.row.prog w) (ktrTop dp un gd cn cs L a ccd cl []) (call (.ref f) vs) Q E s
set_option maxHeartbeats 4000000 in
theorem let_core (w : World) {v : Value} {news : List (Addr × Obj)} {P X9 : Prop} {dm um : Nat} (S9 : SpecE w 742 dm um [v] news (fun r news' => r = .none ∧ news' = news ∧ P) X9 news) :
    SpecT w 823 (dm + 20) (um + 200) [.ref 742, v] news (fun r => (r = .bool true ∧ P) ∨ (r = .bool false ∧ X9)) := by
  unfold SpecT
  k_fill
  intro dp un gd cn cs a ccd cl A₀ base h₀ L m s Q E p loose mean mg mb B F X XP N T XB TB hk hd hu hret
  refine wpAny_call ?_
  k_dflt (refine' code_defX0 (binds := [(Str.ofString "_law_check", .ref 742), (Str.ofString "_law_thing", v)]) ?k1 ?k2 ?k3 ?k4 ?k5 ?kA ?kF ?kK ?k6 ?k7 ?k8 ?k9 ?kB ?_ ?c2 ?c3 ?c4 ?c5; (case kA => exact rfl); (case kF => exact rfl); (case kK => assumption); (case k1 => k_asm); (case k2 => k_asm); (case k3 => k_asm); (case k4 => k_asm); (case k5 => k_asm); (case k6 => k_is); (case k7 => k_is); (case k8 => ktr_room); (case k9 => exact BindsTo.of_eq rfl); (case c5 => decide); (case kB => exact locs rfl); (case c2 => exact rfl); (case c3 => exact rfl); (case c4 => exact rfl); (k_whole); intro g' L' h' FG' F' N' B' X' T' D'; (have XP' := Prims.keeps (by assumption) (Fr.keep FG')); (try dsimp only); (try k_fold))
  k_with "w:call ref" => (k_here; (with_reducible show wpAny _ _ (call (Value.ref 742) [v]) _ _ _); k_dflt (refine' SpecE.use S9 ?qB7 ?qF7 ?qX7 ?qXP7 ?qN7 ?qT7 ?qK7 ?qhd7 ?qhu7 ?_ ?_; (case qN7 => k_asm); (k_extra "m:use")); all_goals first | (rintro _ nw' h' tk' F' N' ⟨e1, e2, hP9⟩; subst e1; subst nw'; (try k_sweep); (try dsimp only)) | (intro hX' ee' gg' h' tk' FF' R' U'; (try dsimp only at R' U' ⊢)))
  k_steps
  · exact hret _ _ _ (by assumption) (by assumption) (.inl ⟨rfl, hP9⟩)
  · exact hret _ _ _ (by assumption) (by assumption) (.inr ⟨rfl, hX'⟩)
set_option maxHeartbeats 4000000 in
theorem let_prog (w : World) {v : Value} {news : List (Addr × Obj)} {P X9 : Prop} {dm um : Nat} (S9 : SpecE w 749 dm um [v] news (fun r news' => r = .none ∧ news' = news ∧ P) X9 news) :
    SpecT w 823 (dm + 20) (um + 200) [.ref 749, v] news (fun r => (r = .bool true ∧ P) ∨ (r = .bool false ∧ X9)) := by
  unfold SpecT
  k_fill
  intro dp un gd cn cs a ccd cl A₀ base h₀ L m s Q E p loose mean mg mb B F X XP N T XB TB hk hd hu hret
  refine wpAny_call ?_
  k_dflt (refine' code_defX0 (binds := [(Str.ofString "_law_check", .ref 749), (Str.ofString "_law_thing", v)]) ?k1 ?k2 ?k3 ?k4 ?k5 ?kA ?kF ?kK ?k6 ?k7 ?k8 ?k9 ?kB ?_ ?c2 ?c3 ?c4 ?c5; (case kA => exact rfl); (case kF => exact rfl); (case kK => assumption); (case k1 => k_asm); (case k2 => k_asm); (case k3 => k_asm); (case k4 => k_asm); (case k5 => k_asm); (case k6 => k_is); (case k7 => k_is); (case k8 => ktr_room); (case k9 => exact BindsTo.of_eq rfl); (case c5 => decide); (case kB => exact locs rfl); (case c2 => exact rfl); (case c3 => exact rfl); (case c4 => exact rfl); (k_whole); intro g' L' h' FG' F' N' B' X' T' D'; (have XP' := Prims.keeps (by assumption) (Fr.keep FG')); (try dsimp only); (try k_fold))
  k_with "w:call ref" => (k_here; (with_reducible show wpAny _ _ (call (Value.ref 749) [v]) _ _ _); k_dflt (refine' SpecE.use S9 ?qB7 ?qF7 ?qX7 ?qXP7 ?qN7 ?qT7 ?qK7 ?qhd7 ?qhu7 ?_ ?_; (case qN7 => k_asm); (k_extra "m:use")); all_goals first | (rintro _ nw' h' tk' F' N' ⟨e1, e2, hP9⟩; subst e1; subst nw'; (try k_sweep); (try dsimp only)) | (intro hX' ee' gg' h' tk' FF' R' U'; (try dsimp only at R' U' ⊢)))
  k_steps
  · exact hret _ _ _ (by assumption) (by assumption) (.inl ⟨rfl, hP9⟩)
  · exact hret _ _ _ (by assumption) (by assumption) (.inr ⟨rfl, hX'⟩)
theorem setup_45 : True := by
  k_with_none
  k_with "w:subscriptTail Name Constant ref int" => (k_here; (with_reducible show wpAny _ _ (subscriptTail _ _ (Value.ref _) (Value.int _ _)) _ _ _); (with_unfolding_all refine' item_at ?k1 ?k2 ?k3 ?k4 ?k5 ?_ ?k6; (case k1 => k_asm); (case k2 => k_mem); (case k3 => decide); (case k4 => decide); (case k5 => rfl); (case k6 => with_unfolding_all rfl); k_whole))
  k_with "w:call builtin:list.pop" => (k_here; (with_reducible show wpAny _ _ (call (Value.builtin _) [Value.ref _, Value.int 0 _]) _ _ _); k_dflt (refine' pop0 ?qF7 ?qN7 ?qU7 ?qz7 ?_; (case qF7 => k_asm); (case qN7 => k_asm); (case qU7 => k_upd); (case qz7 => (have hLen9 := IntsAre.length (by assumption); simp only [List.length_cons] at *; omega)); k_whole); intro h' F' N'; (try k_sweep))
  k_with "m:enter" => ((case kA => exact rfl); (case kF => exact rfl); (case kK => assumption); (case k1 => k_asm); (case k2 => k_asm); (case k3 => k_asm); (case k4 => k_asm); (case k5 => k_asm); (case k6 => k_is); (case k7 => k_is); (case k8 => k_extra "m:room0"); (case k9 => exact BindsTo.of_eq rfl); (case c5 => decide); (case kB => exact locs rfl); (case c2 => exact rfl); (case c3 => exact rfl); (case c4 => exact rfl); k_whole; intro g' L' h' FG' F' N' B' X' T'; (have XP' := Prims.keeps (by assumption) (Fr.keep FG')); (try dsimp only); (try k_fold); (refine' enterQ ?_); intro Q9 hQ9; (show let A9 := _; wpAny _ A9 _ _ _ _); intro A9)
  k_with "m:pick" => first | exact Pick.head | (apply Pick.tail; k_extra "m:pick") | (apply Pick.app; k_extra "m:pick")
  k_with "m:use" => ((case qB7 => k_asm); (case qF7 => k_asm); (case qX7 => k_asm); (case qXP7 => k_asm); (case qT7 => k_asm); (case qK7 => first | exact rfl | assumption); (case qhd7 => k_extra "m:room"); (case qhu7 => k_extra "m:units"))
  k_with "m:noX" => exact fun _ _ _ _ _ _ h => False.elim h
  k_with "w:call builtin:len" => (k_here; (with_reducible show wpAny _ _ (call (Value.builtin "len") [Value.ref _]) _ _ _); k_dflt (refine' kst_len ?k1 ?k2 ?k3 ?k4 ?_; (case k1 => k_asm); (case k2 => k_mem); (case k3 => exact IntsAre.length (by assumption)); (case k4 => omega); k_whole))
  k_with "w:subscriptTail Name Call ref int" => (k_here; (with_reducible show wpAny _ _ (subscriptTail _ _ (Value.ref _) (Value.int _ _)) _ _ _); k_dflt (refine' ksa_sub ?k1 ?k2 ?k3 ?k4 ?k5 ?k6 ?_ ?k7; (case k1 => k_asm); (case k2 => k_mem); (case k3 => with_reducible assumption); (case k4 => omega); (case k5 => omega); (case k6 => omega); (case k7 => with_unfolding_all rfl); k_whole); intro _)
  k_with "w:subscriptTail Name Name ref int" => (k_here; (with_reducible show wpAny _ _ (subscriptTail _ _ (Value.ref _) (Value.int _ _)) _ _ _); k_dflt (refine' ksa_sub ?k1 ?k2 ?k3 ?k4 ?k5 ?k6 ?_ ?k7; (case k1 => k_asm); (case k2 => k_mem); (case k3 => with_reducible assumption); (case k4 => omega); (case k5 => omega); (case k6 => omega); (case k7 => with_unfolding_all rfl); k_whole); intro _)
  k_with "m:in" => first | assumption | exact List.Mem.head _ | (apply List.mem_cons_of_mem; k_extra "m:in") | (apply List.mem_append_right; k_extra "m:in") | (apply List.mem_append_left; k_extra "m:in")
  k_with "m:sub" => first | exact List.forall_mem_nil _ | exact fun _ h => h | (refine' List.forall_mem_cons.mpr ⟨?a9, ?b9⟩; (case a9 => first | k_mem | k_extra "m:in"); (case b9 => k_extra "m:sub")) | (refine' List.forall_mem_append.mpr ⟨?a9, ?b9⟩; (case a9 => k_extra "m:sub"); (case b9 => k_extra "m:sub")) | (intro p9 h9; k_extra "m:in")
  k_with "m:mid" => first | (apply Mid.cons; k_extra "m:mid") | exact Mid.base
  k_with "m:enterC" => ((case kA => exact rfl); (case kF => exact rfl); (case kK => assumption); (case k1 => k_asm); (case k2 => k_asm); (case k3 => k_asm); (case k4 => k_asm); (case k5 => k_asm); (case k6 => k_is); (case k7 => k_is); (case k8 => k_extra "m:room0"); (case k9 => exact BindsTo.of_eq rfl); (case kB => exact rfl); (case kD => decide +kernel); (case c2 => exact rfl); (case c3 => exact rfl); (case c4 => exact rfl); k_whole; intro g' L' h' tk' cells' FG' F' N' Y' B' X' T' l1; (have lC' : CellsOff _ _ := l1); clear l1; (have XP' := Prims.keeps (by assumption) (Fr.keep FG')); (k_extra "m:cells"); (try simp only [List.cons_append, List.nil_append] at N'); (try dsimp only); (try k_fold); (refine' enterQ ?_); intro Q9 hQ9; (show let A9 := _; wpAny _ A9 _ _ _ _); intro A9)
  k_with "m:X" => (refine' mem_fresh ?m9 ?a9 ?b9 ?c9; (case m9 => k_mem); (case a9 => k_ne); (case b9 => k_ne); (case c9 => k_all))
  k_with "m:Xs" => (refine' sub_fresh ?m9 ?a9; (case m9 => k_extra "m:sub"); (case a9 => (refine' Above2.sub ?h8 ?s8; (case h8 => with_reducible assumption); (case s8 => k_extra "m:sub"))))
  k_with "m:h" => with_reducible assumption
  k_with "m:ne" => first | with_reducible assumption | (refine' Ne.symm ?s9; (case s9 => with_reducible assumption)) | (refine' AllLt.neL ?h9 ?m9; (case h9 => k_extra "m:h"); (case m9 => k_mem)) | (refine' AllLt.neR ?h9 ?m9; (case h9 => k_extra "m:h"); (case m9 => k_mem)) | (refine' NeA.out ?h9; (case h9 => k_extra "m:h")) | (refine' NeA.sym ?h9; (case h9 => k_extra "m:h")) | (refine' Off1.neL ?h9 ?m9; (case h9 => k_extra "m:h"); (case m9 => k_mem)) | (refine' Off1.neR ?h9 ?m9; (case h9 => k_extra "m:h"); (case m9 => k_mem)) | (refine' CellsOff.neL ?h9 ?m9 ?b9; (case h9 => k_extra "m:h"); (case m9 => k_mem); (case b9 => k_extra "m:up")) | (refine' CellsOff.neR ?h9 ?m9 ?b9; (case h9 => k_extra "m:h"); (case m9 => k_mem); (case b9 => k_extra "m:up")) | exact up12 | exact up12.symm | exact up13 | exact up13.symm | exact up14 | exact up14.symm | exact up15 | exact up15.symm | omega
  k_with "m:all" => first | with_reducible assumption | (refine' AllLt.neS ?h9 ?s9; (case h9 => k_extra "m:h"); (case s9 => k_extra "m:sub")) | (refine' Off1.neS ?h9 ?s9; (case h9 => k_extra "m:h"); (case s9 => k_extra "m:sub")) | (refine' Above2.ne1 ?h9; (case h9 => k_extra "m:h")) | (refine' Above2.ne2 ?h9; (case h9 => k_extra "m:h")) | (refine' Above2.ne ?h9 ?m9; (case h9 => k_extra "m:h"); (case m9 => k_mem)) | (refine' CellsOff.ne ?h9 ?b9 ?s9; (case h9 => k_extra "m:h"); (case b9 => k_extra "m:up"); (case s9 => k_extra "m:sub")) | (refine' ne_of_below ?h9; (case h9 => k_extra "m:h"))
  k_with "w:FinE" => ((unfold LCg.FinE); intro D' h' tk' F' N' o1'; (try simp only [List.nil_append, List.cons_append] at N'); (try dsimp only))
  k_with "w:FinA" => ((unfold LCg.FinA); intro D' h' tk' F' N' o1'; (try simp only [List.nil_append, List.cons_append] at N'); (try dsimp only))
  k_with "w:binaryOp Add ref ref" => (k_here; (with_reducible show wpAny _ _ (binaryOp _ (Value.ref _) (Value.ref _)) _ _ _); k_dflt (refine' add_ints_at ?F ?N ?a ?b ?i ?j ?z ?_; (case F => k_asm); (case N => k_asm); (case a => k_mem); (case b => k_mem); (case i => first | with_reducible assumption | exact .nil | exact .cons _ _ .nil); (case j => first | with_reducible assumption | exact .nil | exact .cons _ _ .nil); (case z => (simp only [List.length_append, List.length_cons, List.length_nil]; omega))); intro D' ws' h' F' N' l1 hI'; (try k_sweep))
  k_with "m:cells" => (have hY := cells_five Y'; obtain ⟨o1', o2', o3', o4', o5', hE', d1', d2', d3', d4', d5'⟩ := hY; subst hE'; clear Y'; (try replace d1' := cellSome d1' rfl); (try replace d2' := cellSome d2' rfl); (try replace d3' := cellSome d3' rfl); (try replace d4' := cellSome d4' rfl); (try replace d5' := cellSome d5' rfl))
  k_with "m:cells" => (have hY := cells_four Y'; obtain ⟨o1', o2', o3', o4', hE', d1', d2', d3', d4'⟩ := hY; subst hE'; clear Y'; (try replace d1' := cellSome d1' rfl); (try replace d2' := cellSome d2' rfl); (try replace d3' := cellSome d3' rfl); (try replace d4' := cellSome d4' rfl))
  k_with "m:cells" => (have hY := cells_two Y'; obtain ⟨o1', o2', hE', d1', d2'⟩ := hY; subst hE'; clear Y'; (try replace d1' := cellSome d1' rfl); (try replace d2' := cellSome d2' rfl))
  k_with "m:cells" => (have hY := cells_three Y'; obtain ⟨o1', o2', o3', hE', d1', d2', d3'⟩ := hY; subst hE'; clear Y'; (try replace d1' := cellSome d1' rfl); (try replace d2' := cellSome d2' rfl); (try replace d3' := cellSome d3' rfl))
  k_with "w:KAt" => ((refine' KAt.of ?kh9 ?_; (case kh9 => assumption)); (try dsimp only))
  k_with "m:room" => ktr_room
  k_with "m:units" => ktr_units
  k_with "m:room0" => first | (refine' room0 ?rh9; (case rh9 => assumption)) | ktr_room
  k_with "m:units2" => first | (refine' room1 ?rh9 ?re9; (case rh9 => assumption); (case re9 => exact rfl)) | (refine' room2 ?rh8 ?re8; (case rh8 => assumption); (case re8 => exact rfl)) | (refine' room3 ?rh7 ?re7; (case rh7 => assumption); (case re7 => exact rfl)) | (refine' room4 ?rh6 ?re6; (case rh6 => assumption); (case re6 => exact rfl)) | ((have hcL9 := cLine_is); (simp +zetaDelta only [units_in1, units_deeper, Around.mark_units, units_caller, cLine] at *); (try dsimp only [ktrTop] at *); omega)
  k_with "m:room2" => first | (refine' room1 ?rh9 ?re9; (case rh9 => assumption); (case re9 => exact rfl)) | (refine' room2 ?rh8 ?re8; (case rh8 => assumption); (case re8 => exact rfl)) | (refine' room3 ?rh7 ?re7; (case rh7 => assumption); (case re7 => exact rfl)) | (refine' room4 ?rh6 ?re6; (case rh6 => assumption); (case re6 => exact rfl)) | ((simp +zetaDelta only [depth_under_make, depth_under_kw, depth_in1, depth_deeper, depth_caller, recursionLimit] at *); (try dsimp only [ktrTop] at *); omega)
  k_with "m:up" => first | exact Nat.le_add_right _ 1 | exact Nat.le_add_right _ 2 | exact Nat.le_add_right _ 3 | exact Nat.le_add_right _ 4 | exact Nat.le_add_right _ 5 | omega
  k_with "w:call ref" => (k_here; (with_reducible show wpAny _ _ (call (Value.ref 756) [Value.ref _, Value.int _ _]) _ _ _); k_dflt (refine' Spec.use (draw_spec _ ?qI7 ?qne7 ?qm17 ?qm27 ?ql7) ?qB7 ?qF7 ?qX7 ?qXP7 (Pick.front ?qP7 ?qN7) ?qT7 ?qK7 ?qhd7 ?qhu7 ?_ ?qx7; (case qN7 => k_asm); (case qP7 => k_extra "m:pick"); (k_extra "m:use"); (case qI7 => assumption); (case qne7 => k_all); (case qm17 => first | decide | omega); (case qm27 => first | decide | omega); (case ql7 => first | assumption | (simp; done) | omega); (case qx7 => k_extra "m:noX"); (rintro _ _ h' tk' F' N' ⟨vs', ns', n', k', t', e1, e2, hI', hl', hk0, hk1⟩); subst e1 e2; (try k_sweep); (try dsimp only)))
  k_with "w:call ref" => (k_here; (with_reducible show wpAny _ _ (call (Value.ref 768) [Value.ref _, Value.ref _]) _ _ _); k_dflt (refine' Spec.use (one_spec _ ?qI7 ?qne7 ?ql7 ?qit7 ?qII7 ?qz07 ?qz17) ?qB7 ?qF7 ?qX7 ?qXP7 (Pick.front ?qP7 ?qN7) ?qT7 ?qK7 ?qhd7 ?qhu7 ?_ ?qx7; (case qN7 => k_asm); (case qP7 => k_extra "m:pick"); (case qit7 => k_mem); (k_extra "m:use"); (case qI7 => assumption); (case qII7 => assumption); (case qne7 => k_all); (case ql7 => first | assumption | (simp; done) | omega); (case qz07 => first | decide | omega); (case qz17 => first | decide | omega); (case qx7 => k_extra "m:noX"); (rintro _ _ h' tk' F' N' ⟨vs', ns', n', k', t', e1, e2, hI', hl'⟩); subst e1 e2; (try k_sweep); (try dsimp only)))
  k_with "w:call ref" => (k_here; (with_reducible show wpAny _ _ (call (Value.ref 775) [Value.ref _, Value.int _ _]) _ _ _); k_dflt (refine' Spec.use (new_spec _ ?qne7 ?qhb7 ?qha7) ?qB7 ?qF7 ?qX7 ?qXP7 (Pick.front ?qP7 ?qN7) ?qT7 ?qK7 ?qhd7 ?qhu7 ?_ ?qx7; (case qN7 => k_asm); (case qP7 => k_extra "m:pick"); (k_extra "m:use"); (case qne7 => k_all); (case qhb7 => omega); (case qha7 => first | assumption | omega); (case qx7 => k_extra "m:noX"); (rintro _ _ h' tk' F' N' ⟨a1', b1', ta1', tb1', n', k', t', e1, e2, hb', hk'⟩); subst e1 e2; (try k_sweep); (try dsimp only)))
  k_with "w:call ref" => (k_here; (with_reducible show wpAny _ _ (call (Value.ref 782) [Value.ref _, Value.ref _, Value.int _ _]) _ _ _); k_dflt (refine' Spec.use (bind_spec _ ?qI7 ?qds7 ?qne7 ?qne27 ?ql7 ?qhb7 ?qha7) ?qB7 ?qF7 ?qX7 ?qXP7 (Pick.front2 ?qP7 ?qP27 ?qN7) ?qT7 ?qK7 ?qhd7 ?qhu7 ?_ ?qx7; (case qN7 => k_asm); (case qP7 => k_extra "m:pick"); (case qP27 => k_extra "m:pick"); (k_extra "m:use"); (case qI7 => assumption); (case qds7 => assumption); (case qne7 => k_all); (case qne27 => k_all); (case ql7 => first | assumption | (simp; done) | omega); (case qhb7 => omega); (case qha7 => first | assumption | omega); (case qx7 => k_extra "m:noX"); (rintro _ _ h' tk' F' N' ⟨vs', ns', n', a1', b1', ta1', tb1', n2', k', t', e1, e2, hI', hl', hb', hk'⟩); subst e1 e2; (try k_sweep); (try dsimp only)))
  k_with "w:eval Name" => ((with_reducible show wpAny _ _ (eval (Expr.Name _ _) (envOf _ _ _ _ _)) _ _ _); first | (with_reducible refine' nm_L0 ?kZ8 ?FZ8 ?kfZ8 ?vZ8 ?_; (case kZ8 => assumption); (case FZ8 => k_asm); (case kfZ8 => assumption); (case vZ8 => k_extra "m:val"); k_whole) | (with_reducible refine' nm_K0 ?kZ7 ?FZ7 ?kfZ7 ?XZ7 ?TZ7 ?eZ7 ?_; (case kZ7 => assumption); (case FZ7 => k_asm); (case kfZ7 => assumption); (case XZ7 => k_asm); (case TZ7 => k_asm); (case eZ7 => k_is); k_whole))
  k_with "w:eval Name" => ((with_reducible show wpAny _ _ (eval (Expr.Name _ _) (envOfC _ _ _ _ _)) _ _ _); first | (with_reducible refine' nm_L ?kZ9 ?FZ9 ?kfZ9 ?vZ9 ?_; (case kZ9 => assumption); (case FZ9 => k_asm); (case kfZ9 => assumption); (case vZ9 => k_extra "m:val"); k_whole) | (with_reducible refine' nm_C ?kZ9 ?kfZ9 ?NZ9 ?mZ9 ?dZ9 ?_; (case kZ9 => assumption); (case kfZ9 => assumption); (case NZ9 => k_asm); (case mZ9 => k_mem); (case dZ9 => k_asm); k_whole) | (with_reducible refine' nm_K ?kZ9 ?FZ9 ?kfZ9 ?XZ9 ?TZ9 ?eZ9 ?_; (case kZ9 => assumption); (case FZ9 => k_asm); (case kfZ9 => assumption); (case XZ9 => k_asm); (case TZ9 => k_asm); (case eZ9 => k_is); k_whole))
  k_with "w:eval Name" => ((with_reducible show wpAny _ _ (eval (Expr.Name _ _) (compEnvC _ _ _ _)) _ _ _); k_dflt (refine' lcf_free ?NZ9 ?cZ9 ?mZ9 ?dZ9 ?_ ?aZ9 ?bZ9; (case bZ9 => rfl); (case aZ9 => rfl); (case NZ9 => k_asm); (case cZ9 => rfl); (case mZ9 => k_mem); (case dZ9 => k_asm); k_whole))
  k_with "m:val" => first | (with_reducible exact upd_hit) | ((with_reducible refine' upd_skip ?h9 ?k9); (case h9 => kernel_rfl!); (case k9 => k_extra "m:val")) | with_reducible assumption | (k_dflt exact rfl)
  k_with "m:led" => ((case qL7 => assumption); (case qN7 => assumption); (case qB7 => k_asm); (case qF7 => k_asm); (case qX7 => k_asm); (case qXP7 => k_asm); (case qT7 => k_asm); (case qK7 => first | exact rfl | assumption); (case qhd7 => k_extra "m:room"); (case qhu7 => k_extra "m:units"))
  k_with "w:newList" => (k_here; (with_reducible rename Led _ _ _ _ _ _ _ => Lx); k_dflt (refine' u_newList _ _ Lx ?qN7 ?qF7 ?qz7 ?_; (case qN7 => assumption); (case qF7 => k_asm); (case qz7 => exact Nat.le_of_ble_eq_true rfl); k_whole); intro D' h' F' N' Ld'; clear Lx; (try k_sweep); (try dsimp only))
  k_with "w:binaryOp Add ref ref" => (k_here; (with_reducible show wpAny _ _ (binaryOp _ (Value.ref _) (Value.ref _)) _ _ _); (with_reducible rename Led _ _ _ _ _ _ _ => Lx); k_dflt (refine' u_add _ _ Lx ?qN7 ?qF7 ?qa7 ?qb7 ?qz7 ?_; (case qN7 => assumption); (case qF7 => k_asm); (case qa7 => k_extra "m:intl"); (case qb7 => k_extra "m:intl"); (case qz7 => omega); k_whole); intro D' o' h' F' N' Ld' hL'; clear Lx; (try k_sweep); (try dsimp only))
  k_with "m:intl" => first | with_reducible assumption | exact intL_nil | exact intL_one | (refine' IntL.mono ?h9 ?s9 ?b9; (case h9 => with_reducible assumption); (case b9 => exact Nat.le_refl _); (case s9 => k_extra "m:lift"))
  k_with "m:lift" => first | (with_reducible exact id_sub) | (with_reducible exact left_sub) | ((with_reducible refine' tail_sub ?s9); (case s9 => k_extra "m:lift")) | ((with_reducible refine' app_sub ?s9); (case s9 => k_extra "m:lift")) | ((with_reducible refine' left_sub2 ?s9); (case s9 => k_extra "m:lift")) | with_reducible assumption
  k_with "w:call ref" => (k_here; (with_reducible show wpAny _ _ (call (Value.ref 756) [Value.ref _, Value.int _ _]) _ _ _); (with_reducible rename Led _ _ _ _ _ _ _ => Lx); k_dflt (refine' u_draw Lx ?qN7 ?qB7 ?qF7 ?qX7 ?qXP7 ?qT7 ?qK7 ?qhd7 ?qhu7 ?qm17 ?qm27 ?_; (k_extra "m:led1"); (case qm17 => first | decide | omega); (case qm27 => first | decide | omega)); intro od' k' t' h' tk' F' N' Ld' hk0 hk1; clear Lx; (try k_sweep); (try dsimp only))
  k_with "m:led1" => ((case qN7 => assumption); (case qB7 => k_asm); (case qF7 => k_asm); (case qX7 => k_asm); (case qXP7 => k_asm); (case qT7 => k_asm); (case qK7 => first | exact rfl | assumption); (case qhd7 => k_extra "m:room"); (case qhu7 => k_extra "m:units"))
  k_with "w:call ref" => (k_here; (with_reducible show wpAny _ _ (call (Value.ref 768) [Value.ref _, Value.ref _]) _ _ _); (with_reducible rename Led _ _ _ _ _ _ _ => Lx); k_dflt (refine' u_one Lx ?qN7 ?qB7 ?qF7 ?qX7 ?qXP7 ?qT7 ?qK7 ?qhd7 ?qhu7 ?qit7 ?qII7 ?qz07 ?qz17 ?_; (k_extra "m:led1"); (case qit7 => k_mem); (case qII7 => k_extra "m:ints"); (case qz07 => first | decide | omega); (case qz17 => first | decide | omega)); intro od' k' t' h' tk' F' N' Ld'; clear Lx; (try k_sweep); (try dsimp only))
  k_with "m:ints" => first | with_reducible assumption | (repeat' (first | exact IntsAre.nil | refine IntsAre.cons _ _ ?_))
  k_with "w:call ref" => (k_here; (with_reducible show wpAny _ _ (call (Value.ref 782) [Value.ref _, Value.ref _, Value.int _ _]) _ _ _); (with_reducible rename Led _ _ _ _ _ _ _ => Lx); k_dflt (refine' u_bind Lx ?qN7 ?qB7 ?qF7 ?qX7 ?qXP7 ?qT7 ?qK7 ?qhd7 ?qhu7 ?qha7 ?_; (k_extra "m:led1"); (case qha7 => first | exact .inl rfl | exact .inr rfl)); intro od' oe' k' t' h' tk' F' N' Ld' hk'; clear Lx; (try k_sweep); (try dsimp only))
  k_with "w:call ref" => (k_here; (with_reducible show wpAny _ _ (call (Value.ref 797) [Value.ref _, Value.ref _, Value.ref _, Value.int _ _]) _ _ _); (with_reducible rename Led _ _ _ _ _ _ _ => Lx); k_dflt (refine' u_node ?qhN7 Lx ?qN7 ?qB7 ?qF7 ?qX7 ?qXP7 ?qT7 ?qK7 ?qhd7 ?qhu7 ?qkn7 ?qkl7 ?qdp7 ?qdp27 ?_; (case qhN7 => assumption); (k_extra "m:led1"); (case qkn7 => k_extra "m:intl"); (case qkl7 => omega); (case qdp7 => omega); (case qdp27 => omega)); intro od' oe' x' r' T' h' tk' F' N' Ld' hT' hw' hD'; clear Lx; (try k_sweep); (try dsimp only))
  k_with "m:nodel" => first | with_reducible assumption | (refine' NodeIn.mono ?h9 ?s9; (case h9 => with_reducible assumption); (case s9 => k_extra "m:lift"))
  k_with "m:intx" => first | with_reducible assumption | (refine' IntX.mono ?h9 ?s9 ?b9; (case h9 => with_reducible assumption); (case b9 => exact Nat.le_refl _); (case s9 => k_extra "m:lift"))
  k_with "w:call ref" => (k_here; (with_reducible show wpAny _ _ (call (Value.ref 66) [_]) _ _ _); (with_reducible rename Led _ _ _ _ _ _ _ => Lx); k_dflt (refine' const_use Lx ?qN7 ?qB7 ?qF7 ?qX7 ?qXP7 ?qT7 ?qK7 ?qhd7 ?qhu7  ?_; (k_extra "m:led1"); skip); rintro y' r' h' tk' F' N' Ld' hA' hT'; clear Lx; (try k_sweep); (try dsimp only))
  k_with "w:call ref" => (k_here; (with_reducible show wpAny _ _ (call (Value.ref 85) [Value.int _ _]) _ _ _); (with_reducible rename Led _ _ _ _ _ _ _ => Lx); k_dflt (refine' local_use Lx ?qN7 ?qB7 ?qF7 ?qX7 ?qXP7 ?qT7 ?qK7 ?qhd7 ?qhu7  ?_; (k_extra "m:led1"); skip); rintro y' r' h' tk' F' N' Ld' hA' hT'; clear Lx; (try k_sweep); (try dsimp only))
  k_with "w:call ref" => (k_here; (with_reducible show wpAny _ _ (call (Value.ref 104) [Value.int _ _]) _ _ _); (with_reducible rename Led _ _ _ _ _ _ _ => Lx); k_dflt (refine' global_use Lx ?qN7 ?qB7 ?qF7 ?qX7 ?qXP7 ?qT7 ?qK7 ?qhd7 ?qhu7  ?_; (k_extra "m:led1"); skip); rintro y' r' h' tk' F' N' Ld' hA' hT'; clear Lx; (try k_sweep); (try dsimp only))
  k_with "w:call ref" => (k_here; (with_reducible show wpAny _ _ (call (Value.ref 137) [Value.int _ _, _]) _ _ _); (with_reducible rename Led _ _ _ _ _ _ _ => Lx); k_dflt (refine' setl_use Lx ?qN7 ?qB7 ?qF7 ?qX7 ?qXP7 ?qT7 ?qK7 ?qhd7 ?qhu7 ?q1 ?_; (k_extra "m:led1"); (case q1 => k_extra "m:nodel")); rintro y' r' h' tk' F' N' Ld' hA' hT'; clear Lx; (try k_sweep); (try dsimp only))
  k_with "w:call ref" => (k_here; (with_reducible show wpAny _ _ (call (Value.ref 170) [Value.int _ _, _]) _ _ _); (with_reducible rename Led _ _ _ _ _ _ _ => Lx); k_dflt (refine' setg_use Lx ?qN7 ?qB7 ?qF7 ?qX7 ?qXP7 ?qT7 ?qK7 ?qhd7 ?qhu7 ?q1 ?_; (k_extra "m:led1"); (case q1 => k_extra "m:nodel")); rintro y' r' h' tk' F' N' Ld' hA' hT'; clear Lx; (try k_sweep); (try dsimp only))
  k_with "w:call ref" => (k_here; (with_reducible show wpAny _ _ (call (Value.ref 203) [Value.int _ _, _]) _ _ _); (with_reducible rename Led _ _ _ _ _ _ _ => Lx); k_dflt (refine' define_use Lx ?qN7 ?qB7 ?qF7 ?qX7 ?qXP7 ?qT7 ?qK7 ?qhd7 ?qhu7 ?q1 ?_; (k_extra "m:led1"); (case q1 => k_extra "m:nodel")); rintro y' r' h' tk' F' N' Ld' hA' hT'; clear Lx; (try k_sweep); (try dsimp only))
  k_with "w:call ref" => (k_here; (with_reducible show wpAny _ _ (call (Value.ref 236) [_, _, _]) _ _ _); (with_reducible rename Led _ _ _ _ _ _ _ => Lx); k_dflt (refine' if_use Lx ?qN7 ?qB7 ?qF7 ?qX7 ?qXP7 ?qT7 ?qK7 ?qhd7 ?qhu7 ?q1 ?q2 ?q3 ?_; (k_extra "m:led1"); (case q1 => k_extra "m:nodel"); (case q2 => k_extra "m:nodel"); (case q3 => k_extra "m:nodel")); rintro y' r' h' tk' F' N' Ld' hA' hT'; clear Lx; (try k_sweep); (try dsimp only))
  k_with "w:call ref" => (k_here; (with_reducible show wpAny _ _ (call (Value.ref 283) [_, _, _, _]) _ _ _); (with_reducible rename Led _ _ _ _ _ _ _ => Lx); k_dflt (refine' lambda_use Lx ?qN7 ?qB7 ?qF7 ?qX7 ?qXP7 ?qT7 ?qK7 ?qhd7 ?qhu7 ?q1 ?q2 ?q3 ?_; (k_extra "m:led1"); (case q1 => k_extra "m:intx"); (case q2 => omega); (case q3 => k_extra "m:nodel")); rintro y' r' h' tk' F' N' Ld' hA' ⟨ps', hps', hT'⟩; clear Lx; (try k_sweep); (try dsimp only))
  k_with "w:call ref" => (k_here; (with_reducible show wpAny _ _ (call (Value.ref 316) [_, _]) _ _ _); (with_reducible rename Led _ _ _ _ _ _ _ => Lx); k_dflt (refine' call_use Lx ?qN7 ?qB7 ?qF7 ?qX7 ?qXP7 ?qT7 ?qK7 ?qhd7 ?qhu7 ?q1 ?q2 ?q3 ?_; (k_extra "m:led1"); (case q1 => k_extra "m:nodel"); (case q2 => k_mem); (case q3 => k_extra "m:nodesl")); rintro y' r' h' tk' F' N' Ld' hA' hT'; clear Lx; (try k_sweep); (try dsimp only))
  k_with "w:call ref" => (k_here; (with_reducible show wpAny _ _ (call (Value.ref 349) [_]) _ _ _); (with_reducible rename Led _ _ _ _ _ _ _ => Lx); k_dflt (refine' seq_use Lx ?qN7 ?qB7 ?qF7 ?qX7 ?qXP7 ?qT7 ?qK7 ?qhd7 ?qhu7 ?q2 ?q3 ?_; (k_extra "m:led1"); (case q2 => k_mem); (case q3 => k_extra "m:nodesl")); rintro y' r' h' tk' F' N' Ld' hA' hT'; clear Lx; (try k_sweep); (try dsimp only))
  k_with "w:call ref" => (k_here; (with_reducible show wpAny _ _ (call (Value.ref 382) [_, _]) _ _ _); (with_reducible rename Led _ _ _ _ _ _ _ => Lx); k_dflt (refine' prim_use Lx ?qN7 ?qB7 ?qF7 ?qX7 ?qXP7 ?qT7 ?qK7 ?qhd7 ?qhu7 ?q2 ?q3 ?_; (k_extra "m:led1"); (case q2 => k_mem); (case q3 => k_extra "m:nodesl")); rintro y' r' h' tk' F' N' Ld' hA' hT'; clear Lx; (try k_sweep); (try dsimp only))
  k_with "w:call ref" => (k_here; (with_reducible show wpAny _ _ (call (Value.ref 415) [_, _, _]) _ _ _); (with_reducible rename Led _ _ _ _ _ _ _ => Lx); k_dflt (refine' fix_use Lx ?qN7 ?qB7 ?qF7 ?qX7 ?qXP7 ?qT7 ?qK7 ?qhd7 ?qhu7 ?q1 ?q2 ?q3 ?q4 ?_; (k_extra "m:led1"); (case q1 => k_extra "m:intx"); (case q2 => k_mem); (case q3 => k_extra "m:nodesl"); (case q4 => k_extra "m:nodel")); rintro y' r' h' tk' F' N' Ld' hA' ⟨ps', hps', hT'⟩; clear Lx; (try k_sweep); (try dsimp only))
  k_with "m:nodesl" => first | with_reducible assumption | (refine' NodesIn.mono ?h9 ?s9; (case h9 => with_reducible assumption); (case s9 => k_extra "m:lift"))
  k_with "w:CompSrc" => ((with_reducible rename Led _ _ _ _ _ _ _ => Lx); k_dflt (refine' u_range Lx ?qN7 ?qF7 ?qh7 ?qr7 ?q07 ?q17 IntV (fun _ _ _ h _ => h) ?qt7 ?qf7; (case qN7 => assumption); (case qF7 => k_asm); (case qh7 => rfl); (case qr7 => assumption); (case q07 => omega); (case q17 => omega)); all_goals first | (intro g v I oI C oC D ys x₁ od₁ oe₁ m₂ h tk E' hC hx F' N' Ld'; clear Lx; k_sweep) | (intro g ys x₁ od₁ oe₁ hl hg L1; first | (refine' finA_ints 2 Lx L1 hg (by omega) ?_; intro D' o' h' tk' F' N' Ld' hL1' hL2'; clear Lx L1 hg hl; k_sweep; (try dsimp only)) | (refine' finE_ints 2 Lx L1 hg (by omega) ?_; intro D' vs' ns' n' h' tk' F' N' Ld' off' hI' hl1' hl2'; clear Lx L1 hg; k_sweep; (try dsimp only))))
  k_with "w:TurnEnd" => exact TurnEnd.intro (by k_asm) (by assumption) (by assumption) ⟨_, _, rfl⟩
  k_with "w:setItem ref int" => (k_here; (with_reducible show wpAny _ _ (setItem (Value.ref _) (Value.int 0 _) _) _ _ _); (with_reducible rename Led _ _ _ _ _ _ _ => Lx); (with_reducible rename Above2 _ _ _ _ => hAx); k_dflt (refine' u_set0 Lx ?qN7 ?qF7 hAx ?qo7 ?qs7 ?ql7 ?_; (case qN7 => assumption); (case qF7 => k_asm); (case qo7 => assumption); (case qs7 => k_extra "m:subX"); (case ql7 => omega)); intro h' F' N' Ld'; clear Lx hAx; (try k_sweep); (try dsimp only))
  k_with "m:subX" => first | with_reducible assumption | (with_reducible exact id_sub) | (refine' List.forall_mem_cons.mpr ⟨?a9, ?b9⟩; (case a9 => k_mem); (case b9 => k_extra "m:subX")) | (refine' List.forall_mem_append.mpr ⟨?a9, ?b9⟩; (case a9 => k_extra "m:lift"); (case b9 => k_extra "m:subX")) | exact List.forall_mem_nil _ | k_extra "m:lift"
  k_with "w:subscriptTail Name Slice ref ref" => first | (exfalso; omega) | (k_here; (with_reducible show wpAny _ _ (subscriptTail _ (PySem.Expr.Slice _ none none _) (Value.ref _) (Value.ref _)) _ _ _); (with_reducible rename Led _ _ _ _ _ _ _ => Lx); (try dsimp only); k_dflt (refine' u_slice1 Lx ?NZ9 ?FZ9 ?lZ9 ?zZ9 ?sZ9 ?tZ9 ?_; (case NZ9 => assumption); (case FZ9 => k_asm); (case lZ9 => k_mem); (case zZ9 => omega); (case sZ9 => with_unfolding_all rfl); (case tZ9 => kmk_pure)); intro D' h' F' N' Ld'; clear Lx; (try k_sweep))
  k_with "w:call ref" => (k_here; (with_reducible show wpAny _ _ (call (Value.ref 787) [Value.ref _, Value.ref _, Value.ref _, Value.int _ _]) _ _ _); (with_reducible rename Led _ _ _ _ _ _ _ => Lx); k_dflt (refine' u_lam ?qhN7 Lx ?qN7 ?qB7 ?qF7 ?qX7 ?qXP7 ?qT7 ?qK7 ?qhd7 ?qhu7 ?qkn7 ?qkl7 ?qdp7 ?qdp27 ?_; (case qhN7 => assumption); (k_extra "m:led1"); (case qkn7 => k_extra "m:intl"); (case qkl7 => omega); (case qdp7 => omega); (case qdp27 => omega)); intro od' oe' x' r' T' h' tk' F' N' Ld' hT' hw' hD' hZ'; clear Lx; (try k_sweep); (try dsimp only))
  k_with "w:call ref" => (k_here; (with_reducible show wpAny _ _ (call (Value.ref 792) [Value.ref _, Value.ref _, Value.ref _, Value.int _ _]) _ _ _); (with_reducible rename Led _ _ _ _ _ _ _ => Lx); k_dflt (refine' u_fix ?qhN7 Lx ?qN7 ?qB7 ?qF7 ?qX7 ?qXP7 ?qT7 ?qK7 ?qhd7 ?qhu7 ?qkn7 ?qkl7 ?qdp7 ?qdp27 ?_; (case qhN7 => assumption); (k_extra "m:led1"); (case qkn7 => k_extra "m:intl"); (case qkl7 => omega); (case qdp7 => omega); (case qdp27 => omega)); intro od' oe' x' r' T' h' tk' F' N' Ld' hT' hw' hD'; clear Lx; (try k_sweep); (try dsimp only))
  k_with "w:call ref" => (k_here; (with_reducible show wpAny _ _ (call (Value.ref 768) [Value.ref _, Value.ref _]) _ _ _); (with_reducible rename Led _ _ _ _ _ _ _ => Lx); k_dflt (refine' u_oneN Lx ?qN7 ?qB7 ?qF7 ?qX7 ?qXP7 ?qT7 ?qK7 ?qhd7 ?qhu7 ?qne7 ?_; (k_extra "m:led1"); (case qne7 => first | exact nonE_nine | (refine' NonE.mono ?h9 ?s9; (case h9 => with_reducible assumption); (case s9 => k_extra "m:lift")))); intro od' k' t' h' tk' F' N' Ld'; clear Lx; (try k_sweep); (try dsimp only))
  k_with "w:compareOp NotEq ref ref" => (k_here; (with_reducible show wpAny _ _ (compareOp CmpOp.NotEq (Value.ref _) (Value.ref _)) _ _ _); k_dflt (refine' u_neNil ?cN8 ?ck8 ?cb8 ?cD8 ?cu8 ?_ ?_; (case cN8 => assumption); (case ck8 => k_extra "m:intl"); (case cb8 => omega); (case cD8 => k_mem); (case cu8 => k_extra "m:units")); first | (intro hNE') | skip)
  k_with "w:compareOp Eq ref ref" => (k_here; (with_reducible show wpAny _ _ (compareOp CmpOp.Eq (Value.ref _) (Value.ref _)) _ _ _); k_dflt (refine' u_eqNil ?cN8 ?ck8 ?cD8 ?cu8 ?_ ?_; (case cN8 => assumption); (case ck8 => k_extra "m:intl"); (case cD8 => k_mem); (case cu8 => k_extra "m:units")))
  k_with "w:DrawJ" => (refine' DrawJ.intro ?jF8 ?jN8 ?jL8 ?jR8 ?jP8; (case jF8 => k_asm); (case jN8 => assumption); (case jL8 => assumption); (case jR8 => k_extra "m:lift"); (case jP8 => first | trivial | ((show _ ∧ _ ∧ _); refine ⟨?_, ?_, ?_⟩ <;> omega)))
  k_with "w:DrawG" => first | (refine' DrawG.next ?jF8 ?jN8 ?jL8; (case jF8 => k_asm); (case jN8 => assumption); (case jL8 => assumption)) | refine DrawG.go ?_
  k_with "w:call builtin:len" => (k_here; (with_reducible show wpAny _ _ (call (Value.builtin "len") [Value.ref 637]) _ _ _); k_dflt (refine' u_rowsLen ?rPa ?rFa ?_; (case rPa => assumption); (case rFa => k_asm); k_whole))
  k_with "w:call builtin:len" => (k_here; (with_reducible show wpAny _ _ (call (Value.builtin "len") [Value.ref _]) _ _ _); k_dflt (refine' kst_len ?rNb ?rmb ?reb ?rzb ?_; (case rNb => k_asm); (case rmb => k_mem); (case reb => exact rfl); (case rzb => omega); k_whole))
  k_with "w:subscriptTail Name Attribute ref int" => (k_here; (with_reducible show wpAny _ _ (subscriptTail _ _ (Value.ref 637) (Value.int _ _)) _ _ _); k_dflt (refine' u_row ?rPc ?rFc ?r0c ?r1c ?_ ?rsc; (case rPc => assumption); (case rFc => k_asm); (case r0c => omega); (case r1c => omega); (case rsc => with_unfolding_all rfl); k_whole))
  k_with "w:subscriptTail Name Name ref int" => (k_here; (with_reducible show wpAny _ _ (subscriptTail _ _ (Value.ref 637) (Value.int _ _)) _ _ _); k_dflt (refine' u_row ?rPc ?rFc ?r0c ?r1c ?_ ?rsc; (case rPc => assumption); (case rFc => k_asm); (case r0c => omega); (case r1c => omega); (case rsc => with_unfolding_all rfl); k_whole))
  k_with "w:subscriptTail Subscript" => (k_here; (with_reducible show wpAny _ _ (subscriptTail _ _ (Value.ref (445 + _)) (Value.int 1 _)) _ _ _); k_dflt (refine' u_least ?rPd ?rFd ?r0d ?r1d ?_ ?rsd; (case rPd => assumption); (case rFd => k_asm); (case r0d => omega); (case r1d => omega); (case rsd => with_unfolding_all rfl); k_whole); intro tl')
  k_with "w:subscriptTail Subscript" => (k_here; (with_reducible show wpAny _ _ (subscriptTail _ _ (Value.ref (445 + _)) (Value.int 2 _)) _ _ _); k_dflt (refine' u_most ?rPd ?rFd ?r0d ?r1d ?_ ?rsd; (case rPd => assumption); (case rFd => k_asm); (case r0d => omega); (case r1d => omega); (case rsd => with_unfolding_all rfl); k_whole); intro tm')
  k_with "w:call ref" => (k_here; (with_reducible show wpAny _ _ (call (Value.ref 35) [Value.ref _]) _ _ _); k_dflt (refine' Spec.use (parts_none _ (Xr := [])) ?qB7 ?qF7 ?qX7 ?qXP7 ?qN7 ?qT7 ?qK7 ?qhd7 ?qhu7 ?_ ?qx7; (case qN7 => k_asm); (k_extra "m:use"); (case qx7 => k_extra "m:noX")); (rintro _ _ h' tk' F' N' ⟨D', pvs', pn', e1, e2, lD', hP'⟩); subst e1 e2; (replace lD' := allLt_of lD'); (try k_sweep); (try dsimp only))
  k_with "w:call ref" => (k_here; (with_reducible show wpAny _ _ (call (Value.ref 127) [Value.ref _]) _ _ _); k_dflt (refine' Spec.use (parts_setl _ ?e0p ?e1p ?e2p) ?qB7 ?qF7 ?qX7 ?qXP7 ?qN7 ?qT7 ?qK7 ?qhd7 ?qhu7 ?_ ?qx7; (case qN7 => k_asm); (k_extra "m:use"); (case e0p => k_mem); (case e1p => k_mem); (case e2p => k_extra "m:nodel"); (case qx7 => k_extra "m:noX")); (rintro _ _ h' tk' F' N' ⟨D', pvs', pn', e1, e2, lD', hP'⟩); subst e1 e2; (replace lD' := allLt_of lD'); (try k_sweep); (try dsimp only))
  k_with "w:call ref" => (k_here; (with_reducible show wpAny _ _ (call (Value.ref 160) [Value.ref _]) _ _ _); k_dflt (refine' Spec.use (parts_setg _ ?e0p ?e1p ?e2p) ?qB7 ?qF7 ?qX7 ?qXP7 ?qN7 ?qT7 ?qK7 ?qhd7 ?qhu7 ?_ ?qx7; (case qN7 => k_asm); (k_extra "m:use"); (case e0p => k_mem); (case e1p => k_mem); (case e2p => k_extra "m:nodel"); (case qx7 => k_extra "m:noX")); (rintro _ _ h' tk' F' N' ⟨D', pvs', pn', e1, e2, lD', hP'⟩); subst e1 e2; (replace lD' := allLt_of lD'); (try k_sweep); (try dsimp only))
  k_with "w:call ref" => (k_here; (with_reducible show wpAny _ _ (call (Value.ref 193) [Value.ref _]) _ _ _); k_dflt (refine' Spec.use (parts_define _ ?e0p ?e1p ?e2p) ?qB7 ?qF7 ?qX7 ?qXP7 ?qN7 ?qT7 ?qK7 ?qhd7 ?qhu7 ?_ ?qx7; (case qN7 => k_asm); (k_extra "m:use"); (case e0p => k_mem); (case e1p => k_mem); (case e2p => k_extra "m:nodel"); (case qx7 => k_extra "m:noX")); (rintro _ _ h' tk' F' N' ⟨D', pvs', pn', e1, e2, lD', hP'⟩); subst e1 e2; (replace lD' := allLt_of lD'); (try k_sweep); (try dsimp only))
  k_with "w:call ref" => (k_here; (with_reducible show wpAny _ _ (call (Value.ref 226) [Value.ref _]) _ _ _); k_dflt (refine' Spec.use (parts_if _ ?e0p ?e1p ?e2p ?e3p ?e4p) ?qB7 ?qF7 ?qX7 ?qXP7 ?qN7 ?qT7 ?qK7 ?qhd7 ?qhu7 ?_ ?qx7; (case qN7 => k_asm); (k_extra "m:use"); (case e0p => k_mem); (case e1p => k_mem); (case e2p => k_extra "m:nodel"); (case e3p => k_extra "m:nodel"); (case e4p => k_extra "m:nodel"); (case qx7 => k_extra "m:noX")); (rintro _ _ h' tk' F' N' ⟨D', pvs', pn', e1, e2, lD', hP'⟩); subst e1 e2; (replace lD' := allLt_of lD'); (try k_sweep); (try dsimp only))
  k_with "w:call ref" => (k_here; (with_reducible show wpAny _ _ (call (Value.ref 259) [Value.ref _]) _ _ _); k_dflt (refine' Spec.use (parts_lambda _ ?e0p ?e1p ?e2p) ?qB7 ?qF7 ?qX7 ?qXP7 ?qN7 ?qT7 ?qK7 ?qhd7 ?qhu7 ?_ ?qx7; (case qN7 => k_asm); (k_extra "m:use"); (case e0p => k_mem); (case e1p => k_mem); (case e2p => k_extra "m:nodel"); (case qx7 => k_extra "m:noX")); (rintro _ _ h' tk' F' N' ⟨D', pvs', pn', e1, e2, lD', hP'⟩); subst e1 e2; (replace lD' := allLt_of lD'); (try k_sweep); (try dsimp only))
  k_with "w:call ref" => (k_here; (with_reducible show wpAny _ _ (call (Value.ref 306) [Value.ref _]) _ _ _); k_dflt (refine' Spec.use (parts_call _ ?e0p ?e1p ?e2p ?e3p ?e4p ?e5p) ?qB7 ?qF7 ?qX7 ?qXP7 ?qN7 ?qT7 ?qK7 ?qhd7 ?qhu7 ?_ ?qx7; (case qN7 => k_asm); (k_extra "m:use"); (case e0p => k_mem); (case e1p => k_mem); (case e2p => k_mem); (case e3p => first | assumption | omega); (case e4p => k_extra "m:nodel"); (case e5p => k_extra "m:nodesl"); (case qx7 => k_extra "m:noX")); (rintro _ _ h' tk' F' N' ⟨D', pvs', pn', e1, e2, lD', hP'⟩); subst e1 e2; (replace lD' := allLt_of lD'); (try k_sweep); (try dsimp only))
  k_with "w:call ref" => (k_here; (with_reducible show wpAny _ _ (call (Value.ref 339) [Value.ref _]) _ _ _); k_dflt (refine' Spec.use (parts_seq _ ?e0p ?e1p ?e2p ?e3p ?e4p) ?qB7 ?qF7 ?qX7 ?qXP7 ?qN7 ?qT7 ?qK7 ?qhd7 ?qhu7 ?_ ?qx7; (case qN7 => k_asm); (k_extra "m:use"); (case e0p => k_mem); (case e1p => k_mem); (case e2p => k_mem); (case e3p => first | assumption | omega); (case e4p => k_extra "m:nodesl"); (case qx7 => k_extra "m:noX")); (rintro _ _ h' tk' F' N' ⟨D', pvs', pn', e1, e2, lD', hP'⟩); subst e1 e2; (replace lD' := allLt_of lD'); (try k_sweep); (try dsimp only))
  k_with "w:call ref" => (k_here; (with_reducible show wpAny _ _ (call (Value.ref 372) [Value.ref _]) _ _ _); k_dflt (refine' Spec.use (parts_prim _ ?e0p ?e1p ?e2p ?e3p ?e4p) ?qB7 ?qF7 ?qX7 ?qXP7 ?qN7 ?qT7 ?qK7 ?qhd7 ?qhu7 ?_ ?qx7; (case qN7 => k_asm); (k_extra "m:use"); (case e0p => k_mem); (case e1p => k_mem); (case e2p => k_mem); (case e3p => first | assumption | omega); (case e4p => k_extra "m:nodesl"); (case qx7 => k_extra "m:noX")); (rintro _ _ h' tk' F' N' ⟨D', pvs', pn', e1, e2, lD', hP'⟩); subst e1 e2; (replace lD' := allLt_of lD'); (try k_sweep); (try dsimp only))
  k_with "w:call ref" => (k_here; (with_reducible show wpAny _ _ (call (Value.ref 405) [Value.ref _]) _ _ _); k_dflt (refine' Spec.use (parts_fix _ ?e0p ?e1p ?e2p ?e3p ?e4p ?e5p) ?qB7 ?qF7 ?qX7 ?qXP7 ?qN7 ?qT7 ?qK7 ?qhd7 ?qhu7 ?_ ?qx7; (case qN7 => k_asm); (k_extra "m:use"); (case e0p => k_mem); (case e1p => k_mem); (case e2p => k_mem); (case e3p => first | assumption | omega); (case e4p => k_extra "m:nodel"); (case e5p => k_extra "m:nodesl"); (case qx7 => k_extra "m:noX")); (rintro _ _ h' tk' F' N' ⟨D', pvs', pn', e1, e2, lD', hP'⟩); subst e1 e2; (replace lD' := allLt_of lD'); (try k_sweep); (try dsimp only))
  k_with "w:call ref" => ((dsimp only [List.cons_append, List.nil_append]); k_extra "w:call ref")
  k_with "w:ite" => first | (with_reducible refine PySem.W.ite_neg (by decide) ?_) | (with_reducible refine PySem.W.ite_pos (by decide) ?_)
  k_with "w:ite" => first | (with_reducible refine PySem.W.ite_isFalse (by with_reducible assumption) ?_) | (with_reducible refine PySem.W.ite_pos (by with_reducible assumption) ?_)
  k_with "w:compareOp In int ref" => (k_here; (with_reducible show wpAny _ _ (compareOp CmpOp.In (Value.int _ _) (Value.ref _)) _ _ _); k_dflt (refine' u_inT ?iN ?im ?ii ?ik ?_; (case ik => with_reducible assumption); (case iN => k_asm); (case im => k_mem); (case ii => with_reducible assumption); k_whole))
  k_with "w:compareOp In int ref" => (k_here; (with_reducible show wpAny _ _ (compareOp CmpOp.In (Value.int _ _) (Value.ref _)) _ _ _); k_dflt (refine' u_inF ?iN ?im ?ii ?ik ?_; (case ik => with_reducible assumption); (case iN => k_asm); (case im => k_mem); (case ii => with_reducible assumption); k_whole))
  k_with "w:compareOp NotIn int ref" => (k_here; (with_reducible show wpAny _ _ (compareOp CmpOp.NotIn (Value.int _ _) (Value.ref _)) _ _ _); k_dflt (refine' u_notT ?iN ?im ?ii ?ik ?_; (case ik => with_reducible assumption); (case iN => k_asm); (case im => k_mem); (case ii => with_reducible assumption); k_whole))
  k_with "w:compareOp NotIn int ref" => (k_here; (with_reducible show wpAny _ _ (compareOp CmpOp.NotIn (Value.int _ _) (Value.ref _)) _ _ _); k_dflt (refine' u_notF ?iN ?im ?ii ?ik ?_; (case ik => with_reducible assumption); (case iN => k_asm); (case im => k_mem); (case ii => with_reducible assumption); k_whole))
  k_with "w:compareOp Eq ref ref" => (k_here; (with_reducible show wpAny _ _ (compareOp CmpOp.Eq (Value.ref _) (Value.ref _)) _ _ _); k_dflt (refine' u_nilV ?iN ?im ?iD ?iu ?_; (case iN => k_asm); (case im => k_mem); (case iD => k_mem); (case iu => k_extra "m:units"); k_whole))
  k_with "w:execs cons" => ((with_reducible show wpAny _ _ (execs (Stmt.If (Expr.Compare _ _ [Expr.Name (Str.ofString "LAMBDA") _] _) _ _ _ :: _) _) _ _ _); k_dflt (refine' skip5 ?sB ?sF ?sX ?sP ?sT ?sN ?sm ?sd ?shd ?shu ?sk7 ?_;  (case sB => k_asm); (case sF => k_asm); (case sX => k_asm); (case sP => k_asm); (case sT => k_asm); (case sN => k_asm); (case sm => k_mem); (case sd => with_reducible assumption); (case sk7 => decide); (case shd => omega); (case shu => omega)); intro h' tk' F' N'; (try k_sweep); (try dsimp only))
  k_with "w:execs" => ((with_reducible show wpAny _ _ (execs (List.drop 5 (fBody (stAt 56))) _) _ _ _); k_dflt (refine' skip5 ?sB ?sF ?sX ?sP ?sT ?sN ?sm ?sd ?shd ?shu ?sk7 ?_;  (case sB => k_asm); (case sF => k_asm); (case sX => k_asm); (case sP => k_asm); (case sT => k_asm); (case sN => k_asm); (case sm => k_mem); (case sd => with_reducible assumption); (case sk7 => decide); (case shd => omega); (case shu => omega)); intro h' tk' F' N'; (try k_sweep); (try dsimp only))
  k_with "w:execs cons" => ((with_reducible show wpAny _ _ (execs (Stmt.If (Expr.Compare _ _ [Expr.Name (Str.ofString "FIX") _] _) _ _ _ :: _) _) _ _ _); k_dflt (refine' skip6 ?sB ?sF ?sX ?sP ?sT ?sN ?sm ?sd ?shd ?shu ?sk11 ?_;  (case sB => k_asm); (case sF => k_asm); (case sX => k_asm); (case sP => k_asm); (case sT => k_asm); (case sN => k_asm); (case sm => k_mem); (case sd => with_reducible assumption); (case sk11 => decide); (case shd => omega); (case shu => omega)); intro h' tk' F' N'; (try k_sweep); (try dsimp only))
  k_with "w:execs" => ((with_reducible show wpAny _ _ (execs (List.drop 6 (fBody (stAt 56))) _) _ _ _); k_dflt (refine' skip6 ?sB ?sF ?sX ?sP ?sT ?sN ?sm ?sd ?shd ?shu ?sk11 ?_;  (case sB => k_asm); (case sF => k_asm); (case sX => k_asm); (case sP => k_asm); (case sT => k_asm); (case sN => k_asm); (case sm => k_mem); (case sd => with_reducible assumption); (case sk11 => decide); (case shd => omega); (case shu => omega)); intro h' tk' F' N'; (try k_sweep); (try dsimp only))
  k_with "w:getAttr ref" => (k_here; (with_reducible show wpAny _ _ (getAttr (Value.ref _) (Str.ofString "kind") true) _ _ _); k_dflt (refine' node_kind ?ahn ?asu ?aN ?aF ?aX ?_; (case ahn => with_reducible assumption); (case aN => k_asm); (case asu => k_extra "m:subX"); (case aF => k_asm); (case aX => k_asm)); intro tk9; (try dsimp only))
  k_with "w:exec Raise some none" => (k_here; k_dflt (refine' raise_core w.params ?rhh ?_; (case rhh => rfl)))
  k_with "w:call ref" => (k_here; (with_reducible show wpAny _ _ (call (Value.ref 441) [_, _]) _ _ _); k_dflt (refine' Spec.use (core_make _) ?qB7 ?qF7 ?qX7 ?qXP7 ?qN7 ?qT7 ?qK7 ?qhd7 ?qhu7 ?_ ?qx7; (case qN7 => k_asm); (k_extra "m:use"); (case qx7 => k_extra "m:noX")); (rintro _ _ h' tk' F' N' ⟨ee', et', ed', eo', e1, e2, eoff'⟩); subst e1 e2; (try k_sweep); (try dsimp only))
  k_with "w:RaiseP" => (k_dflt (refine' RaiseP.intro ?rX9 ?rF9 ?rN9 ?rm9 ?_; (case rX9 => k_asm); (case rF9 => k_asm); (case rN9 => k_asm); (case rm9 => exact List.Mem.head _)); (try dsimp only))
  k_with "w:leaving ref" => (k_dflt (refine' leave_newC (Z := Zr) ?lK9 ?lF9 ?lN9 ?lm9 ?lZ9 ?lo9 ?_; (case lK9 => k_asm); (case lF9 => k_asm); (case lN9 => k_asm); (case lm9 => exact List.Mem.head _); (case lZ9 => k_extra "m:subX"); (case lo9 => (refine' ne_sub eoff' ?lo8; (case lo8 => k_extra "m:subX")))); intro h' R' U'; (try dsimp only at R' U' ⊢))
  k_with "m:enter" => ((case kA => exact rfl); (case kF => exact rfl); (case kK => assumption); (case k1 => k_asm); (case k2 => k_asm); (case k3 => k_asm); (case k4 => k_asm); (case k5 => k_asm); (case k6 => k_is); (case k7 => k_is); (case k8 => k_extra "m:room0"); (case k9 => exact BindsTo.of_eq rfl); (case c5 => decide); (case kB => exact locs rfl); (case c2 => exact rfl); (case c3 => exact rfl); (case c4 => exact rfl); k_whole; intro g' L' h' FG' F' N' B' X' T'; (have XP' := Prims.keeps (by assumption) (Fr.keep FG')); (try dsimp only); (try k_fold); (refine' enterQG ?hP9 ?_; (case hP9 => first | passes_own | with_unfolding_all passes_own)); intro Q9 G9 hQ9 hG9 hP9; (show let A9 := _; wpAny _ A9 _ _ _ _); intro A9)
  k_with "m:enterC" => ((case kA => exact rfl); (case kF => exact rfl); (case kK => assumption); (case k1 => k_asm); (case k2 => k_asm); (case k3 => k_asm); (case k4 => k_asm); (case k5 => k_asm); (case k6 => k_is); (case k7 => k_is); (case k8 => k_extra "m:room0"); (case k9 => exact BindsTo.of_eq rfl); (case kB => exact rfl); (case kD => decide +kernel); (case c2 => exact rfl); (case c3 => exact rfl); (case c4 => exact rfl); k_whole; intro g' L' h' tk' cells' FG' F' N' Y' B' X' T' l1; (have lC' : CellsOff _ _ := l1); clear l1; (have XP' := Prims.keeps (by assumption) (Fr.keep FG')); (k_extra "m:cells"); (try simp only [List.cons_append, List.nil_append] at N'); (try dsimp only); (try k_fold); (refine' enterQG ?hP9 ?_; (case hP9 => first | passes_own | with_unfolding_all passes_own)); intro Q9 G9 hQ9 hG9 hP9; (show let A9 := _; wpAny _ A9 _ _ _ _); intro A9)
  k_with "w:EAt" => ((refine' EAt.of ?kh9 ?_; (case kh9 => assumption)); (try dsimp only))
  k_with "w:call ref" => (k_here; (with_reducible show wpAny _ _ (call (Value.ref 679) [Value.ref ck, Value.int _ _]) _ _ _); k_dflt (refine' SpecE.use (bindC_spec (Zr := Zr) _ ?bR9 ?bC9 ?bz9) ?qB7 ?qF7 ?qX7 ?qXP7 (newsSub ?qN7 ?qs7) ?qT7 ?qK7 ?qhd7 ?qhu7 ?_ ?_; (case qN7 => k_asm); (k_extra "m:use"); (case bR9 => with_reducible assumption); (case bC9 => with_reducible assumption); (case qs7 => k_extra "m:subX"); (case bz9 => omega)); all_goals first | (rintro _ _ h' tk' F' N' ⟨e1, ob', oo', e2, C', hnb'⟩; subst e1 e2; (try k_sweep); (try dsimp only)) | (intro hX' ee' gg' h' tk' FF' R' U'; (try dsimp only at R' U' ⊢)))
  k_with "w:leaving ref" => (k_dflt (refine' leave_onSN ?lK9 ?lF9 ?lR9 ?lU9 ?_; (case lR9 => exact R'); (case lK9 => k_asm); (case lF9 => with_reducible exact FF'); (case lU9 => with_reducible exact U')); intro h' R' RN' U'; clear RN'; (try dsimp only at R' U' ⊢))
  k_with "w:call ref" => (k_here; (with_reducible show wpAny _ _ (call (Value.ref 273) [Value.ref _]) _ _ _); k_dflt (refine' Spec.use (binders_spec _ ?e0p ?e1p ?e2p ?e3p ?e4p) ?qB7 ?qF7 ?qX7 ?qXP7 ?qN7 ?qT7 ?qK7 ?qhd7 ?qhu7 ?_ ?qx7; (case qN7 => k_asm); (k_extra "m:use"); (case e0p => k_mem); (case e1p => k_mem); (case e2p => k_mem); (case e3p => with_reducible assumption); (case e4p => omega); (case qx7 => k_extra "m:noX")); (rintro _ _ h' tk' F' N' ⟨Db', ub', nb', e1, e2, lb', hb'⟩); subst e1 e2; (try k_sweep); (try dsimp only))
  k_with "w:call ref" => (k_here; (with_reducible show wpAny _ _ (call (Value.ref 424) [Value.ref _]) _ _ _); k_dflt (refine' Spec.use (binders_of_any _ ?e0p ?e1p ?e2p ?e3p) ?qB7 ?qF7 ?qX7 ?qXP7 ?qN7 ?qT7 ?qK7 ?qhd7 ?qhu7 ?_ ?qx7; (case e0p => with_reducible assumption); (case qN7 => k_asm); (k_extra "m:use"); (case e1p => k_extra "m:subX"); (case e2p => first | rfl | assumption); (case e3p => omega); (case qx7 => k_extra "m:noX")); (rintro _ _ h' tk' F' N' ⟨Db', ub', nb', xb', e1, e2, lb', mb', hb'⟩); subst e1 e2; (try k_sweep); (try dsimp only))
  k_with "w:getAttr ref" => (k_here; (with_reducible show wpAny _ _ (getAttr (Value.ref _) (Str.ofString "number") true) _ _ _); k_dflt (refine' node_number ?ahn ?asu ?ahk ?aN ?aF ?aX ?_; (case ahn => with_reducible assumption); (case ahk => with_reducible assumption); (case aN => k_asm); (case asu => k_extra "m:subX"); (case aF => k_asm); (case aX => k_asm)); intro tk9; (try dsimp only))
  k_with "w:getAttr ref" => (k_here; (with_reducible show wpAny _ _ (getAttr (Value.ref _) (Str.ofString "symbol") true) _ _ _); k_dflt (refine' node_symbol ?ahn ?asu ?ahk ?aN ?aF ?aX ?_; (case ahn => with_reducible assumption); (case ahk => with_reducible assumption); (case aN => k_asm); (case asu => k_extra "m:subX"); (case aF => k_asm); (case aX => k_asm)); intro tk9; (try dsimp only))
  k_with "w:getAttr ref" => (k_here; (with_reducible show wpAny _ _ (getAttr (Value.ref _) (Str.ofString "items") true) _ _ _); k_dflt (refine' node_items ?ahn ?asu ?ahk ?aN ?aF ?aX ?_; (case ahn => with_reducible assumption); (case ahk => with_reducible assumption); (case aN => k_asm); (case asu => k_extra "m:subX"); (case aF => k_asm); (case aX => k_asm)); intro li' vi' ni' mi' hi'; (try dsimp only))
  k_with "w:call ref" => (k_here; (with_reducible show wpAny _ _ (call (Value.ref 700) [Value.ref ck, Value.int _ _]) _ _ _); k_dflt (refine' SpecE.use (need_open_spec (Zr := Zr) _ ?bR9 ?bC9) ?qB7 ?qF7 ?qX7 ?qXP7 (newsSub ?qN7 ?qs7) ?qT7 ?qK7 ?qhd7 ?qhu7 ?_ ?_; (case qN7 => k_asm); (k_extra "m:use"); (case bR9 => with_reducible assumption); (case bC9 => with_reducible assumption); (case qs7 => k_extra "m:subX")); all_goals first | (rintro _ nw' h' tk' F' N' ⟨e1, e2, hno'⟩; subst e1; subst nw'; (try k_sweep); (try dsimp only)) | (intro hX' ee' gg' h' tk' FF' R' U'; (try dsimp only at R' U' ⊢)))
  k_with "w:call ref" => (k_here; (with_reducible show wpAny _ _ (call (Value.ref 686) [Value.ref ck, Value.ref _]) _ _ _); k_dflt (refine' SpecE.use (begin_any (Zr := Zr) _ ?bT9 ?bs9 ?bb9 ?bw9 ?bR9 ?bC9 ?bz9 ?by9) ?qB7 ?qF7 ?qX7 ?qXP7 (newsSub ?qN7 ?qs7) ?qT7 ?qK7 ?qhd7 ?qhu7 ?_ ?_; (case qN7 => k_asm); (k_extra "m:use"); (case bT9 => with_reducible assumption); (case bs9 => with_reducible assumption); (case bb9 => exact kind_binding (by first | exact Or.inl (by assumption) | exact Or.inr (by assumption))); (case bw9 => omega); (case bR9 => with_reducible assumption); (case bC9 => with_reducible assumption); (case bz9 => omega); (case by9 => omega); (case qs7 => k_extra "m:subX")); all_goals first | (rintro _ nw' h' tk' F' N' ⟨e1, ob', oo', ol', s', e2, C', hl1', hl2', hc'⟩; subst e1; subst nw'; (try k_sweep); (try dsimp only)) | (intro hX' ee' gg' h' tk' FF' R' U'; (try dsimp only at R' U' ⊢)))
  k_with "w:call ref" => (k_here; (with_reducible show wpAny _ _ (call (Value.ref 721) [Value.ref _]) _ _ _); k_dflt (refine' SpecE.use (need_fix_any (Zr := (b, ob) :: (o, oo) :: (l, ol) :: Zr) _ ?bT9 ?bs9 ?bk9 ?bw9) ?qB7 ?qF7 ?qX7 ?qXP7 (newsSub ?qN7 ?qs7) ?qT7 ?qK7 ?qhd7 ?qhu7 ?_ ?_; (case qN7 => k_asm); (k_extra "m:use"); (case bT9 => with_reducible assumption); (case bs9 => exact fun p hp => .tail _ (.tail _ (.tail _ (hs p hp)))); (case bk9 => with_reducible assumption); (case bw9 => omega); (case qs7 => k_extra "m:subX")); all_goals first | (rintro _ nw' h' tk' F' N' ⟨e1, e2, hfo'⟩; subst e1; subst nw'; (try k_sweep); (try dsimp only)) | (intro hX' ee' gg' h' tk' FF' R' U'; (try dsimp only at R' U' ⊢)))
  k_with "w:call ref" => (k_here; (with_reducible show wpAny _ _ (call (Value.ref 714) [Value.ref _]) _ _ _); k_dflt (refine' SpecE.use (need_operands_any (Zr := (b, ob) :: (o, oo) :: (l, ol) :: Zr) _ ?bT9 ?bs9 ?bk9 ?bw9) ?qB7 ?qF7 ?qX7 ?qXP7 (newsSub ?qN7 ?qs7) ?qT7 ?qK7 ?qhd7 ?qhu7 ?_ ?_; (case qN7 => k_asm); (k_extra "m:use"); (case bT9 => with_reducible assumption); (case bs9 => exact fun p hp => .tail _ (.tail _ (.tail _ (hs p hp)))); (case bk9 => with_reducible assumption); (case bw9 => omega); (case qs7 => k_extra "m:subX")); all_goals first | (rintro _ nw' h' tk' F' N' ⟨e1, e2, hpo'⟩; subst e1; subst nw'; (try k_sweep); (try dsimp only)) | (intro hX' ee' gg' h' tk' FF' R' U'; (try dsimp only at R' U' ⊢)))
  k_with "w:getMethod ref" => (k_here; (with_reducible show wpAny _ _ (getMethod (Value.ref _) (Str.ofString "parts") _) _ _ _); k_dflt (refine' node_parts ?ahn ?asu ?aN ?aF ?aX ?_; (case ahn => with_reducible assumption); (case aN => k_asm); (case asu => k_extra "m:subX"); (case aF => k_asm); (case aX => k_asm)); intro tk9; (try dsimp only))
  k_with "w:call ref" => (k_here; (with_reducible show wpAny _ _ (call (Value.ref (partsFn _)) [Value.ref _]) _ _ _); k_dflt (refine' Spec.use (parts_any _ ?e0p ?e1p ?e2p) ?qB7 ?qF7 ?qX7 ?qXP7 ?qN7 ?qT7 ?qK7 ?qhd7 ?qhu7 ?_ ?qx7; (case e0p => with_reducible assumption); (case qN7 => k_asm); (k_extra "m:use"); (case e1p => k_extra "m:subX"); (case e2p => omega); (case qx7 => k_extra "m:noX")); (rintro _ nw' h' tk' F' N' ⟨D', pvs', pn', e1, e2, lD', hP'⟩); subst e1; subst nw'; (replace lD' := allLt_of lD'); (try k_sweep); (try dsimp only))
  k_with "w:callWith ref" => (k_here; (with_reducible show wpAny _ _ (callWith _ (Value.ref (partsFn _)) [Value.ref _] _ _) _ _ _); k_dflt (refine' u_callParts ?cX9 ?cF9 ?_; (case cX9 => k_asm); (case cF9 => k_asm)); (try dsimp only))
  trivial
/-! the deck -/
noncomputable def IntTurn (h₀ : Heap) (L : Addr) (m : Str → Option Value) (s : Shared) (news : List (Addr × Obj)) (y : Value) (s' : Shared) : Prop :=
  ∃ k t h' tk', y = .int k t ∧ s' = { s with heap := h', toks := tk' } ∧ Fr h₀ L h' m ∧ News h₀ L h' news
theorem ints_get {vs : List Value} {ns : List Int} (h : IntsAre vs ns) : ∀ {i : Nat} {v : Value}, vs[i]? = some v → ∃ k t, v = .int k t := by
  induction h with
  | nil => intro i v e; simp at e
  | cons x t _ ih =>
    intro i v e
    cases i with
    | zero => simp at e; exact ⟨_, _, e.symm⟩
    | succ i => exact ih (by simpa using e)
theorem u_intSrc {prog : Program} {w : World} {A : Around} {h₀ : Heap} {L : Addr} {m : Str → Option Value} {s : Shared} {env : Env} {elt : PySem.Expr} {y : Str} {scope : Scope} {cl : List (Str × Addr)} {Fin : Shared → List Value → List (Addr × Obj) → Prop}
    {pl : Addr} {news : List (Addr × Obj)} {pvs : List Value} {pns : List Int} {pn : Nat} (hh : A.handled = none) (F : Fr h₀ L s.heap m) (N : News h₀ L s.heap news) (hpl : (pl, listOf pvs.toArray pn) ∈ news) (hI : IntsAre pvs pns) (hz : pvs.length ≤ 50000)
    (turn : ∀ (k : Int) (t : Tok) I oI C oC D ys m₂ h tk (E' : Value → Shared → Prop), LCg.NsObj oC m₂ → m₂ y = some (.int k t) → Fr h₀ L h m → News h₀ L h ((I, oI) :: (C, oC) :: (D, LCg.lst ys) :: news) →
      wpAny (model prog w) A (eval elt (compEnvC scope cl C env)) (IntTurn h₀ L m { s with heap := h, toks := tk } ((I, oI) :: (C, oC) :: (D, LCg.lst ys) :: news)) E' { s with heap := h, toks := tk })
    (fin : ∀ (g : Heap) ys ns, ys.length = pvs.length → IntsAre ys ns → Fin { s with heap := g } ys news) : LCg.CompSrc prog w A h₀ L m env elt y scope cl Fin (.ref pl) s := by
  refine LCg.CompSrc.ledger hh F N hpl (by rw [sizeLine_eq, List.size_toArray]; omega) fun g => ?_
  rw [show pvs.toArray.size = pvs.length from List.size_toArray]
  refine compRest_of (s := { s with heap := g }) (fun i ys nw => nw = news ∧ ys.length = i ∧ ∃ ns, IntsAre ys ns) ⟨rfl, rfl, [], .nil⟩ (fun i ys nw hi hJ v I oI C oC D m₂ h tk E' hP hC hx F' N' off ne => ?_) (fun ys nw hJ => ?_)
  · obtain ⟨rfl, hl, ns, hn⟩ := hJ
    have hv : pvs[i]? = some v := by simpa using hP
    obtain ⟨k, t, rfl⟩ := ints_get hI hv
    obtain ⟨o1, o2, o3⟩ := off3_ne off
    refine wpAny_mono (turn k t I oI C oC D ys m₂ h tk E' hC hx F' N') (fun y s' hE => ?_) fun _ _ e => e
    obtain ⟨k', t', h', tk', rfl, rfl, F2, N2⟩ := hE
    exact LCg.CompEnd.intro F2 N2 nw (fun _ h => h) (off3_of o1 o2 o3) (.inr ⟨_, hpl, rfl, _, rfl⟩) ⟨rfl, by rw [List.length_append, hl]; rfl, _, ints_snoc hn⟩
  · obtain ⟨rfl, hl, ns, hn⟩ := hJ
    exact fin _ _ _ hl hn
set_option maxHeartbeats 4000000 in
theorem deck_use (w : World) {dp un : Nat} {gd : Option (List Code)} {cn : Str} {cs : Scope} {a : Addr} {ccd : Value} {cl : List (Str × Addr)} {outer : List Env} {A₀ : Around} {base h₀ : Heap} {L : Addr} {m : Str → Option Value} {s : Shared} {Q E : Value → Shared → Prop} {p : Program} {loose : List Str} {mean : ExcName → Option Value} {mg mb : Str → Option Value}
    {news : List (Addr × Obj)} {sc : Addr} {vs : List Value} {ns : List Int} (hsc : h₀.IsList sc vs.toArray) (hI9 : IntsAre vs ns) (hz9 : ns.length ≤ 1000) (B : Below A₀ base outer h₀) (F : Fr h₀ L s.heap m) (X : (KK w.params).In h₀) (XP : Prims h₀) (N : News h₀ L s.heap news) (T : Top p loose mean mg mb h₀) (hk : cs.kind = .function)
    (hd : dp + 20 < recursionLimit) (hu : un + 300 < cLine)
    (hret : ∀ D vs' ns' n' h' tk', Fr h₀ L h' m → News h₀ L h' ((D, listOf (List.toArray vs') n') :: news) → IntsAre vs' ns' → ns'.length ≤ 100 → (∀ p ∈ news, p.1 < D) → Q (.ref D) { s with heap := h', toks := tk' }) :
    wpAny (model lw.row.prog w) (ktrTop dp un gd cn cs L a ccd cl outer) (call (.ref 761) [.ref sc]) Q E s := by
  revert X
  k_fill
  intro X
  refine wpAny_call ?_
  k_dflt (refine' code_def (binds := [(Str.ofString "script", .ref sc)]) ?k1 ?k2 ?k3 ?k4 ?k5 ?kA ?kF ?kK ?k6 ?k7 ?k8 ?k9 ?kB ?_ ?c2 ?c3 ?c4 ?c5; k_extra "m:enter")
  have hsc' : g'.IsList sc vs.toArray := Fr.lst FG' hsc
  k_with "w:eval ListComp" => (k_here; (with_reducible show wpAny _ _ (eval (Expr.ListComp _ _ _ _) _) _ _ _); k_dflt (refine LCg.ListComp_U (F₀ := by k_asm) (by with_unfolding_all rfl) (by decide) (by rfl) (by decide) (by rfl) ?_))
  k_with "w:CompSrc" => (k_dflt (refine' u_intSrc ?ih9 ?iF9 ?iN9 ?ip9 ?iI9 ?iz9 ?_ ?_; (case ih9 => rfl); (case iF9 => k_asm); (case iN9 => k_asm); (case ip9 => k_mem); (case iI9 => assumption); (case iz9 => (have := IntsAre.length (by assumption : IntsAre _ (List.take 24 ns)); omega))); all_goals first | (intro k t I oI C oC D ys m₂ h tk E' hC hx F' N'; k_sweep) | (intro g ys ns2 hl hn; have hq8 := IntsAre.length hn; have hq9 := IntsAre.length (by assumption : IntsAre _ (List.take 24 ns)); unfold LCg.FinE; intro D' h' tk' F' N' o1'; k_sweep; (try dsimp only)))
  k_with "w:binaryOp Add ref ref" => (k_here; (with_reducible show wpAny _ _ (binaryOp _ (Value.ref _) (Value.ref _)) _ _ _); k_dflt (refine' add_ints_at (vs := ys) ?F ?N (List.Mem.tail _ (List.Mem.head _)) ?b hn ?j ?z ?_; (case F => k_asm); (case N => k_asm); (case b => k_mem); (case j => exact IntsAre.cons _ _ IntsAre.nil); (case z => (simp only [List.length_cons, List.length_nil]; omega))); intro D2 ws2 h' F' N' l2 hI2; (try k_sweep))
  k_steps
  · exact ⟨_, _, _, _, rfl, rfl, by assumption, by assumption⟩
  · exact hret _ _ _ _ _ _ (by k_asm) (newsSub (by k_asm) (List.forall_mem_cons.mpr ⟨.head _, fun p hp => .tail _ (.tail _ (.tail _ (.tail _ hp)))⟩)) hI2 (by rw [List.length_append, ← hq8, hl, hq9]; simp only [List.length_cons, List.length_nil]; omega) (fun p hp => allLt_mem l2 p (.tail _ (.tail _ (.tail _ hp))))
/-! the law's own frame: what its calls hand back -/
noncomputable def coreOk (T : Nd) : Bool := (chk primOk (dpt T) T true ([], [])).isSome
noncomputable def progOk (d : Nat) (ts : List Nd) : Bool := (runs (progF d) ts ([], [])).isSome
theorem SpecT.mono {w : World} {f : Addr} {dm um : Nat} {vs : List Value} {news : List (Addr × Obj)} {R R' : Value → Prop} (S : SpecT w f dm um vs news R) (h : ∀ r, R r → R' r) : SpecT w f dm um vs news R' :=
  fun _ _ _ _ _ _ _ _ _ _ _ _ _ _ _ _ _ _ _ _ _ B F K P N T KB TB hk hd hu ret => S _ _ _ _ _ _ _ _ _ _ _ _ _ _ _ _ _ _ _ _ _ B F K P N T KB TB hk hd hu fun r h' tk' F' N' hr => ret r h' tk' F' N' (h r hr)
theorem SpecT.use {w : World} {f : Addr} {dm um : Nat} {vs : List Value} {news : List (Addr × Obj)} {R : Value → Prop} (S : SpecT w f dm um vs news R)
    {dp un : Nat} {gd : Option (List Code)} {cn : Str} {cs : Scope} {a : Addr} {ccd : Value} {cl : List (Str × Addr)} {A₀ : Around} {base h₀ : Heap} {L : Addr} {m : Str → Option Value} {s : Shared}
    {Q E : Value → Shared → Prop} {p : Program} {loose : List Str} {mean : ExcName → Option Value} {mg mb : Str → Option Value}
    (B : Below A₀ base [] h₀) (F : Fr h₀ L s.heap m) (K : (KK w.params).In h₀) (P : Prims h₀) (N : News h₀ L s.heap news) (T : Top p loose mean mg mb h₀) (KB : (KK w.params).In base) (TB : Top p loose mean mg mb base) (hk : cs.kind = .function) (hd : dp + dm < recursionLimit) (hu : un + um < cLine)
    (ret : ∀ r h' tk', Fr h₀ L h' m → News h₀ L h' news → R r → Q r { s with heap := h', toks := tk' }) :
    wpAny (model lw.row.prog w) (ktrTop dp un gd cn cs L a ccd cl []) (call (.ref f) vs) Q E s := S _ _ _ _ _ _ _ _ _ _ _ _ _ _ _ _ _ _ _ _ _ B F K P N T KB TB hk hd hu ret
theorem isSome_of {α : Type} {o : Option α} (h : o ≠ none) : o.isSome = true := by cases o with
  | none => exact absurd rfl h
  | some _ => rfl
theorem isSome_no {α : Type} {o : Option α} (h : o = none) : o.isSome = false := by rw [h]; rfl
theorem let_coreT (w : World) {R news : List (Addr × Obj)} {x : Addr} {T : Nd} (hT : NodeIn w.params R (.ref x) T) (hs : ∀ p ∈ R, p ∈ news) (hwt : wt T ≤ 20000) :
    SpecT w 823 220 2200 [.ref 742, .ref x] news fun r => r = .bool (coreOk T) :=
  SpecT.mono (let_core w (check_core_spec w hT hs hwt)) fun r hr => hr.elim (fun q => by rw [q.1]; exact congrArg _ (isSome_of q.2).symm) fun q => by rw [q.1]; exact congrArg _ (isSome_no q.2).symm
theorem let_progT (w : World) {R news : List (Addr × Obj)} {lk : Addr} {vs : List Value} {ts : List Nd} {n d : Nat} (hlk : (lk, listOf (List.toArray vs) n) ∈ news) (hNs : NodesIn w.params R vs ts) (hs : ∀ p ∈ R, p ∈ news) (hdp : ∀ t ∈ ts, dpt t ≤ d) (hwt : ∀ t ∈ ts, wt t ≤ 20000) (hlen : ts.length ≤ 2) :
    SpecT w 823 240 2700 [.ref 749, .ref lk] news fun r => r = .bool (progOk d ts) :=
  SpecT.mono (let_prog w (check_program_spec w hlk hNs hs hdp hwt hlen)) fun r hr => hr.elim (fun q => by rw [q.1]; exact congrArg _ (isSome_of q.2).symm) fun q => by rw [q.1]; exact congrArg _ (isSome_no q.2).symm
/-- the law's walk answers as the check does -/
theorem fine_core (d : Nat) (T : Nd) : (fine primOk d T [] true ([], [])).isSome = (chk primOk d T true ([], [])).isSome := by
  have h := chk_fine primOk d T [] true ([], []) (fun x => by simp) (by simp [keysOf])
  simp only [keysOf, List.map_nil] at h
  rcases h with ⟨h1, h2⟩ | ⟨e, l, h1, h2, _⟩ <;> (rw [h1, h2]; rfl)
theorem fine_prog (d : Nat) (ts : List Nd) : (runs (fun u s => fine primOk d u [] true s) ts ([], [])).isSome = progOk d ts := by
  have h := Agree.runs (f := fun u s => fine primOk d u [] true s) (c := progF d) (kn := []) (fun t s hk hn => chk_fine primOk d t [] true s hk hn) ts ([], []) (fun x => by simp) (by simp [keysOf])
  simp only [keysOf, List.map_nil] at h
  unfold progOk
  rcases h with ⟨h1, h2⟩ | ⟨e, l, h1, h2, _⟩ <;> (rw [h1, h2]; rfl)
theorem fineR_ok {T : Nd} {mt lb : Addr} {R news' : List (Addr × Obj)} {r : Value} (h : FineR (dpt T) T [] true [] [] mt lb R r news') : r = .bool (coreOk T) ∧ ∃ om ol, news' = (mt, om) :: (lb, ol) :: R := by
  obtain ⟨om, ol, ms', ls', e, _, _, _, _, hf⟩ := h
  refine ⟨?_, om, ol, e⟩
  have hc := fine_core (dpt T) T
  unfold coreOk
  rw [← hc]
  rcases hf with ⟨q, rfl⟩ | ⟨q, rfl⟩ <;> rw [q] <;> rfl
/-- what the law keeps between its statements; C: its frame's cells -/
structure LwS (w : World) (d e nl : Addr) (od oe : Obj) (C : List (Addr × Obj)) (vs : List Value) (n : Nat) (R : List (Addr × Obj)) (ts : List Nd) : Prop where
  dO : DeckO od
  sO : StateO oe
  de : NeA d e
  nd : ∀ p ∈ (nl, listOf (List.toArray vs) n) :: (C ++ R), p.1 ≠ d
  ns : ∀ p ∈ (nl, listOf (List.toArray vs) n) :: (C ++ R), p.1 ≠ e
  off : ∀ p ∈ C ++ R, p.1 ≠ nl
  sep : ∀ p ∈ R, ∀ q ∈ C, q.1 ≠ p.1
  nodes : NodesIn w.params R vs ts
  small : ∀ t ∈ ts, wt t ≤ 694 ∧ dpt t ≤ 7
section
variable {w : World} {d e nl : Addr} {od oe od' oe' : Obj} {vs : List Value} {n n' : Nat} {C R R' X : List (Addr × Obj)} {ts : List Nd}
theorem LwS.led (S : LwS w d e nl od oe C vs n R ts) : Led d od e oe ((nl, listOf (List.toArray vs) n) :: (C ++ R)) [] ((nl, listOf (List.toArray vs) n) :: (C ++ R)) := Led.start S.dO S.sO S.de S.nd S.ns
theorem LwS.more (S : LwS w d e nl od oe C vs n R ts) (Ld : Led d od' e oe' ((nl, listOf (List.toArray vs) n) :: (C ++ R)) X R') : LwS w d e nl od' oe' C vs n (X ++ R) ts where
  dO := Ld.dO
  sO := Ld.sO
  de := Ld.de
  nd := List.forall_mem_cons.mpr ⟨S.nd _ (.head _), List.forall_mem_append.mpr ⟨fun p hp => S.nd p (.tail _ (List.mem_append_left _ hp)), List.forall_mem_append.mpr ⟨fun p hp => Ld.nd p (Ld.new p hp), fun p hp => S.nd p (.tail _ (List.mem_append_right _ hp))⟩⟩⟩
  ns := List.forall_mem_cons.mpr ⟨S.ns _ (.head _), List.forall_mem_append.mpr ⟨fun p hp => S.ns p (.tail _ (List.mem_append_left _ hp)), List.forall_mem_append.mpr ⟨fun p hp => Ld.ns p (Ld.new p hp), fun p hp => S.ns p (.tail _ (List.mem_append_right _ hp))⟩⟩⟩
  off := List.forall_mem_append.mpr ⟨fun p hp => S.off p (List.mem_append_left _ hp), List.forall_mem_append.mpr ⟨fun p hp => Ne.symm (Ld.ab p hp _ (.head _)), fun p hp => S.off p (List.mem_append_right _ hp)⟩⟩
  sep := List.forall_mem_append.mpr ⟨fun p hp q hq => Ld.ab p hp q (.tail _ (List.mem_append_left _ hq)), S.sep⟩
  nodes := S.nodes.mono fun p hp => List.mem_append_right _ hp
  small := S.small
theorem LwS.sub (Ld : Led d od' e oe' ((nl, listOf (List.toArray vs) n) :: (C ++ R)) X R') : ∀ p ∈ (d, od') :: (e, oe') :: (nl, listOf (List.toArray vs) n) :: (C ++ (X ++ R)), p ∈ (d, od') :: (e, oe') :: R' :=
  List.forall_mem_cons.mpr ⟨.head _, List.forall_mem_cons.mpr ⟨.tail _ (.head _), List.forall_mem_cons.mpr ⟨.tail _ (.tail _ (Ld.low _ (.head _))), List.forall_mem_append.mpr ⟨fun p hp => .tail _ (.tail _ (Ld.low p (.tail _ (List.mem_append_left _ hp)))), List.forall_mem_append.mpr ⟨fun p hp => .tail _ (.tail _ (Ld.new p hp)), fun p hp => .tail _ (.tail _ (Ld.low p (.tail _ (List.mem_append_right _ hp))))⟩⟩⟩⟩⟩
theorem LwS.push {v : Value} {T : Nd} (S : LwS w d e nl od oe C vs n R ts) (hT : NodeIn w.params R v T) (h1 : wt T ≤ 694) (h2 : dpt T ≤ 7) : LwS w d e nl od oe C (vs ++ [v]) n' R (ts ++ [T]) where
  dO := S.dO
  sO := S.sO
  de := S.de
  nd := List.forall_mem_cons.mpr ⟨S.nd (nl, listOf (List.toArray vs) n) (.head _), fun p hp => S.nd p (.tail _ hp)⟩
  ns := List.forall_mem_cons.mpr ⟨S.ns (nl, listOf (List.toArray vs) n) (.head _), fun p hp => S.ns p (.tail _ hp)⟩
  off := S.off
  sep := S.sep
  nodes := S.nodes.snoc hT
  small := List.forall_mem_append.mpr ⟨S.small, fun t ht => by rw [List.mem_singleton.mp ht]; exact ⟨h1, h2⟩⟩
theorem LwS.offAll (S : LwS w d e nl od oe C vs n R ts) : ∀ p ∈ (d, od) :: (e, oe) :: (C ++ R), p.1 ≠ nl :=
  List.forall_mem_cons.mpr ⟨Ne.symm (S.nd _ (.head _)), List.forall_mem_cons.mpr ⟨Ne.symm (S.ns _ (.head _)), S.off⟩⟩
/-- one more that stands apart (a loop's turn counter), and it gone again -/
theorem LwS.withC {q : Addr × Obj} (S : LwS w d e nl od oe C vs n R ts) (h : ∀ p ∈ (d, od) :: (e, oe) :: (nl, listOf (List.toArray vs) n) :: (C ++ R), p.1 ≠ q.1) : LwS w d e nl od oe (q :: C) vs n R ts where
  dO := S.dO
  sO := S.sO
  de := S.de
  nd := List.forall_mem_cons.mpr ⟨S.nd _ (.head _), List.forall_mem_cons.mpr ⟨Ne.symm (h _ (.head _)), fun p hp => S.nd p (.tail _ hp)⟩⟩
  ns := List.forall_mem_cons.mpr ⟨S.ns _ (.head _), List.forall_mem_cons.mpr ⟨Ne.symm (h _ (.tail _ (.head _))), fun p hp => S.ns p (.tail _ hp)⟩⟩
  off := List.forall_mem_cons.mpr ⟨Ne.symm (h _ (.tail _ (.tail _ (.head _)))), S.off⟩
  sep := fun p hp => List.forall_mem_cons.mpr ⟨Ne.symm (h p (.tail _ (.tail _ (.tail _ (List.mem_append_right _ hp))))), S.sep p hp⟩
  nodes := S.nodes
  small := S.small
theorem LwS.dropC {q : Addr × Obj} (S : LwS w d e nl od oe (q :: C) vs n R ts) : LwS w d e nl od oe C vs n R ts where
  dO := S.dO
  sO := S.sO
  de := S.de
  nd := List.forall_mem_cons.mpr ⟨S.nd _ (.head _), fun p hp => S.nd p (.tail _ (.tail _ hp))⟩
  ns := List.forall_mem_cons.mpr ⟨S.ns _ (.head _), fun p hp => S.ns p (.tail _ (.tail _ hp))⟩
  off := fun p hp => S.off p (.tail _ hp)
  sep := fun p hp q hq => S.sep p hp q (.tail _ hq)
  nodes := S.nodes
  small := S.small
theorem LwS.offC {q : Addr × Obj} (S : LwS w d e nl od oe (q :: C) vs n R ts) (hC : ∀ p ∈ C, p.1 ≠ q.1) : ∀ p ∈ (d, od) :: (e, oe) :: (nl, listOf (List.toArray vs) n) :: (C ++ R), p.1 ≠ q.1 :=
  List.forall_mem_cons.mpr ⟨Ne.symm (S.nd q (.tail _ (.head _))), List.forall_mem_cons.mpr ⟨Ne.symm (S.ns q (.tail _ (.head _))), List.forall_mem_cons.mpr ⟨Ne.symm (S.off q (.head _)), List.forall_mem_append.mpr ⟨hC, fun p hp => Ne.symm (S.sep p hp q (.head _))⟩⟩⟩⟩
theorem sub_turn {q : Addr × Obj} {l news : List (Addr × Obj)} {a b c : Addr × Obj} (h : ∀ p ∈ a :: b :: c :: l, p ∈ news) : ∀ p ∈ a :: b :: c :: (q :: l), p ∈ q :: news :=
  List.forall_mem_cons.mpr ⟨.tail _ (h _ (.head _)), List.forall_mem_cons.mpr ⟨.tail _ (h _ (.tail _ (.head _))), List.forall_mem_cons.mpr ⟨.tail _ (h _ (.tail _ (.tail _ (.head _)))), List.forall_mem_cons.mpr ⟨.head _, fun p hp => .tail _ (h p (.tail _ (.tail _ (.tail _ hp))))⟩⟩⟩⟩
theorem sub_turn' {q : Addr × Obj} {l : List (Addr × Obj)} {a b c : Addr × Obj} : ∀ p ∈ q :: a :: b :: c :: l, p ∈ a :: b :: c :: (q :: l) :=
  List.forall_mem_cons.mpr ⟨.tail _ (.tail _ (.tail _ (.head _))), List.forall_mem_cons.mpr ⟨.head _, List.forall_mem_cons.mpr ⟨.tail _ (.head _), List.forall_mem_cons.mpr ⟨.tail _ (.tail _ (.head _)), fun p hp => .tail _ (.tail _ (.tail _ (.tail _ hp)))⟩⟩⟩⟩
/-- the cells are not asked any more -/
theorem LwS.noC (S : LwS w d e nl od oe C vs n R ts) : LwS w d e nl od oe [] vs n R ts where
  dO := S.dO
  sO := S.sO
  de := S.de
  nd := List.forall_mem_cons.mpr ⟨S.nd _ (.head _), fun p hp => S.nd p (.tail _ (List.mem_append_right _ hp))⟩
  ns := List.forall_mem_cons.mpr ⟨S.ns _ (.head _), fun p hp => S.ns p (.tail _ (List.mem_append_right _ hp))⟩
  off := fun p hp => S.off p (List.mem_append_right _ hp)
  sep := fun _ _ _ h => nomatch h
  nodes := S.nodes
  small := S.small
end
theorem LwS.node {P : Params} {d e nl : Addr} {od oe : Obj} {vs : List Value} {n : Nat} {C R R' x Y : List (Addr × Obj)} {v : Value} {T : Nd} (Ld : Led d od e oe ((nl, listOf (List.toArray vs) n) :: (C ++ R)) (x ++ Y) R') (hT : NodeIn P x v T) : NodeIn P ((x ++ Y) ++ R) v T := hT.mono fun p hp => List.mem_append_left _ (List.mem_append_left _ hp)
theorem LwS.start {w : World} {d e nl : Addr} {od oe : Obj} {n : Nat} {C : List (Addr × Obj)} (a : DeckO od) (b : StateO oe) (hd : ∀ p ∈ C, p.1 < d) (l1 : AllLt e ((d, od) :: C)) (l2 : AllLt nl ((e, oe) :: (d, od) :: C)) : LwS w d e nl od oe C [] n [] [] := by
  have a1 := allLt_mem l1
  have a2 := allLt_mem l2
  refine ⟨a, b, Nat.ne_of_lt (a1 _ (.head _)), ?_, ?_, ?_, (fun _ h => nomatch h), .nil, (fun _ h => nomatch h)⟩
  · rw [List.append_nil]; exact List.forall_mem_cons.mpr ⟨Ne.symm (Nat.ne_of_lt (a2 (d, od) (.tail _ (.head _)))), fun p hp => Nat.ne_of_lt (hd p hp)⟩
  · rw [List.append_nil]; exact List.forall_mem_cons.mpr ⟨Ne.symm (Nat.ne_of_lt (a2 (e, oe) (.head _))), fun p hp => Nat.ne_of_lt (a1 p (.tail _ hp))⟩
  · rw [List.append_nil]; exact fun p hp => Nat.ne_of_lt (a2 p (.tail _ (.tail _ hp)))
theorem sub3 {α : Type} {a b c : α} {l : List α} : ∀ p ∈ c :: a :: b :: l, p ∈ a :: b :: c :: l := List.forall_mem_cons.mpr ⟨.tail _ (.tail _ (.head _)), List.forall_mem_cons.mpr ⟨.head _, List.forall_mem_cons.mpr ⟨.tail _ (.head _), fun p hp => .tail _ (.tail _ (.tail _ hp))⟩⟩⟩
theorem sub3' {α : Type} {a b c : α} {l : List α} : ∀ p ∈ a :: b :: c :: l, p ∈ c :: a :: b :: l := List.forall_mem_cons.mpr ⟨.tail _ (.head _), List.forall_mem_cons.mpr ⟨.tail _ (.tail _ (.head _)), List.forall_mem_cons.mpr ⟨.head _, fun p hp => .tail _ (.tail _ (.tail _ hp))⟩⟩⟩
theorem u_fine (w : World) {dp un : Nat} {gd : Option (List Code)} {cn : Str} {cs : Scope} {a : Addr} {ccd : Value} {cl : List (Str × Addr)} {outer : List Env} {A₀ : Around} {base h₀ : Heap} {L : Addr} {m : Str → Option Value} {s : Shared} {Q E : Value → Shared → Prop} {p : Program} {loose : List Str} {mean : ExcName → Option Value} {mg mb : Str → Option Value}
    {x kl mt lb : Addr} {T : Nd} {R news : List (Addr × Obj)} {n1 n2 n3 : Nat} {o1 o2 o3 : Obj} (hT : NodeIn w.params R (.ref x) T) (hs : ∀ p ∈ R, p ∈ news) (hw : wt T ≤ 694) (h7 : dpt T ≤ 7) (N : News h₀ L s.heap ((lb, listOf (List.toArray []) n1) :: (mt, listOf (List.toArray []) n2) :: (kl, listOf (List.toArray []) n3) :: news))
    (l3 : AllLt lb ((mt, o1) :: (kl, o2) :: news)) (l2 : AllLt mt ((kl, o3) :: news)) (B : Below A₀ base outer h₀) (F : Fr h₀ L s.heap m) (K : (KK w.params).In h₀) (P : Prims h₀) (T' : Top p loose mean mg mb h₀) (hk : cs.kind = .function) (hd : dp + 110 < recursionLimit) (hu : un + 1200 < cLine)
    (h : ∀ h' tk', Fr h₀ L h' m → News h₀ L h' news → Q (.bool (coreOk T)) { s with heap := h', toks := tk' }) :
    wpAny (model lw.row.prog w) (ktrTop dp un gd cn cs L a ccd cl outer) (call (.ref 816) [.ref x, .ref kl, .ref mt, .ref lb, .bool true]) Q E s := by
  have a3 := allLt_mem l3
  have a2 := allLt_mem l2
  refine Spec.use (fine_all w (dpt T) (T := T) (kl := kl) (mt := mt) (lb := lb) (ks := []) (ms := []) (ls := []) (R := (kl, listOf (List.toArray []) n3) :: news) (om := listOf (List.toArray []) n2) (ol := listOf (List.toArray []) n1) (hT.mono fun p hp => .tail _ (hs p hp)) (Nat.le_refl _) ⟨[], _, .head _, .nil⟩ ⟨[], _, rfl, .nil⟩ ⟨[], _, rfl, .nil⟩
    (show @Ne Nat mt lb from Nat.ne_of_lt (a3 (mt, o1) (.head _))) (List.forall_mem_cons.mpr ⟨Nat.ne_of_lt (a2 (kl, o3) (.head _)), fun p hp => Nat.ne_of_lt (a2 p (.tail _ hp))⟩) (List.forall_mem_cons.mpr ⟨Nat.ne_of_lt (a3 (kl, o2) (.tail _ (.head _))), fun p hp => Nat.ne_of_lt (a3 p (.tail _ (.tail _ hp)))⟩)
    (by simp only [List.length_nil]; omega) (by simp only [List.length_nil]; omega) (by simp only [List.length_nil]; omega)) B F K P (newsSub N (List.forall_mem_cons.mpr ⟨.tail _ (.head _), List.forall_mem_cons.mpr ⟨.head _, fun p hp => .tail _ (.tail _ hp)⟩⟩)) T' hk (by unfold dmF; omega) (by unfold umF; omega) (fun r news' h' tk' F' N' hr => ?_) (fun _ _ _ _ _ _ x => x.elim)
  obtain ⟨rfl, om, ol, rfl⟩ := fineR_ok hr
  exact h _ _ F' (newsSub N' fun p hp => .tail _ (.tail _ (.tail _ hp)))
noncomputable def lBody : List Stmt := match (fBody (stAt 58))[1]? with | some (Stmt.For _ _ b _ _) => b | _ => []
noncomputable abbrev lEnv (L' : Nat) (fa : Addr) (cd : Value) : Env := envOfC (Str.ofString "law") (fScope (stAt 58)) L' fa cd
/-! a turn of the law's loop: its node -/
set_option maxHeartbeats 1000000 in
theorem law_turnA (w : World) {g : Heap} {L' : Nat} {fa : Addr} {cd : Value} {m : Str → Option Value} {s : Shared} {Q : Flow → Shared → Prop} {E : Value → Shared → Prop} {p : Program} {loose : List Str} {mean : ExcName → Option Value} {mg mb : Str → Option Value}
    {d e nl : Addr} {od oe : Obj} {vs : List Value} {n : Nat} {C R : List (Addr × Obj)} {ts : List Nd} {k : Int} {tk : Tok}
    (B' : Below callerA g [] g) (F' : Fr g L' s.heap m) (X' : (KK w.params).In g) (XP' : Prims g) (T' : Top p loose mean mg mb g) (S : LwS w d e nl od oe C vs n R ts) (N' : News g L' s.heap ((d, od) :: (e, oe) :: (nl, listOf (List.toArray vs) n) :: (C ++ R)))
    (hm1 : m (Str.ofString "_law_deck") = some (.ref d)) (hm2 : m (Str.ofString "_law_state") = some (.ref e)) (hm3 : m (Str.ofString "_law_turn") = some (.int k tk)) (hk0 : 0 ≤ k) (hk2 : k ≤ 2)
    (next : ∀ od' oe' X x T h' tk' m', Fr g L' h' m' → News g L' h' ((d, od') :: (e, oe') :: (nl, listOf (List.toArray vs) n) :: (C ++ (X ++ R))) → LwS w d e nl od' oe' C vs n (X ++ R) ts → NodeIn w.params (X ++ R) (.ref x) T → wt T ≤ 694 → dpt T ≤ 7 →
      m' (Str.ofString "_law_node") = some (.ref x) → (∀ y, y ≠ Str.ofString "_law_node" → m' y = m y) → wpAny (model lw.row.prog w) (callerA.deeper (lEnv L' fa cd)) (execs (lBody.drop 1) (lEnv L' fa cd)) Q E { s with heap := h', toks := tk' }) :
    wpAny (model lw.row.prog w) (callerA.deeper (lEnv L' fa cd)) (execs lBody (lEnv L' fa cd)) Q E s := by
  revert X'
  k_fill
  intro X'
  have hN3 : NodeS w 3 := @node_all w 3
  have Ld' := S.led
  have hdm : dmN 3 = 90 := rfl
  have hum : umN 3 = 900 := rfl
  have hkk : k = 0 ∨ k = 1 ∨ k = 2 := by omega
  have hfd : 0 ≤ k.fdiv 2 ∧ k.fdiv 2 ≤ 1 := by rcases hkk with rfl | rfl | rfl <;> decide
  have kdF : KdF (fScope (stAt 58)) := by (unfold KdF; kernel_rfl!)
  have kd0 : KdL (fScope (stAt 58)) (Str.ofString "_law_deck") := ⟨by kernel_rfl!, by kernel_rfl!⟩
  have kd1 : KdL (fScope (stAt 58)) (Str.ofString "_law_state") := ⟨by kernel_rfl!, by kernel_rfl!⟩
  have kd2 : KdL (fScope (stAt 58)) (Str.ofString "_law_nodes") := ⟨by kernel_rfl!, by kernel_rfl!⟩
  have kd3 : KdL (fScope (stAt 58)) (Str.ofString "_law_turn") := ⟨by kernel_rfl!, by kernel_rfl!⟩
  have kd4 : KdL (fScope (stAt 58)) (Str.ofString "_law_node") := ⟨by kernel_rfl!, by kernel_rfl!⟩
  have kd5 : KdG (fScope (stAt 58)) (Str.ofString "_law_node_of") := ⟨by kernel_rfl!, by kernel_rfl!⟩
  k_with "w:execs cons" => ((with_reducible show wpAny _ _ (execs (Stmt.If _ _ _ _ :: _) _) _ _ _); (obtain ⟨xn, Cn, dn, en, hxn⟩ := NodeIn.ref hT'); subst en; (have hS9 := LwS.more S Ld'); (have hT9 := LwS.node Ld' hT'); (with_reducible rename News _ _ _ _ => Nx); (have hN9 := newsSub Nx (LwS.sub Ld')); k_dflt (refine' next _ _ _ _ _ _ _ _ ?nF9 ?nN9 hS9 hT9 hw' hD' ?nm9 ?no9; (case nF9 => k_asm); (case nN9 => exact hN9); (case nm9 => exact if_pos rfl); (case no9 => exact fun y hy => if_neg hy)))
  k_steps
/-! a turn of the law's loop: its two answers, its list -/
set_option maxHeartbeats 1000000 in
theorem law_turnB (w : World) {g : Heap} {L' : Nat} {fa : Addr} {cd : Value} {m : Str → Option Value} {s : Shared} {Q : Flow → Shared → Prop} {E : Value → Shared → Prop} {p : Program} {loose : List Str} {mean : ExcName → Option Value} {mg mb : Str → Option Value}
    {d e nl x : Addr} {od oe : Obj} {vs : List Value} {n : Nat} {C R : List (Addr × Obj)} {ts : List Nd} {T : Nd}
    (B' : Below callerA g [] g) (F' : Fr g L' s.heap m) (X' : (KK w.params).In g) (XP' : Prims g) (T' : Top p loose mean mg mb g) (S : LwS w d e nl od oe C vs n R ts) (N' : News g L' s.heap ((d, od) :: (e, oe) :: (nl, listOf (List.toArray vs) n) :: (C ++ R)))
    (hT : NodeIn w.params R (.ref x) T) (hw : wt T ≤ 694) (h7 : dpt T ≤ 7) (hz : vs.length ≤ 100)
    (hm1 : m (Str.ofString "_law_nodes") = some (.ref nl)) (hm2 : m (Str.ofString "_law_node") = some (.ref x))
    (next : ∀ h' tk' n', Fr g L' h' m → News g L' h' ((d, od) :: (e, oe) :: (nl, listOf (List.toArray (vs ++ [.ref x])) n') :: (C ++ R)) → LwS w d e nl od oe C (vs ++ [.ref x]) n' R (ts ++ [T]) → Q .next { s with heap := h', toks := tk' }) :
    wpAny (model lw.row.prog w) (callerA.deeper (lEnv L' fa cd)) (execs (lBody.drop 1) (lEnv L' fa cd)) Q E s := by
  revert X'
  k_fill
  intro X'
  have hsR : ∀ p ∈ R, p ∈ (d, od) :: (e, oe) :: (nl, listOf (List.toArray vs) n) :: (C ++ R) := fun p hp => .tail _ (.tail _ (.tail _ (List.mem_append_right _ hp)))
  have kdF : KdF (fScope (stAt 58)) := by (unfold KdF; kernel_rfl!)
  have kd0 : KdL (fScope (stAt 58)) (Str.ofString "_law_nodes") := ⟨by kernel_rfl!, by kernel_rfl!⟩
  have kd1 : KdL (fScope (stAt 58)) (Str.ofString "_law_node") := ⟨by kernel_rfl!, by kernel_rfl!⟩
  have kd2 : KdG (fScope (stAt 58)) (Str.ofString "_law_is_let_through") := ⟨by kernel_rfl!, by kernel_rfl!⟩
  have kd3 : KdG (fScope (stAt 58)) (Str.ofString "check_core") := ⟨by kernel_rfl!, by kernel_rfl!⟩
  have kd4 : KdG (fScope (stAt 58)) (Str.ofString "_law_is_fine") := ⟨by kernel_rfl!, by kernel_rfl!⟩
  k_with "w:call ref" => (k_here; (with_reducible show wpAny _ _ (call (Value.ref 823) [Value.ref 742, Value.ref _]) _ _ _); k_dflt (refine' SpecT.use (let_coreT _ hT hsR ?hw7) ?qB7 ?qF7 ?qX7 ?qXP7 ?qN7 ?qT7 ?qKB7 ?qTB7 ?qK7 ?qhd7 ?qhu7 ?_; (case hw7 => omega); (case qN7 => k_asm); (k_extra "m:use"); (case qKB7 => k_asm); (case qTB7 => k_asm)); (rintro _ h' tk' F' N' e9; subst e9); (try k_sweep); (try dsimp only))
  k_with "w:call ref" => (k_here; (with_reducible show wpAny _ _ (call (Value.ref 816) [Value.ref _, Value.ref _, Value.ref _, Value.ref _, Value.bool true]) _ _ _); k_dflt (refine' u_fine _ hT hsR hw h7 ?qN7 ?ql3 ?ql2 ?qB7 ?qF7 ?qX7 ?qXP7 ?qT7 ?qK7 ?qhd7 ?qhu7 ?_; (case qN7 => k_asm); (case ql3 => assumption); (case ql2 => assumption); (k_extra "m:use")); (intro h' tk' F' N'); (try k_sweep); (try dsimp only))
  k_with "w:call builtin:list.append" => ((try dsimp only); k_dflt (refine' u_appV (vs := vs) ?gF9 (newsSub ?gN9 sub3) ?go9 ?gz9 ?_; (case gN9 => k_asm); (case gF9 => k_asm); (case go9 => exact LwS.offAll S); (case gz9 => omega)); intro h' F' N'; (have N9 := newsSub N' (sub3' (a := (d, od)) (b := (e, oe)))); (try k_sweep))
  k_steps
  · exact absurd (by assumption : (coreOk T != coreOk T) = true) (by simp)
  · exact next _ _ _ (by assumption) N9 (LwS.push S hT hw h7)
/-! the law's loop -/
theorem law_turn (w : World) {g : Heap} {L' : Nat} {fa : Addr} {cd : Value} {m : Str → Option Value} {s : Shared} {Q : Flow → Shared → Prop} {E : Value → Shared → Prop} {p : Program} {loose : List Str} {mean : ExcName → Option Value} {mg mb : Str → Option Value}
    {d e nl : Addr} {od oe : Obj} {vs : List Value} {n : Nat} {C R : List (Addr × Obj)} {ts : List Nd} {k : Int} {tk : Tok}
    (B' : Below callerA g [] g) (F' : Fr g L' s.heap m) (X' : (KK w.params).In g) (XP' : Prims g) (T' : Top p loose mean mg mb g) (S : LwS w d e nl od oe C vs n R ts) (N' : News g L' s.heap ((d, od) :: (e, oe) :: (nl, listOf (List.toArray vs) n) :: (C ++ R)))
    (hm1 : m (Str.ofString "_law_deck") = some (.ref d)) (hm2 : m (Str.ofString "_law_state") = some (.ref e)) (hm4 : m (Str.ofString "_law_nodes") = some (.ref nl)) (hm3 : m (Str.ofString "_law_turn") = some (.int k tk)) (hk0 : 0 ≤ k) (hk2 : k ≤ 2) (hz : vs.length ≤ 100)
    (next : ∀ od' oe' R2 x T n' h' tk' m', Fr g L' h' m' → News g L' h' ((d, od') :: (e, oe') :: (nl, listOf (List.toArray (vs ++ [.ref x])) n') :: (C ++ R2)) → LwS w d e nl od' oe' C (vs ++ [.ref x]) n' R2 (ts ++ [T]) →
      m' (Str.ofString "_law_deck") = some (.ref d) → m' (Str.ofString "_law_state") = some (.ref e) → m' (Str.ofString "_law_nodes") = some (.ref nl) → Q .next { s with heap := h', toks := tk' }) :
    wpAny (model lw.row.prog w) (callerA.deeper (lEnv L' fa cd)) (execs lBody (lEnv L' fa cd)) Q E s :=
  law_turnA w B' F' X' XP' T' S N' hm1 hm2 hm3 hk0 hk2 fun od' oe' X x T h' tk' m' F2 N2 S2 hT hw h7 e1 e2 => law_turnB w B' F2 X' XP' T' S2 N2 hT hw h7 hz ((e2 _ (by decide)).trans hm4) e1 fun h'' tk'' n' F3 N3 S3 =>
    next _ _ _ _ _ _ _ _ _ F3 N3 S3 ((e2 _ (by decide)).trans hm1) ((e2 _ (by decide)).trans hm2) ((e2 _ (by decide)).trans hm4)
theorem law_iter (w : World) {g : Heap} {L' : Nat} {fa : Addr} {cd : Value} {m : Str → Option Value} {s : Shared} {Q : Flow → Shared → Prop} {E : Value → Shared → Prop} {p : Program} {loose : List Str} {mean : ExcName → Option Value} {mg mb : Str → Option Value}
    {d e nl I : Addr} {od oe it : Obj} {vs : List Value} {n : Nat} {C R news : List (Addr × Obj)} {ts : List Nd} {k : Int} {tk : Tok} {rest : (Str → Option Value) → List (Addr × Obj) → Prop}
    (B' : Below callerA g [] g) (X' : (KK w.params).In g) (XP' : Prims g) (T' : Top p loose mean mg mb g) (S : LwS w d e nl od oe C vs n R ts) (hC : ∀ p ∈ C, p.1 ≠ I) (hI : ∀ p ∈ (d, od) :: (e, oe) :: (nl, listOf (List.toArray vs) n) :: (C ++ R), p.1 ≠ I) (hsub : ∀ p ∈ (d, od) :: (e, oe) :: (nl, listOf (List.toArray vs) n) :: (C ++ R), p ∈ news)
    (hm1 : m (Str.ofString "_law_deck") = some (.ref d)) (hm2 : m (Str.ofString "_law_state") = some (.ref e)) (hm4 : m (Str.ofString "_law_nodes") = some (.ref nl)) (hk0 : 0 ≤ k) (hk2 : k ≤ 2) (hz : vs.length ≤ 100)
    (F' : Fr g L' s.heap (fun y => if y = Str.ofString "_law_turn" then some (.int k tk) else m y)) (N' : News g L' s.heap ((I, it) :: news))
    (next : ∀ od' oe' R2 x T n' m', LwS w d e nl od' oe' C (vs ++ [.ref x]) n' R2 (ts ++ [T]) → (∀ p ∈ (d, od') :: (e, oe') :: (nl, listOf (List.toArray (vs ++ [.ref x])) n') :: (C ++ R2), p.1 ≠ I) →
      m' (Str.ofString "_law_deck") = some (.ref d) → m' (Str.ofString "_law_state") = some (.ref e) → m' (Str.ofString "_law_nodes") = some (.ref nl) → rest m' ((d, od') :: (e, oe') :: (nl, listOf (List.toArray (vs ++ [.ref x])) n') :: (C ++ R2))) :
    wpAny (model lw.row.prog w) (callerA.deeper (lEnv L' fa cd)) (execs lBody (lEnv L' fa cd)) (UnrPost g L' s I it rest Q) E s :=
  law_turn w B' F' X' XP' T' (S.withC (q := (I, it)) hI) (newsSub N' (sub_turn hsub)) (((if_neg (by decide)).trans hm1)) (((if_neg (by decide)).trans hm2)) (((if_neg (by decide)).trans hm4)) (if_pos rfl) hk0 hk2 hz fun od' oe' R2 x T n' h' tk' m' F2 N2 S2 e1 e2 e3 =>
    UnrEnd.intro F2 N2 _ sub_turn' (S2.offC (q := (I, it)) hC) (next _ _ _ _ _ _ _ S2.dropC (S2.offC (q := (I, it)) hC) e1 e2 e3)
theorem law_range (w : World) {g : Heap} {L' : Nat} {fa I : Addr} {cd : Value} {m : Str → Option Value} {s : Shared} {Q : Flow → Shared → Prop} {E : Value → Shared → Prop} {p : Program} {loose : List Str} {mean : ExcName → Option Value} {mg mb : Str → Option Value}
    {d e nl : Addr} {od oe : Obj} {n : Nat} {C news : List (Addr × Obj)}
    (B' : Below callerA g [] g) (X' : (KK w.params).In g) (XP' : Prims g) (T' : Top p loose mean mg mb g) (S : LwS w d e nl od oe C [] n [] []) (hI : ∀ p ∈ (d, od) :: (e, oe) :: (nl, listOf (List.toArray []) n) :: (C ++ []), p.1 ≠ I) (hsub : ∀ p ∈ (d, od) :: (e, oe) :: (nl, listOf (List.toArray []) n) :: (C ++ []), p ∈ news)
    (hm1 : m (Str.ofString "_law_deck") = some (.ref d)) (hm2 : m (Str.ofString "_law_state") = some (.ref e)) (hm4 : m (Str.ofString "_law_nodes") = some (.ref nl))
    (next : ∀ od' oe' x1 x2 x3 T1 T2 T3 n' R h' tk' m', Fr g L' h' m' → News g L' h' ((d, od') :: (e, oe') :: (nl, listOf (List.toArray [.ref x1, .ref x2, .ref x3]) n') :: (C ++ R)) → LwS w d e nl od' oe' C [.ref x1, .ref x2, .ref x3] n' R [T1, T2, T3] →
      m' (Str.ofString "_law_deck") = some (.ref d) → m' (Str.ofString "_law_state") = some (.ref e) → m' (Str.ofString "_law_nodes") = some (.ref nl) → Q .next { s with heap := h', toks := tk' }) :
    RangeRest lw.row.prog w (callerA.deeper (lEnv L' fa cd)) E g (lEnv L' fa cd) (Str.ofString "_law_turn") lBody Q s I 0 3 3 0 m news := by
  have hC : ∀ p ∈ C, p.1 ≠ I := fun p hp => hI p (.tail _ (.tail _ (.tail _ (List.mem_append_left _ hp))))
  refine RangeRest.succ fun t h tk F N => law_iter w B' X' XP' T' S hC hI hsub hm1 hm2 hm4 (by decide) (by decide) (Nat.zero_le _) F N fun od1 oe1 R1 x1 T1 n1 m1 S1 I1 a1 a2 a3 => ?_
  refine RangeRest.succ fun t h tk F N => law_iter w B' X' XP' T' S1 hC I1 (fun _ h => h) a1 a2 a3 (by decide) (by decide) (Nat.le_of_ble_eq_true rfl) F N fun od2 oe2 R2 x2 T2 n2 m2 S2 I2 b1 b2 b3 => ?_
  refine RangeRest.succ fun t h tk F N => law_iter w B' X' XP' T' S2 hC I2 (fun _ h => h) b1 b2 b3 (by decide) (by decide) (Nat.le_of_ble_eq_true rfl) F N fun od3 oe3 R3 x3 T3 n3 m3 S3 I3 c1 c2 c3 => ?_
  exact RangeRest.zero fun h tk F N => next _ _ _ _ _ _ _ _ _ _ _ _ _ F N S3 c1 c2 c3
theorem law_range0 (w : World) {g : Heap} {L' : Nat} {fa I : Addr} {cd : Value} {m : Str → Option Value} {s : Shared} {Q : Flow → Shared → Prop} {E : Value → Shared → Prop} {p : Program} {loose : List Str} {mean : ExcName → Option Value} {mg mb : Str → Option Value}
    {d e nl : Addr} {od oe : Obj} {q : Addr × Obj} {n : Nat} {C : List (Addr × Obj)}
    (B' : Below callerA g [] g) (X' : (KK w.params).In g) (XP' : Prims g) (T' : Top p loose mean mg mb g) (hd : ∀ p ∈ C, p.1 < d) (l1 : AllLt e ((d, od) :: C)) (l2 : AllLt nl ((e, oe) :: (d, od) :: C)) (lI : AllLt I (q :: (nl, listOf (List.toArray []) n) :: (e, oe) :: (d, od) :: C)) (a : DeckO od) (b : StateO oe)
    (hm1 : m (Str.ofString "_law_deck") = some (.ref d)) (hm2 : m (Str.ofString "_law_state") = some (.ref e)) (hm4 : m (Str.ofString "_law_nodes") = some (.ref nl))
    (next : ∀ od' oe' x1 x2 x3 T1 T2 T3 n' R h' tk' m', Fr g L' h' m' → News g L' h' ((d, od') :: (e, oe') :: (nl, listOf (List.toArray [.ref x1, .ref x2, .ref x3]) n') :: (C ++ R)) → LwS w d e nl od' oe' C [.ref x1, .ref x2, .ref x3] n' R [T1, T2, T3] →
      m' (Str.ofString "_law_deck") = some (.ref d) → m' (Str.ofString "_law_state") = some (.ref e) → m' (Str.ofString "_law_nodes") = some (.ref nl) → Q .next { s with heap := h', toks := tk' }) :
    RangeRest lw.row.prog w (callerA.deeper (lEnv L' fa cd)) E g (lEnv L' fa cd) (Str.ofString "_law_turn") lBody Q s I 0 3 3 0 m (q :: (nl, listOf (List.toArray []) n) :: (e, oe) :: (d, od) :: C) := by
  have hs : ∀ p ∈ (d, od) :: (e, oe) :: (nl, listOf (List.toArray []) n) :: (C ++ []), p ∈ q :: (nl, listOf (List.toArray []) n) :: (e, oe) :: (d, od) :: C := by
    rw [List.append_nil]
    exact List.forall_mem_cons.mpr ⟨.tail _ (.tail _ (.tail _ (.head _))), List.forall_mem_cons.mpr ⟨.tail _ (.tail _ (.head _)), List.forall_mem_cons.mpr ⟨.tail _ (.head _), fun p hp => .tail _ (.tail _ (.tail _ (.tail _ hp)))⟩⟩⟩
  exact law_range w B' X' XP' T' (LwS.start a b hd l1 l2) (fun p hp => ne_of_allLt lI p (hs p hp)) hs hm1 hm2 hm4 next
set_option maxHeartbeats 1000000 in
theorem law_loop (w : World) {g : Heap} {L' : Nat} {fa sc : Addr} {cd : Value} {m : Str → Option Value} {s : Shared} {Q : Flow → Shared → Prop} {p : Program} {loose : List Str} {mean : ExcName → Option Value} {mg mb : Str → Option Value}
    {o1 o2 : Obj} {vs : List Value} {ns : List Int}
    (B' : Below callerA g [] g) (F' : Fr g L' s.heap m) (X' : (KK w.params).In g) (XP' : Prims g) (T' : Top p loose mean mg mb g) (N' : News g L' s.heap [(L' + 1 + 1, o1), (L' + 1, o2)])
    (hm1 : m (Str.ofString "script") = some (.ref sc)) (hsc : g.IsList sc vs.toArray) (hI9 : IntsAre vs ns) (hz9 : ns.length ≤ 63)
    (next : ∀ d e nl od oe x1 x2 x3 T1 T2 T3 n R h' tk' m', Fr g L' h' m' → News g L' h' ((d, od) :: (e, oe) :: (nl, listOf (List.toArray [.ref x1, .ref x2, .ref x3]) n) :: ([(L' + 1 + 1, o1), (L' + 1, o2)] ++ R)) → LwS w d e nl od oe [(L' + 1 + 1, o1), (L' + 1, o2)] [.ref x1, .ref x2, .ref x3] n R [T1, T2, T3] →
      m' (Str.ofString "_law_deck") = some (.ref d) → m' (Str.ofString "_law_state") = some (.ref e) → m' (Str.ofString "_law_nodes") = some (.ref nl) → wpAny (model lw.row.prog w) (callerA.deeper (lEnv L' fa cd)) (execs ((fBody (stAt 58)).drop 2) (lEnv L' fa cd)) Q (fun _ _ => False) { s with heap := h', toks := tk' }) :
    wpAny (model lw.row.prog w) (callerA.deeper (lEnv L' fa cd)) (execs (fBody (stAt 58)) (lEnv L' fa cd)) Q (fun _ _ => False) s := by
  revert X'
  k_fill
  intro X'
  have kdF : KdF (fScope (stAt 58)) := by (unfold KdF; kernel_rfl!)
  have kd0 : KdL (fScope (stAt 58)) (Str.ofString "script") := ⟨by kernel_rfl!, by kernel_rfl!⟩
  have kd1 : KdL (fScope (stAt 58)) (Str.ofString "_law_deck") := ⟨by kernel_rfl!, by kernel_rfl!⟩
  have kd2 : KdL (fScope (stAt 58)) (Str.ofString "_law_state") := ⟨by kernel_rfl!, by kernel_rfl!⟩
  have kd3 : KdL (fScope (stAt 58)) (Str.ofString "_law_nodes") := ⟨by kernel_rfl!, by kernel_rfl!⟩
  have kd4 : KdL (fScope (stAt 58)) (Str.ofString "_law_turn") := ⟨by kernel_rfl!, by kernel_rfl!⟩
  have kd5 : KdG (fScope (stAt 58)) (Str.ofString "_law_deck_of") := ⟨by kernel_rfl!, by kernel_rfl!⟩
  k_with "w:call ref" => (k_here; (with_reducible show wpAny _ _ (call (Value.ref 761) [Value.ref _]) _ _ _); k_dflt (refine' deck_use _ hsc hI9 (by omega) ?qB7 ?qF7 ?qX7 ?qXP7 ?qN7 ?qT7 ?qK7 ?qhd7 ?qhu7 ?_; (case qN7 => k_asm); (k_extra "m:use")); (intro dk dvs dns dn h' tk' F' N' hId hld hdk); (try k_sweep); (try dsimp only))
  k_with "w:RangeRest" => (k_dflt (refine' law_range0 w B' X' XP' T' hdk ?l19 ?l29 ?lI9 ⟨_, _, _, rfl, hId, hld⟩ ?st9 ?a19 ?a29 ?a39 ?_; (case lI9 => with_reducible assumption); (case l19 => with_reducible assumption); (case l29 => with_reducible assumption); (case st9 => exact ⟨_, _, _, _, _, rfl, by decide⟩); (case a19 => k_extra "m:val"); (case a29 => k_extra "m:val"); (case a39 => k_extra "m:val")); (intro od' oe' x1 x2 x3 T1 T2 T3 n' R2 h' tk' m' F' N' S' e1 e2 e3); (try k_sweep))
  k_with "w:execs cons" => ((with_reducible show wpAny _ _ (execs (Stmt.Assign [Expr.Tuple [Expr.Name (Str.ofString "_law_met") _, _] _ _] _ _ :: _) _) _ _ _); k_dflt (refine' next _ _ _ _ _ _ _ _ _ _ _ _ _ _ _ _ F' N' S' e1 e2 e3))
  k_with "w:execs" => ((with_reducible show wpAny _ _ (execs (Stmt.Assign [Expr.Tuple [Expr.Name (Str.ofString "_law_met") _, _] _ _] _ _ :: _) _) _ _ _); k_dflt (refine' next _ _ _ _ _ _ _ _ _ _ _ _ _ _ _ _ F' N' S' e1 e2 e3))
  k_steps
/-! what is due of the first two nodes -/
theorem fineR_drop {d : Nat} {T : Nd} {ks ms ls : List Int} {top : Bool} {mt lb : Addr} {q : Addr × Obj} {R news' : List (Addr × Obj)} {r : Value} (h : FineR d T ks top ms ls mt lb (q :: R) r news') : ∃ om ol, news' = (mt, om) :: (lb, ol) :: q :: R ∧ FineR d T ks top ms ls mt lb R r ((mt, om) :: (lb, ol) :: R) := by
  obtain ⟨om, ol, ms', ls', rfl, r1⟩ := h
  exact ⟨om, ol, rfl, om, ol, ms', ls', rfl, r1⟩
theorem u_fine2 (w : World) {dp un : Nat} {gd : Option (List Code)} {cn : Str} {cs : Scope} {a : Addr} {ccd : Value} {cl : List (Str × Addr)} {outer : List Env} {A₀ : Around} {base h₀ : Heap} {L : Addr} {m : Str → Option Value} {s : Shared} {Q E : Value → Shared → Prop} {p : Program} {loose : List Str} {mean : ExcName → Option Value} {mg mb : Str → Option Value}
    {x kl mt lb : Addr} {T : Nd} {R : List (Addr × Obj)} {n3 : Nat} {om ol : Obj} {ms ls : List Int} (hT : NodeIn w.params R (.ref x) T) (h7 : dpt T ≤ 7) (hw : wt T ≤ 694) (hm : LO om ms) (hl : LO ol ls) (z1 : ms.length + wt T ≤ 20000) (z2 : ls.length + wt T ≤ 20000)
    (N : News h₀ L s.heap ((kl, listOf (List.toArray []) n3) :: (mt, om) :: (lb, ol) :: R)) (lk : AllLt kl ((mt, om) :: (lb, ol) :: R)) (hne : NeA mt lb) (n1 : ∀ p ∈ R, p.1 ≠ mt) (n2 : ∀ p ∈ R, p.1 ≠ lb)
    (B : Below A₀ base outer h₀) (F : Fr h₀ L s.heap m) (K : (KK w.params).In h₀) (P : Prims h₀) (T' : Top p loose mean mg mb h₀) (hk : cs.kind = .function) (hd : dp + 110 < recursionLimit) (hu : un + 1200 < cLine)
    (h : ∀ r h' tk' om' ol', Fr h₀ L h' m → News h₀ L h' ((mt, om') :: (lb, ol') :: R) → FineR 7 T [] true ms ls mt lb R r ((mt, om') :: (lb, ol') :: R) → Q r { s with heap := h', toks := tk' }) :
    wpAny (model lw.row.prog w) (ktrTop dp un gd cn cs L a ccd cl outer) (call (.ref 816) [.ref x, .ref kl, .ref mt, .ref lb, .bool true]) Q E s := by
  have a1 := allLt_mem lk
  refine Spec.use (fine_all w 7 (T := T) (kl := kl) (mt := mt) (lb := lb) (ks := []) (ms := ms) (ls := ls) (R := (kl, listOf (List.toArray []) n3) :: R) (om := om) (ol := ol) (hT.mono fun p hp => .tail _ hp) h7 ⟨[], _, .head _, .nil⟩ hm hl hne
    (List.forall_mem_cons.mpr ⟨Ne.symm (Nat.ne_of_lt (a1 (mt, om) (.head _))), n1⟩) (List.forall_mem_cons.mpr ⟨Ne.symm (Nat.ne_of_lt (a1 (lb, ol) (.tail _ (.head _)))), n2⟩) z1 z2 (by simp only [List.length_nil]; omega)) B F K P
    (newsSub N (List.forall_mem_cons.mpr ⟨.tail _ (.head _), List.forall_mem_cons.mpr ⟨.tail _ (.tail _ (.head _)), List.forall_mem_cons.mpr ⟨.head _, fun p hp => .tail _ (.tail _ (.tail _ hp))⟩⟩⟩)) T' hk (by show dp + (40 + 10 * 7) < _; omega) (by show un + (500 + 100 * 7) < _; omega) (fun r news' h' tk' F' N' hr => ?_) (fun _ _ _ _ _ _ x => x.elim)
  obtain ⟨om', ol', rfl, hr'⟩ := fineR_drop hr
  exact h _ _ _ _ _ F' (newsSub N' (List.forall_mem_cons.mpr ⟨.head _, List.forall_mem_cons.mpr ⟨.tail _ (.head _), fun p hp => .tail _ (.tail _ (.tail _ hp))⟩⟩)) hr'
theorem u_dueSrc {prog : Program} {w : World} {A : Around} {h₀ : Heap} {L : Addr} {m : Str → Option Value} {s : Shared} {env : Env} {elt : PySem.Expr} {y : Str} {scope : Scope} {cl : List (Str × Addr)} {Fin : Shared → List Value → List (Addr × Obj) → Prop}
    {T1 T2 : Nd} {x1 x2 sl tu mt lb : Addr} {Z R : List (Addr × Obj)} {ot o3 o4 o5 o6 o7 : Obj} {Z1 Z2 Z3 : List (Addr × Obj)} {n0 n1 n2 : Nat} (hh : A.handled = none) (F : Fr h₀ L s.heap m)
    (N : News h₀ L s.heap ((sl, listOf (List.toArray [.ref x1, .ref x2]) n0) :: (tu, ot) :: (lb, listOf (List.toArray []) n1) :: (mt, listOf (List.toArray []) n2) :: Z)) (lS : AllLt sl ((tu, ot) :: (lb, o3) :: (mt, o4) :: Z1)) (lT : AllLt tu ((lb, o5) :: (mt, o6) :: Z2)) (lL : AllLt lb ((mt, o7) :: Z3))
    (z1 : ∀ p ∈ Z, p.1 ≠ mt) (z2 : ∀ p ∈ Z, p.1 ≠ lb) (h1 : NodeIn w.params R (.ref x1) T1) (h2 : NodeIn w.params R (.ref x2) T2) (sR : ∀ p ∈ R, p ∈ Z)
    (turn : ∀ (x : Addr) (T : Nd) om₁ ol₁ ms₁ ls₁ I oI C oC D ys m₂ h tk (E' : Value → Shared → Prop), T ∈ [T1, T2] → NodeIn w.params R (.ref x) T → LO om₁ ms₁ → LO ol₁ ls₁ → ms₁.length + wt T ≤ wts [T1, T2] → ls₁.length + wt T ≤ wts [T1, T2] → LCg.NsObj oC m₂ → m₂ y = some (.ref x) → Fr h₀ L h m →
      News h₀ L h ((mt, om₁) :: (lb, ol₁) :: (I, oI) :: (C, oC) :: (D, LCg.lst ys) :: (sl, listOf (List.toArray [.ref x1, .ref x2]) n0) :: (tu, ot) :: Z) → (∀ p ∈ (I, oI) :: (C, oC) :: (D, LCg.lst ys) :: (sl, listOf (List.toArray [.ref x1, .ref x2]) n0) :: (tu, ot) :: Z, p.1 ≠ mt) → (∀ p ∈ (I, oI) :: (C, oC) :: (D, LCg.lst ys) :: (sl, listOf (List.toArray [.ref x1, .ref x2]) n0) :: (tu, ot) :: Z, p.1 ≠ lb) → NeA mt lb →
      wpAny (model prog w) A (eval elt (compEnvC scope cl C env)) (FTurn h₀ L m { s with heap := h, toks := tk } 7 T [] true ms₁ ls₁ mt lb ((I, oI) :: (C, oC) :: (D, LCg.lst ys) :: (sl, listOf (List.toArray [.ref x1, .ref x2]) n0) :: (tu, ot) :: Z)) E' { s with heap := h, toks := tk })
    (fin : ∀ (g : Heap) (bs : List Bool) om' ol', (!decide (false ∈ bs)) = progOk 7 [T1, T2] → Fin { s with heap := g } (bs.map Value.bool) ((mt, om') :: (lb, ol') :: (sl, listOf (List.toArray [.ref x1, .ref x2]) n0) :: (tu, ot) :: Z)) : LCg.CompSrc prog w A h₀ L m env elt y scope cl Fin (.ref sl) s := by
  have aS := allLt_mem lS
  have aT := allLt_mem lT
  have aL := allLt_mem lL
  have ne : NeA mt lb := Nat.ne_of_lt (aL (mt, o7) (.head _))
  have hNs : NodesIn w.params R [.ref x1, .ref x2] [T1, T2] := .cons h1 (.cons h2 .nil)
  have sR' : ∀ p ∈ R, p ∈ (sl, listOf (List.toArray [.ref x1, .ref x2]) n0) :: (tu, ot) :: Z := fun p hp => .tail _ (.tail _ (sR p hp))
  refine u_fineSrc (d := 7) (ks := []) (ms := []) (ls := []) (top := true) (mt := mt) (lb := lb) (om := listOf (List.toArray []) n2) (ol := listOf (List.toArray []) n1) hh F
    (newsSub N (List.forall_mem_cons.mpr ⟨.tail _ (.tail _ (.tail _ (.head _))), List.forall_mem_cons.mpr ⟨.tail _ (.tail _ (.head _)), List.forall_mem_cons.mpr ⟨.head _, List.forall_mem_cons.mpr ⟨.tail _ (.head _), fun p hp => .tail _ (.tail _ (.tail _ (.tail _ hp)))⟩⟩⟩⟩))
    (.head _) (Nat.le_of_ble_eq_true rfl) (hNs.mono sR') ⟨[], _, rfl, .nil⟩ ⟨[], _, rfl, .nil⟩ ne
    (List.forall_mem_cons.mpr ⟨Ne.symm (Nat.ne_of_lt (aS (mt, o4) (.tail _ (.tail _ (.head _))))), List.forall_mem_cons.mpr ⟨Ne.symm (Nat.ne_of_lt (aT (mt, o6) (.tail _ (.head _)))), z1⟩⟩)
    (List.forall_mem_cons.mpr ⟨Ne.symm (Nat.ne_of_lt (aS (lb, o3) (.tail _ (.head _)))), List.forall_mem_cons.mpr ⟨Ne.symm (Nat.ne_of_lt (aT (lb, o5) (.head _))), z2⟩⟩)
    (fun i v T om₁ ol₁ ms₁ ls₁ I oI C oC D ys m₂ h tk E' hv hTi hnd hm₁ hl₁ b1 b2 hC hx F' N' q1 q2 => ?_) (fun g ys news hJ => ?_)
  · have hnR := hNs.2 i v T hv hTi
    obtain ⟨x, _, _, rfl, _⟩ := hnR.ref
    exact turn x T om₁ ol₁ ms₁ ls₁ I oI C oC D ys m₂ h tk E' (List.mem_of_getElem? hTi) hnR hm₁ hl₁ (by simpa using b1) (by simpa using b2) hC hx F' N' q1 q2 ne
  · obtain ⟨om', ol', ms', ls', bs, rfl, hm', hl', b1, b2, rfl, hbl, hr⟩ := hJ
    refine fin g bs om' ol' ?_
    rw [← fine_prog]
    rw [List.take_length] at hr
    rcases hr with ⟨q, n⟩ | ⟨q, n⟩ <;> rw [q]
    · simp [n]
    · simp [n]
set_option maxHeartbeats 1000000 in
theorem law_due (w : World) {g : Heap} {L' : Nat} {fa : Addr} {cd : Value} {m : Str → Option Value} {s : Shared} {Q : Flow → Shared → Prop} {E : Value → Shared → Prop} {p : Program} {loose : List Str} {mean : ExcName → Option Value} {mg mb : Str → Option Value}
    {d e nl x1 x2 x3 : Addr} {od oe o1 o2 : Obj} {n : Nat} {R : List (Addr × Obj)} {T1 T2 T3 : Nd} {v1 v2 : Option Value}
    (B' : Below callerA g [] g) (F' : Fr g L' s.heap m) (X' : (KK w.params).In g) (XP' : Prims g) (T' : Top p loose mean mg mb g) (S : LwS w d e nl od oe [(L' + 1 + 1, o1), (L' + 1, o2)] [.ref x1, .ref x2, .ref x3] n R [T1, T2, T3])
    (N' : News g L' s.heap ((d, od) :: (e, oe) :: (nl, listOf (List.toArray [.ref x1, .ref x2, .ref x3]) n) :: ([(L' + 1 + 1, o1), (L' + 1, o2)] ++ R))) (d1 : o1.data = .cell v1) (d2 : o2.data = .cell v2) (hm1 : m (Str.ofString "_law_nodes") = some (.ref nl))
    (next : ∀ h' tk' m', Fr g L' h' m' → News g L' h' ((d, od) :: (e, oe) :: (nl, listOf (List.toArray [.ref x1, .ref x2, .ref x3]) n) :: R) → m' (Str.ofString "_law_due") = some (.bool (progOk 7 [T1, T2])) → (∀ y, y ≠ Str.ofString "_law_due" → m' y = m y) →
      wpAny (model lw.row.prog w) (callerA.deeper (lEnv L' fa cd)) (execs ((fBody (stAt 58)).drop 4) (lEnv L' fa cd)) Q E { s with heap := h', toks := tk' }) :
    wpAny (model lw.row.prog w) (callerA.deeper (lEnv L' fa cd)) (execs ((fBody (stAt 58)).drop 2) (lEnv L' fa cd)) Q E s := by
  revert X'
  k_fill
  intro X'
  simp only [List.cons_append, List.nil_append] at N'
  have nd1 : NeA nl (L' + 1 + 1) := Ne.symm (S.off _ (.head _))
  have nd2 : NeA nl (L' + 1) := Ne.symm (S.off _ (.tail _ (.head _)))
  have nd3 : NeA d (L' + 1 + 1) := Ne.symm (S.nd _ (.tail _ (.head _)))
  have nd4 : NeA d (L' + 1) := Ne.symm (S.nd _ (.tail _ (.tail _ (.head _))))
  have nd5 : NeA e (L' + 1 + 1) := Ne.symm (S.ns _ (.tail _ (.head _)))
  have nd6 : NeA e (L' + 1) := Ne.symm (S.ns _ (.tail _ (.tail _ (.head _))))
  have nr1 : ∀ p ∈ R, p.1 ≠ L' + 1 + 1 := fun p hp => Ne.symm (S.sep p hp _ (.head _))
  have nr2 : ∀ p ∈ R, p.1 ≠ L' + 1 := fun p hp => Ne.symm (S.sep p hp _ (.tail _ (.head _)))
  have kdF : KdF (fScope (stAt 58)) := by (unfold KdF; kernel_rfl!)
  have kd0 : KdL (fScope (stAt 58)) (Str.ofString "_law_nodes") := ⟨by kernel_rfl!, by kernel_rfl!⟩
  have kd1 : KdL (fScope (stAt 58)) (Str.ofString "_law_node") := ⟨by kernel_rfl!, by kernel_rfl!⟩
  have kd2 : KdC (fScope (stAt 58)) L' (Str.ofString "_law_met") (L' + 1) := ⟨by kernel_rfl!, by kernel_rfl!, by kernel_rfl!⟩
  have kd3 : KdC (fScope (stAt 58)) L' (Str.ofString "_law_labels") (L' + 1 + 1) := ⟨by kernel_rfl!, by kernel_rfl!, by kernel_rfl!⟩
  have kd4 : KdL (fScope (stAt 58)) (Str.ofString "_law_due") := ⟨by kernel_rfl!, by kernel_rfl!⟩
  have kd5 : KdG (fScope (stAt 58)) (Str.ofString "_law_is_fine") := ⟨by kernel_rfl!, by kernel_rfl!⟩
  have hn1 : NodeIn w.params R (.ref x1) T1 := S.nodes.2 0 _ _ rfl rfl
  have hn2 : NodeIn w.params R (.ref x2) T2 := S.nodes.2 1 _ _ rfl rfl
  have hsm : ∀ t ∈ [T1, T2], wt t ≤ 694 ∧ dpt t ≤ 7 := fun t ht => S.small t (by rcases List.mem_cons.mp ht with rfl | ht; exact .head _; rw [List.mem_singleton.mp ht]; exact .tail _ (.head _))
  have hws : wts [T1, T2] ≤ 2000 := by
    have u1 := (hsm T1 (.head _)).1
    have u2 := (hsm T2 (.tail _ (.head _))).1
    simp only [wts]; omega
  k_with "w:CompSrc" => (k_dflt (refine' u_dueSrc ?ih9 ?iF9 ?iN9 ?iS9 ?iT9 ?iL9 ?i19 ?i29 hn1 hn2 ?iR9 ?_ ?_; (case ih9 => rfl); (case iF9 => k_asm); (case iN9 => k_asm); (case iS9 => with_reducible assumption); (case iT9 => with_reducible assumption); (case iL9 => with_reducible assumption); (case i19 => k_all); (case i29 => k_all); (case iR9 => k_extra "m:lift")); all_goals first | (intro x T om₁ ol₁ ms₁ ls₁ I oI C oC D ys m₂ h tk E' hTm hnd hm₁ hl₁ b1 b2 hC hx F' N' q1 q2 ne9; (have hs9 := hsm T hTm); k_sweep) | (intro g bs om' ol' hdue; unfold LCg.FinE; intro D' h' tk' F' N' o1'; k_sweep; (try dsimp only)))
  k_with "w:call ref" => (k_here; (with_reducible show wpAny _ _ (call (Value.ref 816) [Value.ref _, Value.ref _, Value.ref _, Value.ref _, Value.bool true]) _ _ _); k_dflt (refine' u_fine2 _ ?cT9 hs9.2 hs9.1 hm₁ hl₁ ?cz1 ?cz2 ?qN7 ?clk ne9 q1 q2 ?qB7 ?qF7 ?qX7 ?qXP7 ?qT7 ?qK7 ?qhd7 ?qhu7 ?_; (case qN7 => k_asm); (case clk => with_reducible assumption); (case cT9 => (refine' NodeIn.mono hnd ?cs9; k_extra "m:lift")); (case cz1 => omega); (case cz2 => omega); (k_extra "m:use")); intro r' h' tk' om' ol' F' N' hR'; (try k_sweep); (try dsimp only))
  k_with "w:FTurn" => exact ⟨_, _, _, rfl, by k_asm, by k_asm, hR'⟩
  k_with "w:compareOp NotIn bool ref" => (k_dflt (refine' u_notinB ?bN1 ?bm1 ?_; (case bN1 => k_asm); (case bm1 => exact List.Mem.head _); k_whole); rw [hdue])
  k_with "w:execs cons" => ((with_reducible show wpAny _ _ (execs (Stmt.Assign [Expr.Name (Str.ofString "_law_closed") _] _ _ :: _) _) _ _ _); (k_dflt (refine' next _ _ _ ?nF9 ?nN9 (if_pos rfl) (fun y hy => if_neg hy); (case nF9 => k_asm); (case nN9 => (refine' newsSub ?nk9 ?ns9; (case nk9 => k_asm); (case ns9 => k_extra "m:subX"))))))
  k_steps
/-! the law's last statements -/
theorem closed_no {ps : List Int} : coreOk (.seq [.lam 1 ps (-1) (.loc 1), .loc 1]) = false := by
  have key : ∀ (z : Option St) (b : Bool), (z.bind (runs (fun u s => fine primOk 2 u [] b s) [.loc 1])).isSome = false := fun z b => by cases z <;> rfl
  unfold coreOk
  rw [← fine_core]
  exact key (fine primOk 2 (.lam 1 ps (-1) (.loc 1)) [] true ([], [])) true
theorem tail_mem {α : Type} {a : α} {l : List α} : ∀ p ∈ l, p ∈ a :: l := fun _ h => .tail _ h
theorem open_yes : coreOk (.seq [.defn 0 .const, .const]) = true := by rfl
theorem const_yes : chk primOk (dpt .const) .const true ([], []) ≠ none := fun h => by
  have q : (some (([], []) : St2)) = none := h
  cases q
set_option maxHeartbeats 1000000 in
theorem law_rest (w : World) {g : Heap} {L' : Nat} {fa : Addr} {cd : Value} {m : Str → Option Value} {s : Shared} {Q : Flow → Shared → Prop} {E : Value → Shared → Prop} {p : Program} {loose : List Str} {mean : ExcName → Option Value} {mg mb : Str → Option Value}
    {d e nl x1 x2 x3 : Addr} {od oe : Obj} {C : List (Addr × Obj)} {n : Nat} {R : List (Addr × Obj)} {T1 T2 T3 : Nd}
    (B' : Below callerA g [] g) (F' : Fr g L' s.heap m) (X' : (KK w.params).In g) (XP' : Prims g) (T' : Top p loose mean mg mb g) (S0 : LwS w d e nl od oe C [.ref x1, .ref x2, .ref x3] n R [T1, T2, T3])
    (N' : News g L' s.heap ((d, od) :: (e, oe) :: (nl, listOf (List.toArray [.ref x1, .ref x2, .ref x3]) n) :: R)) (hm1 : m (Str.ofString "_law_nodes") = some (.ref nl)) (hm2 : m (Str.ofString "_law_due") = some (.bool (progOk 7 [T1, T2])))
    (fin : ∀ h' tk' m', Fr g L' h' m' → Q (.ret (.bool true)) { s with heap := h', toks := tk' }) :
    wpAny (model lw.row.prog w) (callerA.deeper (lEnv L' fa cd)) (execs ((fBody (stAt 58)).drop 4) (lEnv L' fa cd)) Q E s := by
  revert X'
  k_fill
  intro X'
  have S := S0.noC
  have Ld' : Led d od e oe ((nl, listOf (List.toArray [.ref x1, .ref x2, .ref x3]) n) :: R) [] ((nl, listOf (List.toArray [.ref x1, .ref x2, .ref x3]) n) :: R) := S.led
  have hn1 : NodeIn w.params R (.ref x1) T1 := S.nodes.2 0 _ _ rfl rfl
  have hn2 : NodeIn w.params R (.ref x2) T2 := S.nodes.2 1 _ _ rfl rfl
  have hsm : ∀ t ∈ [T1, T2], wt t ≤ 694 ∧ dpt t ≤ 7 := fun t ht => S.small t (by rcases List.mem_cons.mp ht with rfl | ht; exact .head _; rw [List.mem_singleton.mp ht]; exact .tail _ (.head _))
  have kdF : KdF (fScope (stAt 58)) := by (unfold KdF; kernel_rfl!)
  have kd0 : KdL (fScope (stAt 58)) (Str.ofString "script") := ⟨by kernel_rfl!, by kernel_rfl!⟩
  have kd1 : KdL (fScope (stAt 58)) (Str.ofString "_law_deck") := ⟨by kernel_rfl!, by kernel_rfl!⟩
  have kd2 : KdL (fScope (stAt 58)) (Str.ofString "_law_state") := ⟨by kernel_rfl!, by kernel_rfl!⟩
  have kd3 : KdL (fScope (stAt 58)) (Str.ofString "_law_nodes") := ⟨by kernel_rfl!, by kernel_rfl!⟩
  have kd4 : KdL (fScope (stAt 58)) (Str.ofString "_law_turn") := ⟨by kernel_rfl!, by kernel_rfl!⟩
  have kd5 : KdL (fScope (stAt 58)) (Str.ofString "_law_node") := ⟨by kernel_rfl!, by kernel_rfl!⟩
  have kd6 : KdC (fScope (stAt 58)) L' (Str.ofString "_law_met") (L' + 1) := ⟨by kernel_rfl!, by kernel_rfl!, by kernel_rfl!⟩
  have kd7 : KdC (fScope (stAt 58)) L' (Str.ofString "_law_labels") (L' + 1 + 1) := ⟨by kernel_rfl!, by kernel_rfl!, by kernel_rfl!⟩
  have kd8 : KdL (fScope (stAt 58)) (Str.ofString "_law_due") := ⟨by kernel_rfl!, by kernel_rfl!⟩
  have kd9 : KdL (fScope (stAt 58)) (Str.ofString "_law_closed") := ⟨by kernel_rfl!, by kernel_rfl!⟩
  have kd10 : KdG (fScope (stAt 58)) (Str.ofString "_law_deck_of") := ⟨by kernel_rfl!, by kernel_rfl!⟩
  have kd11 : KdG (fScope (stAt 58)) (Str.ofString "_law_node_of") := ⟨by kernel_rfl!, by kernel_rfl!⟩
  have kd12 : KdG (fScope (stAt 58)) (Str.ofString "_law_is_let_through") := ⟨by kernel_rfl!, by kernel_rfl!⟩
  have kd13 : KdG (fScope (stAt 58)) (Str.ofString "check_core") := ⟨by kernel_rfl!, by kernel_rfl!⟩
  have kd14 : KdG (fScope (stAt 58)) (Str.ofString "_law_is_fine") := ⟨by kernel_rfl!, by kernel_rfl!⟩
  have kd15 : KdG (fScope (stAt 58)) (Str.ofString "Seq") := ⟨by kernel_rfl!, by kernel_rfl!⟩
  have kd16 : KdG (fScope (stAt 58)) (Str.ofString "Lambda") := ⟨by kernel_rfl!, by kernel_rfl!⟩
  have kd17 : KdG (fScope (stAt 58)) (Str.ofString "Local") := ⟨by kernel_rfl!, by kernel_rfl!⟩
  have kd18 : KdG (fScope (stAt 58)) (Str.ofString "Define") := ⟨by kernel_rfl!, by kernel_rfl!⟩
  have kd19 : KdG (fScope (stAt 58)) (Str.ofString "Const") := ⟨by kernel_rfl!, by kernel_rfl!⟩
  have kd20 : KdG (fScope (stAt 58)) (Str.ofString "check_program") := ⟨by kernel_rfl!, by kernel_rfl!⟩
  k_with "m:intx" => (refine' ⟨_, _, _, ?im9, IntsAre.cons _ _ IntsAre.nil, Nat.le_refl _⟩; (case im9 => k_mem))
  k_with "m:nodesl" => (refine' NodesIn.cons ?na9 (NodesIn.cons ?nb9 NodesIn.nil); (case na9 => k_extra "m:nodel"); (case nb9 => k_extra "m:nodel"))
  k_with "w:call ref" => (k_here; (with_reducible show wpAny _ _ (call (Value.ref 823) [Value.ref 742, _]) _ _ _); (with_reducible rename NodeIn _ _ _ (Nd.seq _) => hTs); (obtain ⟨xn, Cn, dn, en, hxn⟩ := NodeIn.ref hTs); subst en; clear hxn; (with_reducible rename Led _ _ _ _ _ _ _ => Lx); k_dflt (refine' SpecT.use (let_coreT _ hTs ?hs7 ?hw7) ?qB7 ?qF7 ?qX7 ?qXP7 ?qN7 ?qT7 ?qKB7 ?qTB7 ?qK7 ?qhd7 ?qhu7 ?_; (case qN7 => k_asm); (case hs7 => exact fun p hp => List.Mem.tail _ (List.Mem.tail _ (Led.new Lx p hp))); (case hw7 => first | exact Nat.le_of_ble_eq_true rfl | (simp only [wt, wts, List.length_cons, List.length_nil] at *; omega)); (k_extra "m:use"); (case qKB7 => k_asm); (case qTB7 => k_asm)); (rintro _ h' tk' F' N' e9; (first | rw [closed_no] at e9 | rw [open_yes] at e9); subst e9); (try k_sweep); (try dsimp only))
  k_with "w:call ref" => (k_here; (with_reducible show wpAny _ _ (call (Value.ref 823) [Value.ref 749, Value.ref _]) _ _ _); k_dflt (refine' SpecT.use (let_progT (d := 7) _ ?hl7 (NodesIn.cons hn1 (NodesIn.cons hn2 NodesIn.nil)) ?hs7 ?hp7 ?hw7 ?he7) ?qB7 ?qF7 ?qX7 ?qXP7 ?qN7 ?qT7 ?qKB7 ?qTB7 ?qK7 ?qhd7 ?qhu7 ?_; (case qN7 => k_asm); (case hl7 => k_mem); (case hs7 => k_extra "m:lift"); (case hp7 => exact fun t ht => (hsm t ht).2); (case hw7 => exact fun t ht => Nat.le_trans (hsm t ht).1 (by decide)); (case he7 => exact Nat.le_refl _); (k_extra "m:use"); (case qKB7 => k_asm); (case qTB7 => k_asm)); (rintro _ h' tk' F' N' e9; subst e9); (replace N' := newsSub N' tail_mem); (try k_sweep); (try dsimp only))
  k_with "w:call ref" => (k_here; (with_reducible show wpAny _ _ (call (Value.ref 742) [_]) _ _ _); (with_reducible rename NodeIn _ _ _ Nd.const => hTs); (obtain ⟨xn, Cn, dn, en, hxn⟩ := NodeIn.ref hTs); subst en; clear hxn; (with_reducible rename Led _ _ _ _ _ _ _ => Lx); k_dflt (refine' SpecE.use (check_core_spec _ hTs ?hs7 ?hw7) ?qB7 ?qF7 ?qX7 ?qXP7 ?qN7 ?qT7 ?qK7 ?qhd7 ?qhu7 ?_ ?_; (case qN7 => k_asm); (case hs7 => k_extra "m:lift"); (case hw7 => exact Nat.le_of_ble_eq_true rfl); (k_extra "m:use")); all_goals first | (rintro _ nw' h' tk' F' N' ⟨e1, e2, _⟩; subst e1; subst nw'; (try k_sweep); (try dsimp only)) | (intro hX'; exact absurd hX' const_yes))
  k_steps
  · exact fin _ _ _ (by assumption)
  · exact absurd (by assumption : (progOk 7 [T1, T2] == progOk 7 [T1, T2]) = false) (by simp)
/-! the law -/
theorem law_body (w : World) {g : Heap} {L' : Nat} {fa sc : Addr} {cd : Value} {m : Str → Option Value} {s : Shared} {Q : Flow → Shared → Prop} {p : Program} {loose : List Str} {mean : ExcName → Option Value} {mg mb : Str → Option Value}
    {o1 o2 : Obj} {vs : List Value} {ns : List Int} {v1 v2 : Option Value}
    (B' : Below callerA g [] g) (F' : Fr g L' s.heap m) (X' : (KK w.params).In g) (XP' : Prims g) (T' : Top p loose mean mg mb g) (N' : News g L' s.heap [(L' + 1 + 1, o1), (L' + 1, o2)]) (d1 : o1.data = .cell v1) (d2 : o2.data = .cell v2)
    (hm1 : m (Str.ofString "script") = some (.ref sc)) (hsc : g.IsList sc vs.toArray) (hI9 : IntsAre vs ns) (hz9 : ns.length ≤ 63)
    (fin : ∀ h' tk' m', Fr g L' h' m' → Q (.ret (.bool true)) { s with heap := h', toks := tk' }) :
    wpAny (model lw.row.prog w) (callerA.deeper (lEnv L' fa cd)) (execs (fBody (stAt 58)) (lEnv L' fa cd)) Q (fun _ _ => False) s :=
  law_loop w B' F' X' XP' T' N' hm1 hsc hI9 hz9 fun d e nl od oe x1 x2 x3 T1 T2 T3 n R h' tk' m' F2 N2 S2 e1 e2 e3 =>
    law_due w B' F2 X' XP' T' S2 N2 d1 d2 e3 fun h'' tk'' m'' F3 N3 f1 f2 =>
      law_rest w B' F3 X' XP' T' S2 N3 ((f2 _ (by decide)).trans e3) f1 fun h3 tk3 m3 F4 => fin _ _ _ F4
theorem dl_name : dl.name = Str.ofString "law" := by kernel_rfl
theorem dl_scope : dl.scope = fScope (stAt 58) := by kernel_rfl
theorem dl_body : dl.body = fBody (stAt 58) := by kernel_rfl
theorem dl_params : dl.params = fArgs (stAt 58) := by kernel_rfl
set_option maxHeartbeats 1000000 in
theorem law_walk : WalkLaw := by
  intro w s₀ s₁ mg mb G Y fa o pm cd doc dV kV ho hd hcd hD hmg hg args vals as hpre hlay hrd hwl hlo
  have KX : (KK w.params).In s₁.heap := Y.1
  have KPX : Prims s₁.heap := ⟨Y.2⟩
  clear Y
  revert KX
  k_fill
  intro KX
  refine Ground.open G ?_
  intro T B D TE TW
  clear D hmg
  wrow_args hpre hlay hrd hwl hlo
  refine enter_call ?_
  w_top on
  refine codeAny_mono ?_ (fun _ _ g => GoodW.toG g)
  have K0 := below_caller (Top.heap T)
  w_call any ho hd hcd hD T F
  clear hd
  k_drop
  rename_i ns9 _ _ _ _ _ _ _ sc9 vs9 _ hL9 _ _ _ hI9 _ hc9 _ _ _ oa ob da db N9 _
  rw [dl_body, dl_scope, dl_name]
  refine wpAny_mono (law_body w (fa := fa) (cd := cd) K0 F KX KPX T N9 da db (by kernel_rfl) hL9 hI9 (by omega) (fun h' tk' m' F9 => ?_)) (fun _ _ x => x) (fun _ _ x => x.elim)
  dsimp only
  k_steps
theorem law_holds : lw.Holds := hd law_walk
end Mine
theorem PySem.Challenge.cw_nt0182_01_holds : PySem.Challenge.rw_nt0182_01.Holds := by
  exact Mine.law_holds
