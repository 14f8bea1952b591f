import PyProof.Rows.All
import Wide.All
import OpenK.AllK
import Wide.FinOn
import KE.KPairTest
import Lean
import PySem.Challenge.RW_oj0026_01
set_option Elab.async false
set_option linter.unusedVariables false
section
open PySem PySem.W PyProof.Rows
namespace Mine
abbrev pE : Program := PySem.Challenge.rw_oj0026_01.row.toRowW.1
noncomputable def nthS (l : List Stmt) (n : Nat) : Stmt := match l.drop n with | s :: _ => s | [] => .Pass ⟨0, 0, 0, 0⟩
noncomputable def cellsOf (s : Stmt) : List Stmt := match s with | .ClassDef _ _ _ b _ _ _ _ _ _ _ => b | _ => []
noncomputable def st (i : Nat) : Stmt := nthS pE.main.body i
noncomputable def cst (i j : Nat) : Stmt := nthS (cellsOf (st i)) j
noncomputable def fA (s : Stmt) : Arguments := match s with | .FunctionDef _ a _ _ _ _ _ _ _ _ => a | _ => ⟨[], [], none, [], [], none, []⟩
noncomputable def fB (s : Stmt) : FuncBody := match s with | .FunctionDef _ _ b _ _ _ _ _ _ _ => .stmts b | _ => .stmts []
noncomputable def fS (s : Stmt) : Scope := match s with | .FunctionDef _ _ _ _ _ _ sc _ _ _ => sc | _ => pE.main.scope
noncomputable def o43 (P : Params) : Obj := ⟨(.type "tuple"), .none, (.seq ⟨[]⟩ 0), ⟨[]⟩⟩
noncomputable def o44 (P : Params) : Obj := ⟨.none, .none, (.fields ⟨[]⟩), ⟨[]⟩⟩
noncomputable def o45 (P : Params) : Obj := ⟨(.type "code"), .none, (.fields ⟨[(.str (.ofString "<module>") 182), (.str (.ofString "<module>") 183), (.str (.ofString "/claim/cut.py") 184), (.int 1 0), (.int 0 0), (.int 0 0), (.int 0 0), (.int 0 0), (.ref 11), (.bool .false), (.int 181 0), (.ref 12), .none, .none, .none, .none, (.int 185 0), (.int 1 0), (.str (.ofString "/claim/cut.py") 186)]⟩), ⟨[]⟩⟩
noncomputable def o46 (P : Params) : Obj := ⟨(.type "frame"), .none, .plain, ⟨[(.some (.ref 13)), (.some (.ref 3)), (.some (.ref 3)), .none, (.some (.str (.ofString "__main__") 164)), .none, (.some (.ref 0))]⟩⟩
noncomputable def o100 (P : Params) : Obj := ⟨(.type "dict"), .none, (.dict ⟨[⟨(PyData.keyHash P (.ofString "__name__")), (.str (.ofString "__name__") 165), (.str (.ofString "emacs.gap") 257)⟩, ⟨(PyData.keyHash P (.ofString "__doc__")), (.str (.ofString "__doc__") 166), .none⟩, ⟨(PyData.keyHash P (.ofString "__package__")), (.str (.ofString "__package__") 167), .none⟩, ⟨(PyData.keyHash P (.ofString "__loader__")), (.str (.ofString "__loader__") 168), (.builtin "__main__.__loader__#opaque")⟩, ⟨(PyData.keyHash P (.ofString "__spec__")), (.str (.ofString "__spec__") 169), .none⟩, ⟨(PyData.keyHash P (.ofString "__annotations__")), (.str (.ofString "__annotations__") 170), (.ref 6)⟩, ⟨(PyData.keyHash P (.ofString "__builtins__")), (.str (.ofString "__builtins__") 171), (.ref 4)⟩, ⟨(PyData.keyHash P (.ofString "__file__")), (.str (.ofString "__file__") 173), (.str (.ofString "/claim/cut.py") 172)⟩, ⟨(PyData.keyHash P (.ofString "__cached__")), (.str (.ofString "__cached__") 174), .none⟩, ⟨(PyData.keyHash P (.ofString "_wall")), (.str (.ofString "_wall") 193), (.ref 21)⟩, ⟨(PyData.keyHash P (.ofString "ChangeLog")), (.str (.ofString "ChangeLog") 256), (.ref 59)⟩, ⟨(PyData.keyHash P (.ofString "GapText")), (.str (.ofString "GapText") 376), (.ref 150)⟩]⟩ 12), ⟨[]⟩⟩
noncomputable def o51 (P : Params) : Obj := ⟨(.type "tuple"), .none, (.seq ⟨[]⟩ 0), ⟨[]⟩⟩
noncomputable def o67 (P : Params) : Obj := ⟨(.type "tuple"), .none, (.seq ⟨[(.str (.ofString "self") 211)]⟩ 0), ⟨[]⟩⟩
noncomputable def o99 (P : Params) : Obj := ⟨(.type "builtin_function_or_method"), .none, (.fields ⟨[(.builtin "object.__init_subclass__"), (.ref 59)]⟩), ⟨[]⟩⟩
noncomputable def o165 (P : Params) : Obj := ⟨(.type "tuple"), .none, (.seq ⟨[]⟩ 0), ⟨[]⟩⟩
noncomputable def o133 (P : Params) : Obj := ⟨(.type "tuple"), .none, (.seq ⟨[]⟩ 0), ⟨[]⟩⟩
noncomputable def o83 (P : Params) : Obj := ⟨.none, .none, (.func ⟨(.ofString "after_change"), (.ofString "ChangeLog.after_change"), (fA (cst 2 2)), (fB (cst 2 2)), (fS (cst 2 2)), 0, [], .none, .none, .none, .none, .none, .none, .none, 0⟩), ⟨[]⟩⟩
noncomputable def o117 (P : Params) : Obj := ⟨.none, .none, (.fields ⟨[]⟩), ⟨[]⟩⟩
noncomputable def o181 (P : Params) : Obj := ⟨(.type "tuple"), .none, (.seq ⟨[(.str (.ofString "self") 361)]⟩ 0), ⟨[]⟩⟩
noncomputable def o149 (P : Params) : Obj := ⟨(.type "code"), .none, (.fields ⟨[(.str (.ofString "widen_gap") 314), (.str (.ofString "GapText.widen_gap") 315), (.str (.ofString "/claim/cut.py") 316), (.int 64 0), (.int 2 0), (.int 0 0), (.int 0 0), (.int 3 0), (.ref 106), (.bool .true), (.int 181 0), (.ref 107), .none, (.ref 108), (.ref 109), (.ref 110), (.int 320 0), (.int 64 0), (.str (.ofString "/claim/cut.py") 321)]⟩), ⟨[]⟩⟩
noncomputable def o59 (P : Params) : Obj := ⟨(.type "builtin_function_or_method"), .none, (.fields ⟨[(.builtin "type.__prepare__"), (.type "type")]⟩), ⟨[]⟩⟩
noncomputable def o75 (P : Params) : Obj := ⟨(.type "tuple"), .none, (.seq ⟨[]⟩ 0), ⟨[]⟩⟩
noncomputable def o109 (P : Params) : Obj := ⟨(.type "tuple"), .none, (.seq ⟨[]⟩ 0), ⟨[]⟩⟩
noncomputable def o173 (P : Params) : Obj := ⟨.none, .none, (.fields ⟨[]⟩), ⟨[]⟩⟩
noncomputable def o141 (P : Params) : Obj := ⟨.none, .none, (.func ⟨(.ofString "move_gap"), (.ofString "GapText.move_gap"), (fA (cst 4 4)), (fB (cst 4 4)), (fS (cst 4 4)), 0, [], .none, .none, .none, .none, .none, .none, .none, 0⟩), ⟨[]⟩⟩
noncomputable def o91 (P : Params) : Obj := ⟨(.type "code"), .none, (.fields ⟨[(.str (.ofString "taken") 237), (.str (.ofString "ChangeLog.taken") 238), (.str (.ofString "/claim/cut.py") 239), (.int 26 0), (.int 1 0), (.int 0 0), (.int 0 0), (.int 3 0), (.ref 50), (.bool .true), (.int 181 0), (.ref 51), .none, (.ref 52), (.ref 53), (.ref 54), (.int 242 0), (.int 26 0), (.str (.ofString "/claim/cut.py") 243)]⟩), ⟨[]⟩⟩
noncomputable def o125 (P : Params) : Obj := ⟨(.type "tuple"), .none, (.seq ⟨[(.str (.ofString "self") 290), (.str (.ofString "at") 291)]⟩ 0), ⟨[]⟩⟩
noncomputable def o189 (P : Params) : Obj := ⟨(.type "getset_descriptor"), .none, (.fields ⟨[(.str (.ofString "__dict__") 370), (.ref 150), (.builtin "function.__dict__"), (.builtin "function.__dict__#set")]⟩), ⟨[]⟩⟩
noncomputable def o157 (P : Params) : Obj := ⟨(.type "function"), .none, (.func ⟨(.ofString "insert"), (.ofString "GapText.insert"), (fA (cst 4 6)), (fB (cst 4 6)), (fS (cst 4 6)), 3, [], .none, .none, .none, (.str (.ofString "emacs.gap") 257), .none, (.ref 118), .none, 0⟩), ⟨[]⟩⟩
noncomputable def o55 (P : Params) : Obj := ⟨.none, .none, (.func ⟨(.ofString "_wall"), (.ofString "_wall"), (fA (st 0)), (fB (st 0)), (fS (st 0)), 0, [], .none, .none, .none, .none, .none, .none, .none, 0⟩), ⟨[]⟩⟩
noncomputable def o71 (P : Params) : Obj := ⟨(.type "function"), .none, (.func ⟨(.ofString "__init__"), (.ofString "ChangeLog.__init__"), (fA (cst 2 0)), (fB (cst 2 0)), (fS (cst 10 5)), 3, [], .none, .none, .none, (.str (.ofString "emacs.changelog") 194), .none, (.ref 34), .none, 0⟩), ⟨[]⟩⟩
noncomputable def o105 (P : Params) : Obj := ⟨(.type "tuple"), .none, (.seq ⟨[]⟩ 0), ⟨[]⟩⟩
noncomputable def o169 (P : Params) : Obj := ⟨.none, .none, (.func ⟨(.ofString "put"), (.ofString "GapText.put"), (fA (cst 4 8)), (fB (cst 4 8)), (fS (cst 4 8)), 0, [], .none, .none, .none, .none, .none, .none, .none, 0⟩), ⟨[]⟩⟩
noncomputable def o137 (P : Params) : Obj := ⟨(.type "tuple"), .none, (.seq ⟨[]⟩ 0), ⟨[]⟩⟩
noncomputable def o87 (P : Params) : Obj := ⟨.none, .none, (.fields ⟨[]⟩), ⟨[]⟩⟩
noncomputable def o121 (P : Params) : Obj := ⟨(.type "code"), .none, (.fields ⟨[(.str (.ofString "size") 280), (.str (.ofString "GapText.size") 281), (.str (.ofString "/claim/cut.py") 282), (.int 39 0), (.int 1 0), (.int 0 0), (.int 0 0), (.int 3 0), (.ref 78), (.bool .true), (.int 181 0), (.ref 79), .none, (.ref 80), (.ref 81), (.ref 82), (.int 284 0), (.int 39 0), (.str (.ofString "/claim/cut.py") 285)]⟩), ⟨[]⟩⟩
noncomputable def o185 (P : Params) : Obj := ⟨(.type "function"), .none, (.func ⟨(.ofString "is_whole"), (.ofString "GapText.is_whole"), (fA (cst 4 10)), (fB (cst 4 10)), (fS (cst 10 10)), 3, [], .none, .none, .none, (.str (.ofString "emacs.gap") 257), .none, (.ref 146), .none, 0⟩), ⟨[]⟩⟩
noncomputable def o153 (P : Params) : Obj := ⟨(.type "tuple"), .none, (.seq ⟨[(.str (.ofString "self") 326), (.str (.ofString "at") 327), (.str (.ofString "codes") 328)]⟩ 0), ⟨[]⟩⟩
noncomputable def o63 (P : Params) : Obj := ⟨(.type "code"), .none, (.fields ⟨[(.str (.ofString "ChangeLog") 198), (.str (.ofString "ChangeLog") 199), (.str (.ofString "/claim/cut.py") 200), (.int 5 0), (.int 0 0), (.int 0 0), (.int 0 0), (.int 0 0), (.ref 25), (.bool .false), (.int 181 0), (.ref 26), .none, .none, .none, .none, (.int 201 0), (.int 5 0), (.str (.ofString "/claim/cut.py") 202)]⟩), ⟨[]⟩⟩
noncomputable def o79 (P : Params) : Obj := ⟨(.type "tuple"), .none, (.seq ⟨[]⟩ 0), ⟨[]⟩⟩
noncomputable def o113 (P : Params) : Obj := ⟨.none, .none, (.func ⟨(.ofString "__init__"), (.ofString "GapText.__init__"), (fA (cst 4 0)), (fB (cst 4 0)), (fS (cst 4 0)), 0, [], .none, .none, .none, .none, .none, .none, .none, 0⟩), ⟨[]⟩⟩
noncomputable def o177 (P : Params) : Obj := ⟨(.type "code"), .none, (.fields ⟨[(.str (.ofString "narrow_gap") 351), (.str (.ofString "GapText.narrow_gap") 352), (.str (.ofString "/claim/cut.py") 353), (.int 89 0), (.int 1 0), (.int 0 0), (.int 0 0), (.int 3 0), (.ref 134), (.bool .true), (.int 181 0), (.ref 135), .none, (.ref 136), (.ref 137), (.ref 138), (.int 355 0), (.int 89 0), (.str (.ofString "/claim/cut.py") 356)]⟩), ⟨[]⟩⟩
noncomputable def o145 (P : Params) : Obj := ⟨.none, .none, (.fields ⟨[]⟩), ⟨[]⟩⟩
noncomputable def o95 (P : Params) : Obj := ⟨(.type "type"), .none, (.cls ⟨(.ofString "ChangeLog"), [(.type "object")], [(.ref 59), (.type "object")], 58, (.ofString "ChangeLog"), .true, [], [], .false, .none, .false⟩), ⟨[.none, .none, (.some (.str (.ofString "ChangeLog") 196)), (.some (.str (.ofString "ChangeLog") 204)), (.some (.builtin "object.__new__")), (.some (.bool .true))]⟩⟩
noncomputable def o129 (P : Params) : Obj := ⟨(.type "function"), .none, (.func ⟨(.ofString "code"), (.ofString "GapText.code"), (fA (cst 4 2)), (fB (cst 4 2)), (fS (cst 4 2)), 3, [], .none, .none, .none, (.str (.ofString "emacs.gap") 257), .none, (.ref 90), .none, 0⟩), ⟨[]⟩⟩
noncomputable def o161 (P : Params) : Obj := ⟨(.type "tuple"), .none, (.seq ⟨[]⟩ 0), ⟨[]⟩⟩
noncomputable def o53 (P : Params) : Obj := ⟨(.type "tuple"), .none, (.seq ⟨[(.str (.ofString "k") 190)]⟩ 0), ⟨[]⟩⟩
noncomputable def o69 (P : Params) : Obj := ⟨.none, .none, (.func ⟨(.ofString "__init__"), (.ofString "ChangeLog.__init__"), (fA (cst 2 0)), (fB (cst 2 0)), (fS (cst 10 5)), 0, [], .none, .none, .none, .none, .none, .none, .none, 0⟩), ⟨[]⟩⟩
noncomputable def o103 (P : Params) : Obj := ⟨(.type "builtin_function_or_method"), .none, (.fields ⟨[(.builtin "type.__prepare__"), (.type "type")]⟩), ⟨[]⟩⟩
noncomputable def o167 (P : Params) : Obj := ⟨(.type "tuple"), .none, (.seq ⟨[(.str (.ofString "self") 345), (.str (.ofString "at") 346), (.str (.ofString "code") 347)]⟩ 0), ⟨[]⟩⟩
noncomputable def o135 (P : Params) : Obj := ⟨(.type "code"), .none, (.fields ⟨[(.str (.ofString "codes") 295), (.str (.ofString "GapText.codes") 296), (.str (.ofString "/claim/cut.py") 297), (.int 45 0), (.int 3 0), (.int 0 0), (.int 0 0), (.int 3 0), (.ref 92), (.bool .true), (.int 181 0), (.ref 93), .none, (.ref 94), (.ref 95), (.ref 96), (.int 302 0), (.int 45 0), (.str (.ofString "/claim/cut.py") 303)]⟩), ⟨[]⟩⟩
noncomputable def o85 (P : Params) : Obj := ⟨(.type "function"), .none, (.func ⟨(.ofString "after_change"), (.ofString "ChangeLog.after_change"), (fA (cst 2 2)), (fB (cst 2 2)), (fS (cst 2 2)), 3, [], .none, .none, .none, (.str (.ofString "emacs.changelog") 194), .none, (.ref 48), .none, 0⟩), ⟨[]⟩⟩
noncomputable def o119 (P : Params) : Obj := ⟨(.type "tuple"), .none, (.seq ⟨[]⟩ 0), ⟨[]⟩⟩
noncomputable def o183 (P : Params) : Obj := ⟨.none, .none, (.func ⟨(.ofString "is_whole"), (.ofString "GapText.is_whole"), (fA (cst 4 10)), (fB (cst 4 10)), (fS (cst 10 10)), 0, [], .none, .none, .none, .none, .none, .none, .none, 0⟩), ⟨[]⟩⟩
noncomputable def o151 (P : Params) : Obj := ⟨(.type "tuple"), .none, (.seq ⟨[]⟩ 0), ⟨[]⟩⟩
noncomputable def o61 (P : Params) : Obj := ⟨(.type "tuple"), .none, (.seq ⟨[]⟩ 0), ⟨[]⟩⟩
noncomputable def o77 (P : Params) : Obj := ⟨(.type "code"), .none, (.fields ⟨[(.str (.ofString "before_change") 215), (.str (.ofString "ChangeLog.before_change") 216), (.str (.ofString "/claim/cut.py") 217), (.int 13 0), (.int 4 0), (.int 0 0), (.int 0 0), (.int 3 0), (.ref 36), (.bool .true), (.int 181 0), (.ref 37), .none, (.ref 38), (.ref 39), (.ref 40), (.int 222 0), (.int 13 0), (.str (.ofString "/claim/cut.py") 223)]⟩), ⟨[]⟩⟩
noncomputable def o111 (P : Params) : Obj := ⟨(.type "tuple"), .none, (.seq ⟨[(.str (.ofString "self") 274), (.str (.ofString "codes") 275), (.str (.ofString "room") 276)]⟩ 0), ⟨[]⟩⟩
noncomputable def o175 (P : Params) : Obj := ⟨(.type "tuple"), .none, (.seq ⟨[]⟩ 0), ⟨[]⟩⟩
noncomputable def o143 (P : Params) : Obj := ⟨(.type "function"), .none, (.func ⟨(.ofString "move_gap"), (.ofString "GapText.move_gap"), (fA (cst 4 4)), (fB (cst 4 4)), (fS (cst 4 4)), 3, [], .none, .none, .none, (.str (.ofString "emacs.gap") 257), .none, (.ref 104), .none, 0⟩), ⟨[]⟩⟩
noncomputable def o93 (P : Params) : Obj := ⟨(.type "tuple"), .none, (.seq ⟨[(.str (.ofString "begin") 245), (.str (.ofString "end") 246), (.str (.ofString "growth") 247), (.str (.ofString "rows") 248)]⟩ 0), ⟨[]⟩⟩
noncomputable def o127 (P : Params) : Obj := ⟨.none, .none, (.func ⟨(.ofString "code"), (.ofString "GapText.code"), (fA (cst 4 2)), (fB (cst 4 2)), (fS (cst 4 2)), 0, [], .none, .none, .none, .none, .none, .none, .none, 0⟩), ⟨[]⟩⟩
noncomputable def o191 (P : Params) : Obj := ⟨(.type "super"), .none, (.fields ⟨[(.ref 150), (.ref 150), (.ref 150)]⟩), ⟨[]⟩⟩
noncomputable def o159 (P : Params) : Obj := ⟨.none, .none, (.fields ⟨[]⟩), ⟨[]⟩⟩
noncomputable def o57 (P : Params) : Obj := ⟨(.type "function"), .none, (.func ⟨(.ofString "_wall"), (.ofString "_wall"), (fA (st 0)), (fB (st 0)), (fS (st 0)), 3, [], .none, .none, .none, (.str (.ofString "__main__") 164), .none, (.ref 20), .none, 0⟩), ⟨[]⟩⟩
noncomputable def o73 (P : Params) : Obj := ⟨.none, .none, (.fields ⟨[]⟩), ⟨[]⟩⟩
noncomputable def o107 (P : Params) : Obj := ⟨(.type "code"), .none, (.fields ⟨[(.str (.ofString "GapText") 261), (.str (.ofString "GapText") 262), (.str (.ofString "/claim/cut.py") 263), (.int 31 0), (.int 0 0), (.int 0 0), (.int 0 0), (.int 0 0), (.ref 67), (.bool .false), (.int 181 0), (.ref 68), .none, .none, .none, .none, (.int 264 0), (.int 31 0), (.str (.ofString "/claim/cut.py") 265)]⟩), ⟨[]⟩⟩
noncomputable def o171 (P : Params) : Obj := ⟨(.type "function"), .none, (.func ⟨(.ofString "put"), (.ofString "GapText.put"), (fA (cst 4 8)), (fB (cst 4 8)), (fS (cst 4 8)), 3, [], .none, .none, .none, (.str (.ofString "emacs.gap") 257), .none, (.ref 132), .none, 0⟩), ⟨[]⟩⟩
noncomputable def o139 (P : Params) : Obj := ⟨(.type "tuple"), .none, (.seq ⟨[(.str (.ofString "self") 308), (.str (.ofString "at") 309), (.str (.ofString "moved") 310)]⟩ 0), ⟨[]⟩⟩
noncomputable def o89 (P : Params) : Obj := ⟨(.type "tuple"), .none, (.seq ⟨[]⟩ 0), ⟨[]⟩⟩
noncomputable def o123 (P : Params) : Obj := ⟨(.type "tuple"), .none, (.seq ⟨[]⟩ 0), ⟨[]⟩⟩
noncomputable def o187 (P : Params) : Obj := ⟨(.type "dict"), .none, (.dict ⟨[⟨(PyData.keyHash P (.ofString "__module__")), (.str (.ofString "__module__") 266), (.str (.ofString "emacs.gap") 257)⟩, ⟨(PyData.keyHash P (.ofString "__firstlineno__")), (.str (.ofString "__firstlineno__") 270), (.int 31 269)⟩, ⟨(PyData.keyHash P (.ofString "__init__")), (.str (.ofString "__init__") 279), (.ref 77)⟩, ⟨(PyData.keyHash P (.ofString "size")), (.str (.ofString "size") 286), (.ref 84)⟩, ⟨(PyData.keyHash P (.ofString "code")), (.str (.ofString "code") 294), (.ref 91)⟩, ⟨(PyData.keyHash P (.ofString "codes")), (.str (.ofString "codes") 304), (.ref 98)⟩, ⟨(PyData.keyHash P (.ofString "move_gap")), (.str (.ofString "move_gap") 313), (.ref 105)⟩, ⟨(PyData.keyHash P (.ofString "widen_gap")), (.str (.ofString "widen_gap") 322), (.ref 112)⟩, ⟨(PyData.keyHash P (.ofString "insert")), (.str (.ofString "insert") 331), (.ref 119)⟩, ⟨(PyData.keyHash P (.ofString "delete")), (.str (.ofString "delete") 341), (.ref 126)⟩, ⟨(PyData.keyHash P (.ofString "put")), (.str (.ofString "put") 350), (.ref 133)⟩, ⟨(PyData.keyHash P (.ofString "narrow_gap")), (.str (.ofString "narrow_gap") 357), (.ref 140)⟩, ⟨(PyData.keyHash P (.ofString "is_whole")), (.str (.ofString "is_whole") 364), (.ref 147)⟩, ⟨(PyData.keyHash P (.ofString "__static_attributes__")), (.str (.ofString "__static_attributes__") 369), (.ref 148)⟩, ⟨(PyData.keyHash P (.ofString "__dict__")), (.str (.ofString "__dict__") 371), (.ref 151)⟩, ⟨(PyData.keyHash P (.ofString "__weakref__")), (.str (.ofString "__weakref__") 373), (.ref 152)⟩, ⟨(PyData.keyHash P (.ofString "__doc__")), (.str (.ofString "__doc__") 374), .none⟩]⟩ 4), ⟨[]⟩⟩
noncomputable def o155 (P : Params) : Obj := ⟨.none, .none, (.func ⟨(.ofString "insert"), (.ofString "GapText.insert"), (fA (cst 4 6)), (fB (cst 4 6)), (fS (cst 4 6)), 0, [], .none, .none, .none, .none, .none, .none, .none, 0⟩), ⟨[]⟩⟩
noncomputable def o65 (P : Params) : Obj := ⟨(.type "tuple"), .none, (.seq ⟨[]⟩ 0), ⟨[]⟩⟩
noncomputable def o81 (P : Params) : Obj := ⟨(.type "tuple"), .none, (.seq ⟨[(.str (.ofString "self") 228), (.str (.ofString "buffer") 229), (.str (.ofString "start") 230), (.str (.ofString "end") 231), (.str (.ofString "old_length") 232), (.str (.ofString "growth") 233)]⟩ 0), ⟨[]⟩⟩
noncomputable def o115 (P : Params) : Obj := ⟨(.type "function"), .none, (.func ⟨(.ofString "__init__"), (.ofString "GapText.__init__"), (fA (cst 4 0)), (fB (cst 4 0)), (fS (cst 4 0)), 3, [], .none, .none, .none, (.str (.ofString "emacs.gap") 257), .none, (.ref 76), .none, 0⟩), ⟨[]⟩⟩
noncomputable def o179 (P : Params) : Obj := ⟨(.type "tuple"), .none, (.seq ⟨[]⟩ 0), ⟨[]⟩⟩
noncomputable def o147 (P : Params) : Obj := ⟨(.type "tuple"), .none, (.seq ⟨[]⟩ 0), ⟨[]⟩⟩
noncomputable def o97 (P : Params) : Obj := ⟨(.type "getset_descriptor"), .none, (.fields ⟨[(.str (.ofString "__weakref__") 252), (.ref 59), (.builtin "ExceptionGroup.__weakref__"), .none]⟩), ⟨[]⟩⟩
noncomputable def o131 (P : Params) : Obj := ⟨.none, .none, (.fields ⟨[]⟩), ⟨[]⟩⟩
noncomputable def o163 (P : Params) : Obj := ⟨(.type "code"), .none, (.fields ⟨[(.str (.ofString "delete") 332), (.str (.ofString "GapText.delete") 333), (.str (.ofString "/claim/cut.py") 334), (.int 76 0), (.int 3 0), (.int 0 0), (.int 0 0), (.int 3 0), (.ref 120), (.bool .true), (.int 181 0), (.ref 121), .none, (.ref 122), (.ref 123), (.ref 124), (.int 339 0), (.int 76 0), (.str (.ofString "/claim/cut.py") 340)]⟩), ⟨[]⟩⟩
noncomputable def o52 (P : Params) : Obj := ⟨.none, .none, (.fields ⟨[]⟩), ⟨[]⟩⟩
noncomputable def o68 (P : Params) : Obj := ⟨(.type "tuple"), .none, (.seq ⟨[]⟩ 0), ⟨[]⟩⟩
noncomputable def o102 (P : Params) : Obj := ⟨(.type "tuple"), .none, (.seq ⟨[]⟩ 0), ⟨[]⟩⟩
noncomputable def o166 (P : Params) : Obj := ⟨.none, .none, (.fields ⟨[]⟩), ⟨[]⟩⟩
noncomputable def o134 (P : Params) : Obj := ⟨.none, .none, (.func ⟨(.ofString "codes"), (.ofString "GapText.codes"), (fA (cst 4 3)), (fB (cst 4 3)), (fS (cst 4 3)), 0, [], .none, .none, .none, .none, .none, .none, .none, 0⟩), ⟨[]⟩⟩
noncomputable def o84 (P : Params) : Obj := ⟨(.type "code"), .none, (.fields ⟨[(.str (.ofString "after_change") 225), (.str (.ofString "ChangeLog.after_change") 226), (.str (.ofString "/claim/cut.py") 227), (.int 16 0), (.int 5 0), (.int 0 0), (.int 0 0), (.int 3 0), (.ref 43), (.bool .true), (.int 181 0), (.ref 44), .none, (.ref 45), (.ref 46), (.ref 47), (.int 234 0), (.int 16 0), (.str (.ofString "/claim/cut.py") 235)]⟩), ⟨[]⟩⟩
noncomputable def o118 (P : Params) : Obj := ⟨(.type "tuple"), .none, (.seq ⟨[(.str (.ofString "self") 283)]⟩ 0), ⟨[]⟩⟩
noncomputable def o182 (P : Params) : Obj := ⟨(.type "tuple"), .none, (.seq ⟨[]⟩ 0), ⟨[]⟩⟩
noncomputable def o150 (P : Params) : Obj := ⟨(.type "function"), .none, (.func ⟨(.ofString "widen_gap"), (.ofString "GapText.widen_gap"), (fA (cst 4 5)), (fB (cst 4 5)), (fS (cst 4 5)), 3, [], .none, .none, .none, (.str (.ofString "emacs.gap") 257), .none, (.ref 111), .none, 0⟩), ⟨[]⟩⟩
noncomputable def o60 (P : Params) : Obj := ⟨(.type "dict"), .none, (.dict ⟨[⟨(PyData.keyHash P (.ofString "__module__")), (.str (.ofString "__module__") 203), (.str (.ofString "emacs.changelog") 194)⟩, ⟨(PyData.keyHash P (.ofString "__qualname__")), (.str (.ofString "__qualname__") 205), (.str (.ofString "ChangeLog") 204)⟩, ⟨(PyData.keyHash P (.ofString "__firstlineno__")), (.str (.ofString "__firstlineno__") 207), (.int 5 206)⟩, ⟨(PyData.keyHash P (.ofString "__init__")), (.str (.ofString "__init__") 214), (.ref 35)⟩, ⟨(PyData.keyHash P (.ofString "before_change")), (.str (.ofString "before_change") 224), (.ref 42)⟩, ⟨(PyData.keyHash P (.ofString "after_change")), (.str (.ofString "after_change") 236), (.ref 49)⟩, ⟨(PyData.keyHash P (.ofString "taken")), (.str (.ofString "taken") 244), (.ref 56)⟩, ⟨(PyData.keyHash P (.ofString "__static_attributes__")), (.str (.ofString "__static_attributes__") 249), (.ref 57)⟩]⟩ 8), ⟨[]⟩⟩
noncomputable def o76 (P : Params) : Obj := ⟨.none, .none, (.func ⟨(.ofString "before_change"), (.ofString "ChangeLog.before_change"), (fA (cst 2 1)), (fB (cst 2 1)), (fS (cst 2 1)), 0, [], .none, .none, .none, .none, .none, .none, .none, 0⟩), ⟨[]⟩⟩
noncomputable def o110 (P : Params) : Obj := ⟨.none, .none, (.fields ⟨[]⟩), ⟨[]⟩⟩
noncomputable def o174 (P : Params) : Obj := ⟨(.type "tuple"), .none, (.seq ⟨[(.str (.ofString "self") 354)]⟩ 0), ⟨[]⟩⟩
noncomputable def o142 (P : Params) : Obj := ⟨(.type "code"), .none, (.fields ⟨[(.str (.ofString "move_gap") 305), (.str (.ofString "GapText.move_gap") 306), (.str (.ofString "/claim/cut.py") 307), (.int 53 0), (.int 2 0), (.int 0 0), (.int 0 0), (.int 3 0), (.ref 99), (.bool .true), (.int 181 0), (.ref 100), .none, (.ref 101), (.ref 102), (.ref 103), (.int 311 0), (.int 53 0), (.str (.ofString "/claim/cut.py") 312)]⟩), ⟨[]⟩⟩
noncomputable def o92 (P : Params) : Obj := ⟨(.type "function"), .none, (.func ⟨(.ofString "taken"), (.ofString "ChangeLog.taken"), (fA (cst 2 3)), (fB (cst 2 3)), (fS (cst 2 3)), 3, [], .none, .none, .none, (.str (.ofString "emacs.changelog") 194), .none, (.ref 55), .none, 0⟩), ⟨[]⟩⟩
noncomputable def o126 (P : Params) : Obj := ⟨(.type "tuple"), .none, (.seq ⟨[]⟩ 0), ⟨[]⟩⟩
noncomputable def o190 (P : Params) : Obj := ⟨(.type "getset_descriptor"), .none, (.fields ⟨[(.str (.ofString "__weakref__") 372), (.ref 150), (.builtin "ExceptionGroup.__weakref__"), .none]⟩), ⟨[]⟩⟩
noncomputable def o158 (P : Params) : Obj := ⟨(.type "tuple"), .none, (.seq ⟨[]⟩ 0), ⟨[]⟩⟩
noncomputable def o101 (P : Params) : Obj := ⟨.none, .none, (.fields ⟨[(.int 1 0), (.int 0 0), (.ref 20), (.int 5 0), (.int 0 0), (.ref 27), (.int 31 0), (.int 0 0), (.ref 69)]⟩), ⟨[]⟩⟩
noncomputable def o56 (P : Params) : Obj := ⟨(.type "code"), .none, (.fields ⟨[(.str (.ofString "_wall") 187), (.str (.ofString "_wall") 188), (.str (.ofString "/claim/cut.py") 189), (.int 1 0), (.int 1 0), (.int 0 0), (.int 0 0), (.int 3 0), (.ref 15), (.bool .true), (.int 181 0), (.ref 16), .none, (.ref 17), (.ref 18), (.ref 19), (.int 191 0), (.int 1 0), (.str (.ofString "/claim/cut.py") 192)]⟩), ⟨[]⟩⟩
noncomputable def o72 (P : Params) : Obj := ⟨(.type "tuple"), .none, (.seq ⟨[]⟩ 0), ⟨[]⟩⟩
noncomputable def o106 (P : Params) : Obj := ⟨.none, .none, (.fields ⟨[(.int 33 0), (.int 4 0), (.ref 76), (.int 39 0), (.int 4 0), (.ref 83), (.int 42 0), (.int 4 0), (.ref 90), (.int 45 0), (.int 4 0), (.ref 97), (.int 53 0), (.int 4 0), (.ref 104), (.int 64 0), (.int 4 0), (.ref 111), (.int 70 0), (.int 4 0), (.ref 118), (.int 76 0), (.int 4 0), (.ref 125), (.int 86 0), (.int 4 0), (.ref 132), (.int 89 0), (.int 4 0), (.ref 139), (.int 92 0), (.int 4 0), (.ref 146)]⟩), ⟨[]⟩⟩
noncomputable def o170 (P : Params) : Obj := ⟨(.type "code"), .none, (.fields ⟨[(.str (.ofString "put") 342), (.str (.ofString "GapText.put") 343), (.str (.ofString "/claim/cut.py") 344), (.int 86 0), (.int 3 0), (.int 0 0), (.int 0 0), (.int 3 0), (.ref 127), (.bool .true), (.int 181 0), (.ref 128), .none, (.ref 129), (.ref 130), (.ref 131), (.int 348 0), (.int 86 0), (.str (.ofString "/claim/cut.py") 349)]⟩), ⟨[]⟩⟩
noncomputable def o138 (P : Params) : Obj := ⟨.none, .none, (.fields ⟨[]⟩), ⟨[]⟩⟩
noncomputable def o88 (P : Params) : Obj := ⟨(.type "tuple"), .none, (.seq ⟨[(.str (.ofString "self") 240), (.str (.ofString "found") 241)]⟩ 0), ⟨[]⟩⟩
noncomputable def o122 (P : Params) : Obj := ⟨(.type "function"), .none, (.func ⟨(.ofString "size"), (.ofString "GapText.size"), (fA (cst 4 1)), (fB (cst 4 1)), (fS (cst 4 1)), 3, [], .none, .none, .none, (.str (.ofString "emacs.gap") 257), .none, (.ref 83), .none, 0⟩), ⟨[]⟩⟩
noncomputable def o186 (P : Params) : Obj := ⟨(.type "tuple"), .none, (.seq ⟨[(.str (.ofString "cells") 365), (.str (.ofString "gap_end") 366), (.str (.ofString "gap_start") 367), (.str (.ofString "room") 368)]⟩ 0), ⟨[]⟩⟩
noncomputable def o154 (P : Params) : Obj := ⟨(.type "tuple"), .none, (.seq ⟨[]⟩ 0), ⟨[]⟩⟩
noncomputable def o64 (P : Params) : Obj := ⟨(.type "frame"), .none, .plain, ⟨[(.some (.ref 27)), (.some (.ref 3)), (.some (.ref 24)), .none, (.some (.str (.ofString "emacs.changelog") 194)), .none, (.some (.ref 0))]⟩⟩
noncomputable def o80 (P : Params) : Obj := ⟨.none, .none, (.fields ⟨[]⟩), ⟨[]⟩⟩
noncomputable def o114 (P : Params) : Obj := ⟨(.type "code"), .none, (.fields ⟨[(.str (.ofString "__init__") 271), (.str (.ofString "GapText.__init__") 272), (.str (.ofString "/claim/cut.py") 273), (.int 33 0), (.int 3 0), (.int 0 0), (.int 0 0), (.int 3 0), (.ref 71), (.bool .true), (.int 181 0), (.ref 72), .none, (.ref 73), (.ref 74), (.ref 75), (.int 277 0), (.int 33 0), (.str (.ofString "/claim/cut.py") 278)]⟩), ⟨[]⟩⟩
noncomputable def o178 (P : Params) : Obj := ⟨(.type "function"), .none, (.func ⟨(.ofString "narrow_gap"), (.ofString "GapText.narrow_gap"), (fA (cst 4 9)), (fB (cst 4 9)), (fS (cst 10 10)), 3, [], .none, .none, .none, (.str (.ofString "emacs.gap") 257), .none, (.ref 139), .none, 0⟩), ⟨[]⟩⟩
noncomputable def o146 (P : Params) : Obj := ⟨(.type "tuple"), .none, (.seq ⟨[(.str (.ofString "self") 317), (.str (.ofString "wanted") 318), (.str (.ofString "lack") 319)]⟩ 0), ⟨[]⟩⟩
noncomputable def o96 (P : Params) : Obj := ⟨(.type "getset_descriptor"), .none, (.fields ⟨[(.str (.ofString "__dict__") 250), (.ref 59), (.builtin "function.__dict__"), (.builtin "function.__dict__#set")]⟩), ⟨[]⟩⟩
noncomputable def o130 (P : Params) : Obj := ⟨(.type "tuple"), .none, (.seq ⟨[]⟩ 0), ⟨[]⟩⟩
noncomputable def o162 (P : Params) : Obj := ⟨.none, .none, (.func ⟨(.ofString "delete"), (.ofString "GapText.delete"), (fA (cst 4 7)), (fB (cst 4 7)), (fS (cst 4 7)), 0, [], .none, .none, .none, .none, .none, .none, .none, 0⟩), ⟨[]⟩⟩
noncomputable def o54 (P : Params) : Obj := ⟨(.type "tuple"), .none, (.seq ⟨[]⟩ 0), ⟨[]⟩⟩
noncomputable def o70 (P : Params) : Obj := ⟨(.type "code"), .none, (.fields ⟨[(.str (.ofString "__init__") 208), (.str (.ofString "ChangeLog.__init__") 209), (.str (.ofString "/claim/cut.py") 210), (.int 7 0), (.int 1 0), (.int 0 0), (.int 0 0), (.int 3 0), (.ref 29), (.bool .true), (.int 181 0), (.ref 30), .none, (.ref 31), (.ref 32), (.ref 33), (.int 212 0), (.int 7 0), (.str (.ofString "/claim/cut.py") 213)]⟩), ⟨[]⟩⟩
noncomputable def o104 (P : Params) : Obj := ⟨(.type "dict"), .none, (.dict ⟨[⟨(PyData.keyHash P (.ofString "__module__")), (.str (.ofString "__module__") 266), (.str (.ofString "emacs.gap") 257)⟩, ⟨(PyData.keyHash P (.ofString "__qualname__")), (.str (.ofString "__qualname__") 268), (.str (.ofString "GapText") 267)⟩, ⟨(PyData.keyHash P (.ofString "__firstlineno__")), (.str (.ofString "__firstlineno__") 270), (.int 31 269)⟩, ⟨(PyData.keyHash P (.ofString "__init__")), (.str (.ofString "__init__") 279), (.ref 77)⟩, ⟨(PyData.keyHash P (.ofString "size")), (.str (.ofString "size") 286), (.ref 84)⟩, ⟨(PyData.keyHash P (.ofString "code")), (.str (.ofString "code") 294), (.ref 91)⟩, ⟨(PyData.keyHash P (.ofString "codes")), (.str (.ofString "codes") 304), (.ref 98)⟩, ⟨(PyData.keyHash P (.ofString "move_gap")), (.str (.ofString "move_gap") 313), (.ref 105)⟩, ⟨(PyData.keyHash P (.ofString "widen_gap")), (.str (.ofString "widen_gap") 322), (.ref 112)⟩, ⟨(PyData.keyHash P (.ofString "insert")), (.str (.ofString "insert") 331), (.ref 119)⟩, ⟨(PyData.keyHash P (.ofString "delete")), (.str (.ofString "delete") 341), (.ref 126)⟩, ⟨(PyData.keyHash P (.ofString "put")), (.str (.ofString "put") 350), (.ref 133)⟩, ⟨(PyData.keyHash P (.ofString "narrow_gap")), (.str (.ofString "narrow_gap") 357), (.ref 140)⟩, ⟨(PyData.keyHash P (.ofString "is_whole")), (.str (.ofString "is_whole") 364), (.ref 147)⟩, ⟨(PyData.keyHash P (.ofString "__static_attributes__")), (.str (.ofString "__static_attributes__") 369), (.ref 148)⟩]⟩ 15), ⟨[]⟩⟩
noncomputable def o168 (P : Params) : Obj := ⟨(.type "tuple"), .none, (.seq ⟨[]⟩ 0), ⟨[]⟩⟩
noncomputable def o136 (P : Params) : Obj := ⟨(.type "function"), .none, (.func ⟨(.ofString "codes"), (.ofString "GapText.codes"), (fA (cst 4 3)), (fB (cst 4 3)), (fS (cst 4 3)), 3, [], .none, .none, .none, (.str (.ofString "emacs.gap") 257), .none, (.ref 97), .none, 0⟩), ⟨[]⟩⟩
noncomputable def o86 (P : Params) : Obj := ⟨(.type "tuple"), .none, (.seq ⟨[]⟩ 0), ⟨[]⟩⟩
noncomputable def o120 (P : Params) : Obj := ⟨.none, .none, (.func ⟨(.ofString "size"), (.ofString "GapText.size"), (fA (cst 4 1)), (fB (cst 4 1)), (fS (cst 4 1)), 0, [], .none, .none, .none, .none, .none, .none, .none, 0⟩), ⟨[]⟩⟩
noncomputable def o184 (P : Params) : Obj := ⟨(.type "code"), .none, (.fields ⟨[(.str (.ofString "is_whole") 358), (.str (.ofString "GapText.is_whole") 359), (.str (.ofString "/claim/cut.py") 360), (.int 92 0), (.int 1 0), (.int 0 0), (.int 0 0), (.int 3 0), (.ref 141), (.bool .true), (.int 181 0), (.ref 142), .none, (.ref 143), (.ref 144), (.ref 145), (.int 362 0), (.int 92 0), (.str (.ofString "/claim/cut.py") 363)]⟩), ⟨[]⟩⟩
noncomputable def o152 (P : Params) : Obj := ⟨.none, .none, (.fields ⟨[]⟩), ⟨[]⟩⟩
noncomputable def o62 (P : Params) : Obj := ⟨.none, .none, (.fields ⟨[(.int 7 0), (.int 4 0), (.ref 34), (.int 13 0), (.int 4 0), (.ref 41), (.int 16 0), (.int 4 0), (.ref 48), (.int 26 0), (.int 4 0), (.ref 55)]⟩), ⟨[]⟩⟩
noncomputable def o78 (P : Params) : Obj := ⟨(.type "function"), .none, (.func ⟨(.ofString "before_change"), (.ofString "ChangeLog.before_change"), (fA (cst 2 1)), (fB (cst 2 1)), (fS (cst 2 1)), 3, [], .none, .none, .none, (.str (.ofString "emacs.changelog") 194), .none, (.ref 41), .none, 0⟩), ⟨[]⟩⟩
noncomputable def o112 (P : Params) : Obj := ⟨(.type "tuple"), .none, (.seq ⟨[]⟩ 0), ⟨[]⟩⟩
noncomputable def o176 (P : Params) : Obj := ⟨.none, .none, (.func ⟨(.ofString "narrow_gap"), (.ofString "GapText.narrow_gap"), (fA (cst 4 9)), (fB (cst 4 9)), (fS (cst 10 10)), 0, [], .none, .none, .none, .none, .none, .none, .none, 0⟩), ⟨[]⟩⟩
noncomputable def o144 (P : Params) : Obj := ⟨(.type "tuple"), .none, (.seq ⟨[]⟩ 0), ⟨[]⟩⟩
noncomputable def o94 (P : Params) : Obj := ⟨(.type "dict"), .none, (.dict ⟨[⟨(PyData.keyHash P (.ofString "__module__")), (.str (.ofString "__module__") 203), (.str (.ofString "emacs.changelog") 194)⟩, ⟨(PyData.keyHash P (.ofString "__firstlineno__")), (.str (.ofString "__firstlineno__") 207), (.int 5 206)⟩, ⟨(PyData.keyHash P (.ofString "__init__")), (.str (.ofString "__init__") 214), (.ref 35)⟩, ⟨(PyData.keyHash P (.ofString "before_change")), (.str (.ofString "before_change") 224), (.ref 42)⟩, ⟨(PyData.keyHash P (.ofString "after_change")), (.str (.ofString "after_change") 236), (.ref 49)⟩, ⟨(PyData.keyHash P (.ofString "taken")), (.str (.ofString "taken") 244), (.ref 56)⟩, ⟨(PyData.keyHash P (.ofString "__static_attributes__")), (.str (.ofString "__static_attributes__") 249), (.ref 57)⟩, ⟨(PyData.keyHash P (.ofString "__dict__")), (.str (.ofString "__dict__") 251), (.ref 60)⟩, ⟨(PyData.keyHash P (.ofString "__weakref__")), (.str (.ofString "__weakref__") 253), (.ref 61)⟩, ⟨(PyData.keyHash P (.ofString "__doc__")), (.str (.ofString "__doc__") 254), .none⟩]⟩ 4), ⟨[]⟩⟩
noncomputable def o128 (P : Params) : Obj := ⟨(.type "code"), .none, (.fields ⟨[(.str (.ofString "code") 287), (.str (.ofString "GapText.code") 288), (.str (.ofString "/claim/cut.py") 289), (.int 42 0), (.int 2 0), (.int 0 0), (.int 0 0), (.int 3 0), (.ref 85), (.bool .true), (.int 181 0), (.ref 86), .none, (.ref 87), (.ref 88), (.ref 89), (.int 292 0), (.int 42 0), (.str (.ofString "/claim/cut.py") 293)]⟩), ⟨[]⟩⟩
noncomputable def o192 (P : Params) : Obj := ⟨(.type "builtin_function_or_method"), .none, (.fields ⟨[(.builtin "object.__init_subclass__"), (.ref 150)]⟩), ⟨[]⟩⟩
noncomputable def o160 (P : Params) : Obj := ⟨(.type "tuple"), .none, (.seq ⟨[(.str (.ofString "self") 335), (.str (.ofString "start") 336), (.str (.ofString "end") 337), (.str (.ofString "gone") 338)]⟩ 0), ⟨[]⟩⟩
noncomputable def o58 (P : Params) : Obj := ⟨(.type "tuple"), .none, (.seq ⟨[]⟩ 0), ⟨[]⟩⟩
noncomputable def o74 (P : Params) : Obj := ⟨(.type "tuple"), .none, (.seq ⟨[(.str (.ofString "self") 218), (.str (.ofString "buffer") 219), (.str (.ofString "start") 220), (.str (.ofString "end") 221)]⟩ 0), ⟨[]⟩⟩
noncomputable def o108 (P : Params) : Obj := ⟨(.type "frame"), .none, .plain, ⟨[(.some (.ref 69)), (.some (.ref 3)), (.some (.ref 66)), .none, (.some (.str (.ofString "emacs.gap") 257)), .none, (.some (.ref 0))]⟩⟩
noncomputable def o172 (P : Params) : Obj := ⟨(.type "tuple"), .none, (.seq ⟨[]⟩ 0), ⟨[]⟩⟩
noncomputable def o140 (P : Params) : Obj := ⟨(.type "tuple"), .none, (.seq ⟨[]⟩ 0), ⟨[]⟩⟩
noncomputable def o90 (P : Params) : Obj := ⟨.none, .none, (.func ⟨(.ofString "taken"), (.ofString "ChangeLog.taken"), (fA (cst 2 3)), (fB (cst 2 3)), (fS (cst 2 3)), 0, [], .none, .none, .none, .none, .none, .none, .none, 0⟩), ⟨[]⟩⟩
noncomputable def o124 (P : Params) : Obj := ⟨.none, .none, (.fields ⟨[]⟩), ⟨[]⟩⟩
noncomputable def o188 (P : Params) : Obj := ⟨(.type "type"), .none, (.cls ⟨(.ofString "GapText"), [(.type "object")], [(.ref 150), (.type "object")], 149, (.ofString "GapText"), .true, [], [], .false, .none, .false⟩), ⟨[.none, .none, (.some (.str (.ofString "GapText") 259)), (.some (.str (.ofString "GapText") 267)), (.some (.builtin "object.__new__")), (.some (.bool .true))]⟩⟩
noncomputable def o156 (P : Params) : Obj := ⟨(.type "code"), .none, (.fields ⟨[(.str (.ofString "insert") 323), (.str (.ofString "GapText.insert") 324), (.str (.ofString "/claim/cut.py") 325), (.int 70 0), (.int 3 0), (.int 0 0), (.int 0 0), (.int 3 0), (.ref 113), (.bool .true), (.int 181 0), (.ref 114), .none, (.ref 115), (.ref 116), (.ref 117), (.int 329 0), (.int 70 0), (.str (.ofString "/claim/cut.py") 330)]⟩), ⟨[]⟩⟩
noncomputable def o66 (P : Params) : Obj := ⟨.none, .none, (.fields ⟨[]⟩), ⟨[]⟩⟩
noncomputable def o82 (P : Params) : Obj := ⟨(.type "tuple"), .none, (.seq ⟨[]⟩ 0), ⟨[]⟩⟩
noncomputable def o116 (P : Params) : Obj := ⟨(.type "tuple"), .none, (.seq ⟨[]⟩ 0), ⟨[]⟩⟩
noncomputable def o180 (P : Params) : Obj := ⟨.none, .none, (.fields ⟨[]⟩), ⟨[]⟩⟩
noncomputable def o148 (P : Params) : Obj := ⟨.none, .none, (.func ⟨(.ofString "widen_gap"), (.ofString "GapText.widen_gap"), (fA (cst 4 5)), (fB (cst 4 5)), (fS (cst 4 5)), 0, [], .none, .none, .none, .none, .none, .none, .none, 0⟩), ⟨[]⟩⟩
noncomputable def o98 (P : Params) : Obj := ⟨(.type "super"), .none, (.fields ⟨[(.ref 59), (.ref 59), (.ref 59)]⟩), ⟨[]⟩⟩
noncomputable def o132 (P : Params) : Obj := ⟨(.type "tuple"), .none, (.seq ⟨[(.str (.ofString "self") 298), (.str (.ofString "start") 299), (.str (.ofString "end") 300), (.str (.ofString "shift") 301)]⟩ 0), ⟨[]⟩⟩
noncomputable def o164 (P : Params) : Obj := ⟨(.type "function"), .none, (.func ⟨(.ofString "delete"), (.ofString "GapText.delete"), (fA (cst 4 7)), (fB (cst 4 7)), (fS (cst 4 7)), 3, [], .none, .none, .none, (.str (.ofString "emacs.gap") 257), .none, (.ref 125), .none, 0⟩), ⟨[]⟩⟩
noncomputable def o267 (P : Params) : Obj := ⟨(.type "dict"), .none, (.dict ⟨[⟨(PyData.keyHash P (.ofString "__name__")), (.str (.ofString "__name__") 165), (.str (.ofString "emacs.buffer") 521)⟩, ⟨(PyData.keyHash P (.ofString "__doc__")), (.str (.ofString "__doc__") 166), .none⟩, ⟨(PyData.keyHash P (.ofString "__package__")), (.str (.ofString "__package__") 167), .none⟩, ⟨(PyData.keyHash P (.ofString "__loader__")), (.str (.ofString "__loader__") 168), (.builtin "__main__.__loader__#opaque")⟩, ⟨(PyData.keyHash P (.ofString "__spec__")), (.str (.ofString "__spec__") 169), .none⟩, ⟨(PyData.keyHash P (.ofString "__annotations__")), (.str (.ofString "__annotations__") 170), (.ref 6)⟩, ⟨(PyData.keyHash P (.ofString "__builtins__")), (.str (.ofString "__builtins__") 171), (.ref 4)⟩, ⟨(PyData.keyHash P (.ofString "__file__")), (.str (.ofString "__file__") 173), (.str (.ofString "/claim/cut.py") 172)⟩, ⟨(PyData.keyHash P (.ofString "__cached__")), (.str (.ofString "__cached__") 174), .none⟩, ⟨(PyData.keyHash P (.ofString "_wall")), (.str (.ofString "_wall") 193), (.ref 21)⟩, ⟨(PyData.keyHash P (.ofString "ChangeLog")), (.str (.ofString "ChangeLog") 256), (.ref 59)⟩, ⟨(PyData.keyHash P (.ofString "GapText")), (.str (.ofString "GapText") 376), (.ref 150)⟩, ⟨(PyData.keyHash P (.ofString "Markers")), (.str (.ofString "Markers") 476), (.ref 220)⟩, ⟨(PyData.keyHash P (.ofString "Opaque")), (.str (.ofString "Opaque") 520), (.ref 255)⟩]⟩ 14), ⟨[]⟩⟩
noncomputable def o299 (P : Params) : Obj := ⟨(.type "type"), .none, (.cls ⟨(.ofString "Opaque"), [(.type "object")], [(.ref 255), (.type "object")], 254, (.ofString "Opaque"), .true, [], [], .false, .none, .false⟩), ⟨[.none, .none, (.some (.str (.ofString "Opaque") 479)), (.some (.str (.ofString "Opaque") 487)), (.some (.builtin "object.__new__")), (.some (.bool .true))]⟩⟩
noncomputable def o233 (P : Params) : Obj := ⟨.none, .none, (.fields ⟨[]⟩), ⟨[]⟩⟩
noncomputable def o201 (P : Params) : Obj := ⟨.none, .none, (.fields ⟨[(.int 97 0), (.int 4 0), (.ref 167), (.int 100 0), (.int 4 0), (.ref 174), (.int 103 0), (.int 4 0), (.ref 181), (.int 106 0), (.int 4 0), (.ref 188), (.int 109 0), (.int 4 0), (.ref 195), (.int 116 0), (.int 4 0), (.ref 202), (.int 122 0), (.int 4 0), (.ref 209), (.int 130 0), (.int 4 0), (.ref 216)]⟩), ⟨[]⟩⟩
noncomputable def o265 (P : Params) : Obj := ⟨(.type "super"), .none, (.fields ⟨[(.ref 220), (.ref 220), (.ref 220)]⟩), ⟨[]⟩⟩
noncomputable def o249 (P : Params) : Obj := ⟨(.type "tuple"), .none, (.seq ⟨[]⟩ 0), ⟨[]⟩⟩
noncomputable def o217 (P : Params) : Obj := ⟨(.type "function"), .none, (.func ⟨(.ofString "numbers"), (.ofString "Markers.numbers"), (fA (cst 6 1)), (fB (cst 6 1)), (fS (cst 6 1)), 3, [], .none, .none, .none, (.str (.ofString "emacs.markers") 377), .none, (.ref 174), .none, 0⟩), ⟨[]⟩⟩
noncomputable def o283 (P : Params) : Obj := ⟨(.type "tuple"), .none, (.seq ⟨[]⟩ 0), ⟨[]⟩⟩
noncomputable def o241 (P : Params) : Obj := ⟨(.type "tuple"), .none, (.seq ⟨[(.str (.ofString "self") 436), (.str (.ofString "start") 437), (.str (.ofString "end") 438), (.str (.ofString "is_before") 439), (.str (.ofString "number") 440), (.str (.ofString "marker") 441)]⟩ 0), ⟨[]⟩⟩
noncomputable def o209 (P : Params) : Obj := ⟨(.type "code"), .none, (.fields ⟨[(.str (.ofString "__init__") 391), (.str (.ofString "Markers.__init__") 392), (.str (.ofString "/claim/cut.py") 393), (.int 97 0), (.int 1 0), (.int 0 0), (.int 0 0), (.int 3 0), (.ref 162), (.bool .true), (.int 181 0), (.ref 163), .none, (.ref 164), (.ref 165), (.ref 166), (.int 395 0), (.int 97 0), (.str (.ofString "/claim/cut.py") 396)]⟩), ⟨[]⟩⟩
noncomputable def o275 (P : Params) : Obj := ⟨(.type "frame"), .none, .plain, ⟨[(.some (.ref 230)), (.some (.ref 3)), (.some (.ref 227)), .none, (.some (.str (.ofString "emacs.objects") 477)), .none, (.some (.ref 0))]⟩⟩
noncomputable def o257 (P : Params) : Obj := ⟨.none, .none, (.func ⟨(.ofString "replaced"), (.ofString "Markers.replaced"), (fA (cst 6 7)), (fB (cst 6 7)), (fS (cst 6 7)), 0, [], .none, .none, .none, .none, .none, .none, .none, 0⟩), ⟨[]⟩⟩
noncomputable def o225 (P : Params) : Obj := ⟨(.type "tuple"), .none, (.seq ⟨[]⟩ 0), ⟨[]⟩⟩
noncomputable def o291 (P : Params) : Obj := ⟨.none, .none, (.fields ⟨[]⟩), ⟨[]⟩⟩
noncomputable def o303 (P : Params) : Obj := ⟨(.type "builtin_function_or_method"), .none, (.fields ⟨[(.builtin "object.__init_subclass__"), (.ref 255)]⟩), ⟨[]⟩⟩
noncomputable def o237 (P : Params) : Obj := ⟨(.type "code"), .none, (.fields ⟨[(.str (.ofString "within") 422), (.str (.ofString "Markers.within") 423), (.str (.ofString "/claim/cut.py") 424), (.int 109 0), (.int 3 0), (.int 0 0), (.int 0 0), (.int 3 0), (.ref 190), (.bool .true), (.int 181 0), (.ref 191), .none, (.ref 192), (.ref 193), (.ref 194), (.int 430 0), (.int 109 0), (.str (.ofString "/claim/cut.py") 431)]⟩), ⟨[]⟩⟩
noncomputable def o205 (P : Params) : Obj := ⟨.none, .none, (.fields ⟨[]⟩), ⟨[]⟩⟩
noncomputable def o271 (P : Params) : Obj := ⟨(.type "dict"), .none, (.dict ⟨[⟨(PyData.keyHash P (.ofString "__module__")), (.str (.ofString "__module__") 486), (.str (.ofString "emacs.objects") 477)⟩, ⟨(PyData.keyHash P (.ofString "__qualname__")), (.str (.ofString "__qualname__") 488), (.str (.ofString "Opaque") 487)⟩, ⟨(PyData.keyHash P (.ofString "__firstlineno__")), (.str (.ofString "__firstlineno__") 490), (.int 138 489)⟩, ⟨(PyData.keyHash P (.ofString "shown")), (.str (.ofString "shown") 497), (.ref 238)⟩, ⟨(PyData.keyHash P (.ofString "kind")), (.str (.ofString "kind") 504), (.ref 245)⟩, ⟨(PyData.keyHash P (.ofString "same_as")), (.str (.ofString "same_as") 512), (.ref 252)⟩, ⟨(PyData.keyHash P (.ofString "__static_attributes__")), (.str (.ofString "__static_attributes__") 513), (.ref 253)⟩]⟩ 7), ⟨[]⟩⟩
noncomputable def o253 (P : Params) : Obj := ⟨(.type "tuple"), .none, (.seq ⟨[]⟩ 0), ⟨[]⟩⟩
noncomputable def o221 (P : Params) : Obj := ⟨(.type "tuple"), .none, (.seq ⟨[]⟩ 0), ⟨[]⟩⟩
noncomputable def o287 (P : Params) : Obj := ⟨.none, .none, (.func ⟨(.ofString "kind"), (.ofString "Opaque.kind"), (fA (cst 8 1)), (fB (cst 8 1)), (fS (cst 10 10)), 0, [], .none, .none, .none, .none, .none, .none, .none, 0⟩), ⟨[]⟩⟩
noncomputable def o245 (P : Params) : Obj := ⟨(.type "function"), .none, (.func ⟨(.ofString "inserted"), (.ofString "Markers.inserted"), (fA (cst 6 5)), (fB (cst 6 5)), (fS (cst 6 5)), 3, [], .none, .none, .none, (.str (.ofString "emacs.markers") 377), .none, (.ref 202), .none, 0⟩), ⟨[]⟩⟩
noncomputable def o213 (P : Params) : Obj := ⟨(.type "tuple"), .none, (.seq ⟨[(.str (.ofString "self") 401)]⟩ 0), ⟨[]⟩⟩
noncomputable def o279 (P : Params) : Obj := ⟨(.type "tuple"), .none, (.seq ⟨[]⟩ 0), ⟨[]⟩⟩
noncomputable def o197 (P : Params) : Obj := ⟨(.type "tuple"), .none, (.seq ⟨[]⟩ 0), ⟨[]⟩⟩
noncomputable def o261 (P : Params) : Obj := ⟨(.type "dict"), .none, (.dict ⟨[⟨(PyData.keyHash P (.ofString "__module__")), (.str (.ofString "__module__") 386), (.str (.ofString "emacs.markers") 377)⟩, ⟨(PyData.keyHash P (.ofString "__firstlineno__")), (.str (.ofString "__firstlineno__") 390), (.int 95 389)⟩, ⟨(PyData.keyHash P (.ofString "__init__")), (.str (.ofString "__init__") 397), (.ref 168)⟩, ⟨(PyData.keyHash P (.ofString "numbers")), (.str (.ofString "numbers") 404), (.ref 175)⟩, ⟨(PyData.keyHash P (.ofString "put")), (.str (.ofString "put") 413), (.ref 182)⟩, ⟨(PyData.keyHash P (.ofString "drop")), (.str (.ofString "drop") 421), (.ref 189)⟩, ⟨(PyData.keyHash P (.ofString "within")), (.str (.ofString "within") 432), (.ref 196)⟩, ⟨(PyData.keyHash P (.ofString "inserted")), (.str (.ofString "inserted") 444), (.ref 203)⟩, ⟨(PyData.keyHash P (.ofString "deleted")), (.str (.ofString "deleted") 455), (.ref 210)⟩, ⟨(PyData.keyHash P (.ofString "replaced")), (.str (.ofString "replaced") 467), (.ref 217)⟩, ⟨(PyData.keyHash P (.ofString "__static_attributes__")), (.str (.ofString "__static_attributes__") 469), (.ref 218)⟩, ⟨(PyData.keyHash P (.ofString "__dict__")), (.str (.ofString "__dict__") 471), (.ref 221)⟩, ⟨(PyData.keyHash P (.ofString "__weakref__")), (.str (.ofString "__weakref__") 473), (.ref 222)⟩, ⟨(PyData.keyHash P (.ofString "__doc__")), (.str (.ofString "__doc__") 474), .none⟩]⟩ 4), ⟨[]⟩⟩
noncomputable def o229 (P : Params) : Obj := ⟨.none, .none, (.func ⟨(.ofString "drop"), (.ofString "Markers.drop"), (fA (cst 6 3)), (fB (cst 6 3)), (fS (cst 6 3)), 0, [], .none, .none, .none, .none, .none, .none, .none, 0⟩), ⟨[]⟩⟩
noncomputable def o295 (P : Params) : Obj := ⟨(.type "code"), .none, (.fields ⟨[(.str (.ofString "same_as") 505), (.str (.ofString "Opaque.same_as") 506), (.str (.ofString "/claim/cut.py") 507), (.int 146 0), (.int 2 0), (.int 0 0), (.int 0 0), (.int 3 0), (.ref 246), (.bool .true), (.int 181 0), (.ref 247), .none, (.ref 248), (.ref 249), (.ref 250), (.int 510 0), (.int 146 0), (.str (.ofString "/claim/cut.py") 511)]⟩), ⟨[]⟩⟩
noncomputable def o301 (P : Params) : Obj := ⟨(.type "getset_descriptor"), .none, (.fields ⟨[(.str (.ofString "__weakref__") 516), (.ref 255), (.builtin "ExceptionGroup.__weakref__"), .none]⟩), ⟨[]⟩⟩
noncomputable def o235 (P : Params) : Obj := ⟨(.type "tuple"), .none, (.seq ⟨[]⟩ 0), ⟨[]⟩⟩
noncomputable def o203 (P : Params) : Obj := ⟨(.type "frame"), .none, .plain, ⟨[(.some (.ref 160)), (.some (.ref 3)), (.some (.ref 157)), .none, (.some (.str (.ofString "emacs.markers") 377)), .none, (.some (.ref 0))]⟩⟩
noncomputable def o269 (P : Params) : Obj := ⟨(.type "tuple"), .none, (.seq ⟨[]⟩ 0), ⟨[]⟩⟩
noncomputable def o251 (P : Params) : Obj := ⟨(.type "code"), .none, (.fields ⟨[(.str (.ofString "deleted") 445), (.str (.ofString "Markers.deleted") 446), (.str (.ofString "/claim/cut.py") 447), (.int 122 0), (.int 3 0), (.int 0 0), (.int 0 0), (.int 3 0), (.ref 204), (.bool .true), (.int 181 0), (.ref 205), .none, (.ref 206), (.ref 207), (.ref 208), (.int 453 0), (.int 122 0), (.str (.ofString "/claim/cut.py") 454)]⟩), ⟨[]⟩⟩
noncomputable def o219 (P : Params) : Obj := ⟨.none, .none, (.fields ⟨[]⟩), ⟨[]⟩⟩
noncomputable def o285 (P : Params) : Obj := ⟨(.type "tuple"), .none, (.seq ⟨[(.str (.ofString "self") 501)]⟩ 0), ⟨[]⟩⟩
noncomputable def o243 (P : Params) : Obj := ⟨.none, .none, (.func ⟨(.ofString "inserted"), (.ofString "Markers.inserted"), (fA (cst 6 5)), (fB (cst 6 5)), (fS (cst 6 5)), 0, [], .none, .none, .none, .none, .none, .none, .none, 0⟩), ⟨[]⟩⟩
noncomputable def o211 (P : Params) : Obj := ⟨(.type "tuple"), .none, (.seq ⟨[]⟩ 0), ⟨[]⟩⟩
noncomputable def o277 (P : Params) : Obj := ⟨.none, .none, (.fields ⟨[]⟩), ⟨[]⟩⟩
noncomputable def o259 (P : Params) : Obj := ⟨(.type "function"), .none, (.func ⟨(.ofString "replaced"), (.ofString "Markers.replaced"), (fA (cst 6 7)), (fB (cst 6 7)), (fS (cst 6 7)), 3, [], .none, .none, .none, (.str (.ofString "emacs.markers") 377), .none, (.ref 216), .none, 0⟩), ⟨[]⟩⟩
noncomputable def o227 (P : Params) : Obj := ⟨(.type "tuple"), .none, (.seq ⟨[(.str (.ofString "self") 417), (.str (.ofString "marker") 418)]⟩ 0), ⟨[]⟩⟩
noncomputable def o293 (P : Params) : Obj := ⟨(.type "tuple"), .none, (.seq ⟨[]⟩ 0), ⟨[]⟩⟩
noncomputable def o239 (P : Params) : Obj := ⟨(.type "tuple"), .none, (.seq ⟨[]⟩ 0), ⟨[]⟩⟩
noncomputable def o207 (P : Params) : Obj := ⟨(.type "tuple"), .none, (.seq ⟨[]⟩ 0), ⟨[]⟩⟩
noncomputable def o273 (P : Params) : Obj := ⟨.none, .none, (.fields ⟨[(.int 140 0), (.int 4 0), (.ref 237), (.int 143 0), (.int 4 0), (.ref 244), (.int 146 0), (.int 4 0), (.ref 251)]⟩), ⟨[]⟩⟩
noncomputable def o255 (P : Params) : Obj := ⟨(.type "tuple"), .none, (.seq ⟨[(.str (.ofString "self") 459), (.str (.ofString "start") 460), (.str (.ofString "end") 461), (.str (.ofString "many") 462), (.str (.ofString "number") 463), (.str (.ofString "marker") 464)]⟩ 0), ⟨[]⟩⟩
noncomputable def o223 (P : Params) : Obj := ⟨(.type "code"), .none, (.fields ⟨[(.str (.ofString "put") 405), (.str (.ofString "Markers.put") 406), (.str (.ofString "/claim/cut.py") 407), (.int 103 0), (.int 3 0), (.int 0 0), (.int 0 0), (.int 3 0), (.ref 176), (.bool .true), (.int 181 0), (.ref 177), .none, (.ref 178), (.ref 179), (.ref 180), (.int 411 0), (.int 103 0), (.str (.ofString "/claim/cut.py") 412)]⟩), ⟨[]⟩⟩
noncomputable def o289 (P : Params) : Obj := ⟨(.type "function"), .none, (.func ⟨(.ofString "kind"), (.ofString "Opaque.kind"), (fA (cst 8 1)), (fB (cst 8 1)), (fS (cst 10 10)), 3, [], .none, .none, .none, (.str (.ofString "emacs.objects") 477), .none, (.ref 244), .none, 0⟩), ⟨[]⟩⟩
noncomputable def o247 (P : Params) : Obj := ⟨.none, .none, (.fields ⟨[]⟩), ⟨[]⟩⟩
noncomputable def o215 (P : Params) : Obj := ⟨.none, .none, (.func ⟨(.ofString "numbers"), (.ofString "Markers.numbers"), (fA (cst 6 1)), (fB (cst 6 1)), (fS (cst 6 1)), 0, [], .none, .none, .none, .none, .none, .none, .none, 0⟩), ⟨[]⟩⟩
noncomputable def o281 (P : Params) : Obj := ⟨(.type "code"), .none, (.fields ⟨[(.str (.ofString "shown") 491), (.str (.ofString "Opaque.shown") 492), (.str (.ofString "/claim/cut.py") 493), (.int 140 0), (.int 1 0), (.int 0 0), (.int 0 0), (.int 3 0), (.ref 232), (.bool .true), (.int 181 0), (.ref 233), .none, (.ref 234), (.ref 235), (.ref 236), (.int 495 0), (.int 140 0), (.str (.ofString "/claim/cut.py") 496)]⟩), ⟨[]⟩⟩
noncomputable def o199 (P : Params) : Obj := ⟨(.type "dict"), .none, (.dict ⟨[⟨(PyData.keyHash P (.ofString "__module__")), (.str (.ofString "__module__") 386), (.str (.ofString "emacs.markers") 377)⟩, ⟨(PyData.keyHash P (.ofString "__qualname__")), (.str (.ofString "__qualname__") 388), (.str (.ofString "Markers") 387)⟩, ⟨(PyData.keyHash P (.ofString "__firstlineno__")), (.str (.ofString "__firstlineno__") 390), (.int 95 389)⟩, ⟨(PyData.keyHash P (.ofString "__init__")), (.str (.ofString "__init__") 397), (.ref 168)⟩, ⟨(PyData.keyHash P (.ofString "numbers")), (.str (.ofString "numbers") 404), (.ref 175)⟩, ⟨(PyData.keyHash P (.ofString "put")), (.str (.ofString "put") 413), (.ref 182)⟩, ⟨(PyData.keyHash P (.ofString "drop")), (.str (.ofString "drop") 421), (.ref 189)⟩, ⟨(PyData.keyHash P (.ofString "within")), (.str (.ofString "within") 432), (.ref 196)⟩, ⟨(PyData.keyHash P (.ofString "inserted")), (.str (.ofString "inserted") 444), (.ref 203)⟩, ⟨(PyData.keyHash P (.ofString "deleted")), (.str (.ofString "deleted") 455), (.ref 210)⟩, ⟨(PyData.keyHash P (.ofString "replaced")), (.str (.ofString "replaced") 467), (.ref 217)⟩, ⟨(PyData.keyHash P (.ofString "__static_attributes__")), (.str (.ofString "__static_attributes__") 469), (.ref 218)⟩]⟩ 12), ⟨[]⟩⟩
noncomputable def o263 (P : Params) : Obj := ⟨(.type "getset_descriptor"), .none, (.fields ⟨[(.str (.ofString "__dict__") 470), (.ref 220), (.builtin "function.__dict__"), (.builtin "function.__dict__#set")]⟩), ⟨[]⟩⟩
noncomputable def o231 (P : Params) : Obj := ⟨(.type "function"), .none, (.func ⟨(.ofString "drop"), (.ofString "Markers.drop"), (fA (cst 6 3)), (fB (cst 6 3)), (fS (cst 6 3)), 3, [], .none, .none, .none, (.str (.ofString "emacs.markers") 377), .none, (.ref 188), .none, 0⟩), ⟨[]⟩⟩
noncomputable def o297 (P : Params) : Obj := ⟨(.type "tuple"), .none, (.seq ⟨[]⟩ 0), ⟨[]⟩⟩
noncomputable def o300 (P : Params) : Obj := ⟨(.type "getset_descriptor"), .none, (.fields ⟨[(.str (.ofString "__dict__") 514), (.ref 255), (.builtin "function.__dict__"), (.builtin "function.__dict__#set")]⟩), ⟨[]⟩⟩
noncomputable def o234 (P : Params) : Obj := ⟨(.type "tuple"), .none, (.seq ⟨[(.str (.ofString "self") 425), (.str (.ofString "start") 426), (.str (.ofString "end") 427), (.str (.ofString "found") 428), (.str (.ofString "number") 429)]⟩ 0), ⟨[]⟩⟩
noncomputable def o202 (P : Params) : Obj := ⟨(.type "code"), .none, (.fields ⟨[(.str (.ofString "Markers") 381), (.str (.ofString "Markers") 382), (.str (.ofString "/claim/cut.py") 383), (.int 95 0), (.int 0 0), (.int 0 0), (.int 0 0), (.int 0 0), (.ref 158), (.bool .false), (.int 181 0), (.ref 159), .none, .none, .none, .none, (.int 384 0), (.int 95 0), (.str (.ofString "/claim/cut.py") 385)]⟩), ⟨[]⟩⟩
noncomputable def o266 (P : Params) : Obj := ⟨(.type "builtin_function_or_method"), .none, (.fields ⟨[(.builtin "object.__init_subclass__"), (.ref 220)]⟩), ⟨[]⟩⟩
noncomputable def o250 (P : Params) : Obj := ⟨.none, .none, (.func ⟨(.ofString "deleted"), (.ofString "Markers.deleted"), (fA (cst 6 6)), (fB (cst 6 6)), (fS (cst 6 6)), 0, [], .none, .none, .none, .none, .none, .none, .none, 0⟩), ⟨[]⟩⟩
noncomputable def o218 (P : Params) : Obj := ⟨(.type "tuple"), .none, (.seq ⟨[]⟩ 0), ⟨[]⟩⟩
noncomputable def o284 (P : Params) : Obj := ⟨.none, .none, (.fields ⟨[]⟩), ⟨[]⟩⟩
noncomputable def o242 (P : Params) : Obj := ⟨(.type "tuple"), .none, (.seq ⟨[]⟩ 0), ⟨[]⟩⟩
noncomputable def o210 (P : Params) : Obj := ⟨(.type "function"), .none, (.func ⟨(.ofString "__init__"), (.ofString "Markers.__init__"), (fA (cst 6 0)), (fB (cst 6 0)), (fS (cst 10 5)), 3, [], .none, .none, .none, (.str (.ofString "emacs.markers") 377), .none, (.ref 167), .none, 0⟩), ⟨[]⟩⟩
noncomputable def o276 (P : Params) : Obj := ⟨(.type "tuple"), .none, (.seq ⟨[]⟩ 0), ⟨[]⟩⟩
noncomputable def o258 (P : Params) : Obj := ⟨(.type "code"), .none, (.fields ⟨[(.str (.ofString "replaced") 456), (.str (.ofString "Markers.replaced") 457), (.str (.ofString "/claim/cut.py") 458), (.int 130 0), (.int 4 0), (.int 0 0), (.int 0 0), (.int 3 0), (.ref 211), (.bool .true), (.int 181 0), (.ref 212), .none, (.ref 213), (.ref 214), (.ref 215), (.int 465 0), (.int 130 0), (.str (.ofString "/claim/cut.py") 466)]⟩), ⟨[]⟩⟩
noncomputable def o226 (P : Params) : Obj := ⟨.none, .none, (.fields ⟨[]⟩), ⟨[]⟩⟩
noncomputable def o292 (P : Params) : Obj := ⟨(.type "tuple"), .none, (.seq ⟨[(.str (.ofString "self") 508), (.str (.ofString "other") 509)]⟩ 0), ⟨[]⟩⟩
noncomputable def o268 (P : Params) : Obj := ⟨.none, .none, (.fields ⟨[(.int 1 0), (.int 0 0), (.ref 20), (.int 5 0), (.int 0 0), (.ref 27), (.int 31 0), (.int 0 0), (.ref 69), (.int 95 0), (.int 0 0), (.ref 160), (.int 138 0), (.int 0 0), (.ref 230)]⟩), ⟨[]⟩⟩
noncomputable def o238 (P : Params) : Obj := ⟨(.type "function"), .none, (.func ⟨(.ofString "within"), (.ofString "Markers.within"), (fA (cst 6 4)), (fB (cst 6 4)), (fS (cst 6 4)), 3, [], .none, .none, .none, (.str (.ofString "emacs.markers") 377), .none, (.ref 195), .none, 0⟩), ⟨[]⟩⟩
noncomputable def o206 (P : Params) : Obj := ⟨(.type "tuple"), .none, (.seq ⟨[(.str (.ofString "self") 394)]⟩ 0), ⟨[]⟩⟩
noncomputable def o272 (P : Params) : Obj := ⟨(.type "tuple"), .none, (.seq ⟨[]⟩ 0), ⟨[]⟩⟩
noncomputable def o254 (P : Params) : Obj := ⟨.none, .none, (.fields ⟨[]⟩), ⟨[]⟩⟩
noncomputable def o222 (P : Params) : Obj := ⟨.none, .none, (.func ⟨(.ofString "put"), (.ofString "Markers.put"), (fA (cst 6 2)), (fB (cst 6 2)), (fS (cst 6 2)), 0, [], .none, .none, .none, .none, .none, .none, .none, 0⟩), ⟨[]⟩⟩
noncomputable def o288 (P : Params) : Obj := ⟨(.type "code"), .none, (.fields ⟨[(.str (.ofString "kind") 498), (.str (.ofString "Opaque.kind") 499), (.str (.ofString "/claim/cut.py") 500), (.int 143 0), (.int 1 0), (.int 0 0), (.int 0 0), (.int 3 0), (.ref 239), (.bool .true), (.int 181 0), (.ref 240), .none, (.ref 241), (.ref 242), (.ref 243), (.int 502 0), (.int 143 0), (.str (.ofString "/claim/cut.py") 503)]⟩), ⟨[]⟩⟩
noncomputable def o246 (P : Params) : Obj := ⟨(.type "tuple"), .none, (.seq ⟨[]⟩ 0), ⟨[]⟩⟩
noncomputable def o214 (P : Params) : Obj := ⟨(.type "tuple"), .none, (.seq ⟨[]⟩ 0), ⟨[]⟩⟩
noncomputable def o280 (P : Params) : Obj := ⟨.none, .none, (.func ⟨(.ofString "shown"), (.ofString "Opaque.shown"), (fA (cst 8 0)), (fB (cst 8 0)), (fS (cst 10 10)), 0, [], .none, .none, .none, .none, .none, .none, .none, 0⟩), ⟨[]⟩⟩
noncomputable def o198 (P : Params) : Obj := ⟨(.type "builtin_function_or_method"), .none, (.fields ⟨[(.builtin "type.__prepare__"), (.type "type")]⟩), ⟨[]⟩⟩
noncomputable def o262 (P : Params) : Obj := ⟨(.type "type"), .none, (.cls ⟨(.ofString "Markers"), [(.type "object")], [(.ref 220), (.type "object")], 219, (.ofString "Markers"), .true, [], [], .false, .none, .false⟩), ⟨[.none, .none, (.some (.str (.ofString "Markers") 379)), (.some (.str (.ofString "Markers") 387)), (.some (.builtin "object.__new__")), (.some (.bool .true))]⟩⟩
noncomputable def o230 (P : Params) : Obj := ⟨(.type "code"), .none, (.fields ⟨[(.str (.ofString "drop") 414), (.str (.ofString "Markers.drop") 415), (.str (.ofString "/claim/cut.py") 416), (.int 106 0), (.int 2 0), (.int 0 0), (.int 0 0), (.int 3 0), (.ref 183), (.bool .true), (.int 181 0), (.ref 184), .none, (.ref 185), (.ref 186), (.ref 187), (.int 419 0), (.int 106 0), (.str (.ofString "/claim/cut.py") 420)]⟩), ⟨[]⟩⟩
noncomputable def o296 (P : Params) : Obj := ⟨(.type "function"), .none, (.func ⟨(.ofString "same_as"), (.ofString "Opaque.same_as"), (fA (cst 8 2)), (fB (cst 8 2)), (fS (cst 8 2)), 3, [], .none, .none, .none, (.str (.ofString "emacs.objects") 477), .none, (.ref 251), .none, 0⟩), ⟨[]⟩⟩
noncomputable def o302 (P : Params) : Obj := ⟨(.type "super"), .none, (.fields ⟨[(.ref 255), (.ref 255), (.ref 255)]⟩), ⟨[]⟩⟩
noncomputable def o236 (P : Params) : Obj := ⟨.none, .none, (.func ⟨(.ofString "within"), (.ofString "Markers.within"), (fA (cst 6 4)), (fB (cst 6 4)), (fS (cst 6 4)), 0, [], .none, .none, .none, .none, .none, .none, .none, 0⟩), ⟨[]⟩⟩
noncomputable def o204 (P : Params) : Obj := ⟨(.type "tuple"), .none, (.seq ⟨[]⟩ 0), ⟨[]⟩⟩
noncomputable def o270 (P : Params) : Obj := ⟨(.type "builtin_function_or_method"), .none, (.fields ⟨[(.builtin "type.__prepare__"), (.type "type")]⟩), ⟨[]⟩⟩
noncomputable def o252 (P : Params) : Obj := ⟨(.type "function"), .none, (.func ⟨(.ofString "deleted"), (.ofString "Markers.deleted"), (fA (cst 6 6)), (fB (cst 6 6)), (fS (cst 6 6)), 3, [], .none, .none, .none, (.str (.ofString "emacs.markers") 377), .none, (.ref 209), .none, 0⟩), ⟨[]⟩⟩
noncomputable def o220 (P : Params) : Obj := ⟨(.type "tuple"), .none, (.seq ⟨[(.str (.ofString "self") 408), (.str (.ofString "marker") 409), (.str (.ofString "position") 410)]⟩ 0), ⟨[]⟩⟩
noncomputable def o286 (P : Params) : Obj := ⟨(.type "tuple"), .none, (.seq ⟨[]⟩ 0), ⟨[]⟩⟩
noncomputable def o244 (P : Params) : Obj := ⟨(.type "code"), .none, (.fields ⟨[(.str (.ofString "inserted") 433), (.str (.ofString "Markers.inserted") 434), (.str (.ofString "/claim/cut.py") 435), (.int 116 0), (.int 4 0), (.int 0 0), (.int 0 0), (.int 3 0), (.ref 197), (.bool .true), (.int 181 0), (.ref 198), .none, (.ref 199), (.ref 200), (.ref 201), (.int 442 0), (.int 116 0), (.str (.ofString "/claim/cut.py") 443)]⟩), ⟨[]⟩⟩
noncomputable def o212 (P : Params) : Obj := ⟨.none, .none, (.fields ⟨[]⟩), ⟨[]⟩⟩
noncomputable def o278 (P : Params) : Obj := ⟨(.type "tuple"), .none, (.seq ⟨[(.str (.ofString "self") 494)]⟩ 0), ⟨[]⟩⟩
noncomputable def o260 (P : Params) : Obj := ⟨(.type "tuple"), .none, (.seq ⟨[(.str (.ofString "rows") 468)]⟩ 0), ⟨[]⟩⟩
noncomputable def o228 (P : Params) : Obj := ⟨(.type "tuple"), .none, (.seq ⟨[]⟩ 0), ⟨[]⟩⟩
noncomputable def o294 (P : Params) : Obj := ⟨.none, .none, (.func ⟨(.ofString "same_as"), (.ofString "Opaque.same_as"), (fA (cst 8 2)), (fB (cst 8 2)), (fS (cst 8 2)), 0, [], .none, .none, .none, .none, .none, .none, .none, 0⟩), ⟨[]⟩⟩
noncomputable def o240 (P : Params) : Obj := ⟨.none, .none, (.fields ⟨[]⟩), ⟨[]⟩⟩
noncomputable def o208 (P : Params) : Obj := ⟨.none, .none, (.func ⟨(.ofString "__init__"), (.ofString "Markers.__init__"), (fA (cst 6 0)), (fB (cst 6 0)), (fS (cst 10 5)), 0, [], .none, .none, .none, .none, .none, .none, .none, 0⟩), ⟨[]⟩⟩
noncomputable def o274 (P : Params) : Obj := ⟨(.type "code"), .none, (.fields ⟨[(.str (.ofString "Opaque") 481), (.str (.ofString "Opaque") 482), (.str (.ofString "/claim/cut.py") 483), (.int 138 0), (.int 0 0), (.int 0 0), (.int 0 0), (.int 0 0), (.ref 228), (.bool .false), (.int 181 0), (.ref 229), .none, .none, .none, .none, (.int 484 0), (.int 138 0), (.str (.ofString "/claim/cut.py") 485)]⟩), ⟨[]⟩⟩
noncomputable def o256 (P : Params) : Obj := ⟨(.type "tuple"), .none, (.seq ⟨[]⟩ 0), ⟨[]⟩⟩
noncomputable def o224 (P : Params) : Obj := ⟨(.type "function"), .none, (.func ⟨(.ofString "put"), (.ofString "Markers.put"), (fA (cst 6 2)), (fB (cst 6 2)), (fS (cst 6 2)), 3, [], .none, .none, .none, (.str (.ofString "emacs.markers") 377), .none, (.ref 181), .none, 0⟩), ⟨[]⟩⟩
noncomputable def o290 (P : Params) : Obj := ⟨(.type "tuple"), .none, (.seq ⟨[]⟩ 0), ⟨[]⟩⟩
noncomputable def o248 (P : Params) : Obj := ⟨(.type "tuple"), .none, (.seq ⟨[(.str (.ofString "self") 448), (.str (.ofString "start") 449), (.str (.ofString "end") 450), (.str (.ofString "number") 451), (.str (.ofString "marker") 452)]⟩ 0), ⟨[]⟩⟩
noncomputable def o216 (P : Params) : Obj := ⟨(.type "code"), .none, (.fields ⟨[(.str (.ofString "numbers") 398), (.str (.ofString "Markers.numbers") 399), (.str (.ofString "/claim/cut.py") 400), (.int 100 0), (.int 1 0), (.int 0 0), (.int 0 0), (.int 3 0), (.ref 169), (.bool .true), (.int 181 0), (.ref 170), .none, (.ref 171), (.ref 172), (.ref 173), (.int 402 0), (.int 100 0), (.str (.ofString "/claim/cut.py") 403)]⟩), ⟨[]⟩⟩
noncomputable def o282 (P : Params) : Obj := ⟨(.type "function"), .none, (.func ⟨(.ofString "shown"), (.ofString "Opaque.shown"), (fA (cst 8 0)), (fB (cst 8 0)), (fS (cst 10 10)), 3, [], .none, .none, .none, (.str (.ofString "emacs.objects") 477), .none, (.ref 237), .none, 0⟩), ⟨[]⟩⟩
noncomputable def o200 (P : Params) : Obj := ⟨(.type "tuple"), .none, (.seq ⟨[]⟩ 0), ⟨[]⟩⟩
noncomputable def o264 (P : Params) : Obj := ⟨(.type "getset_descriptor"), .none, (.fields ⟨[(.str (.ofString "__weakref__") 472), (.ref 220), (.builtin "ExceptionGroup.__weakref__"), .none]⟩), ⟨[]⟩⟩
noncomputable def o232 (P : Params) : Obj := ⟨(.type "tuple"), .none, (.seq ⟨[]⟩ 0), ⟨[]⟩⟩
noncomputable def o298 (P : Params) : Obj := ⟨(.type "dict"), .none, (.dict ⟨[⟨(PyData.keyHash P (.ofString "__module__")), (.str (.ofString "__module__") 486), (.str (.ofString "emacs.objects") 477)⟩, ⟨(PyData.keyHash P (.ofString "__firstlineno__")), (.str (.ofString "__firstlineno__") 490), (.int 138 489)⟩, ⟨(PyData.keyHash P (.ofString "shown")), (.str (.ofString "shown") 497), (.ref 238)⟩, ⟨(PyData.keyHash P (.ofString "kind")), (.str (.ofString "kind") 504), (.ref 245)⟩, ⟨(PyData.keyHash P (.ofString "same_as")), (.str (.ofString "same_as") 512), (.ref 252)⟩, ⟨(PyData.keyHash P (.ofString "__static_attributes__")), (.str (.ofString "__static_attributes__") 513), (.ref 253)⟩, ⟨(PyData.keyHash P (.ofString "__dict__")), (.str (.ofString "__dict__") 515), (.ref 256)⟩, ⟨(PyData.keyHash P (.ofString "__weakref__")), (.str (.ofString "__weakref__") 517), (.ref 257)⟩, ⟨(PyData.keyHash P (.ofString "__doc__")), (.str (.ofString "__doc__") 518), .none⟩]⟩ 4), ⟨[]⟩⟩
noncomputable def o304 (P : Params) : Obj := ⟨(.type "dict"), .none, (.dict ⟨[⟨(PyData.keyHash P (.ofString "__name__")), (.str (.ofString "__name__") 165), (.str (.ofString "emacs.buffer") 521)⟩, ⟨(PyData.keyHash P (.ofString "__doc__")), (.str (.ofString "__doc__") 166), .none⟩, ⟨(PyData.keyHash P (.ofString "__package__")), (.str (.ofString "__package__") 167), .none⟩, ⟨(PyData.keyHash P (.ofString "__loader__")), (.str (.ofString "__loader__") 168), (.builtin "__main__.__loader__#opaque")⟩, ⟨(PyData.keyHash P (.ofString "__spec__")), (.str (.ofString "__spec__") 169), .none⟩, ⟨(PyData.keyHash P (.ofString "__annotations__")), (.str (.ofString "__annotations__") 170), (.ref 6)⟩, ⟨(PyData.keyHash P (.ofString "__builtins__")), (.str (.ofString "__builtins__") 171), (.ref 4)⟩, ⟨(PyData.keyHash P (.ofString "__file__")), (.str (.ofString "__file__") 173), (.str (.ofString "/claim/cut.py") 172)⟩, ⟨(PyData.keyHash P (.ofString "__cached__")), (.str (.ofString "__cached__") 174), .none⟩, ⟨(PyData.keyHash P (.ofString "_wall")), (.str (.ofString "_wall") 193), (.ref 21)⟩, ⟨(PyData.keyHash P (.ofString "ChangeLog")), (.str (.ofString "ChangeLog") 256), (.ref 59)⟩, ⟨(PyData.keyHash P (.ofString "GapText")), (.str (.ofString "GapText") 376), (.ref 150)⟩, ⟨(PyData.keyHash P (.ofString "Markers")), (.str (.ofString "Markers") 476), (.ref 220)⟩, ⟨(PyData.keyHash P (.ofString "Opaque")), (.str (.ofString "Opaque") 520), (.ref 255)⟩, ⟨(PyData.keyHash P (.ofString "Buffer")), (.str (.ofString "Buffer") 659), (.ref 361)⟩]⟩ 15), ⟨[]⟩⟩
noncomputable def o306 (P : Params) : Obj := ⟨(.type "type"), .none, (.cls ⟨(.ofString "Opaque"), [(.type "object")], [(.ref 255), (.type "object")], 254, (.ofString "Opaque"), .true, [], [(.ref 361)], .false, .none, .false⟩), ⟨[.none, .none, (.some (.str (.ofString "Opaque") 479)), (.some (.str (.ofString "Opaque") 487)), (.some (.builtin "object.__new__")), (.some (.bool .true))]⟩⟩
noncomputable def o366 (P : Params) : Obj := ⟨(.type "tuple"), .none, (.seq ⟨[(.str (.ofString "self") 592), (.str (.ofString "start") 593), (.str (.ofString "end") 594)]⟩ 0), ⟨[]⟩⟩
noncomputable def o334 (P : Params) : Obj := ⟨(.type "code"), .none, (.fields ⟨[(.str (.ofString "kind") 553), (.str (.ofString "Buffer.kind") 554), (.str (.ofString "/claim/cut.py") 555), (.int 176 0), (.int 1 0), (.int 0 0), (.int 0 0), (.int 3 0), (.ref 282), (.bool .true), (.int 181 0), (.ref 283), .none, (.ref 284), (.ref 285), (.ref 286), (.int 557 0), (.int 176 0), (.str (.ofString "/claim/cut.py") 558)]⟩), ⟨[]⟩⟩
noncomputable def o398 (P : Params) : Obj := ⟨(.type "function"), .none, (.func ⟨(.ofString "set_modified"), (.ofString "Buffer.set_modified"), (fA (cst 10 11)), (fB (cst 10 11)), (fS (cst 10 11)), 3, [], .none, .none, .none, (.str (.ofString "emacs.buffer") 521), .none, (.ref 350), .none, 0⟩), ⟨[]⟩⟩
noncomputable def o318 (P : Params) : Obj := ⟨(.type "tuple"), .none, (.seq ⟨[]⟩ 0), ⟨[]⟩⟩
noncomputable def o382 (P : Params) : Obj := ⟨.none, .none, (.func ⟨(.ofString "tick"), (.ofString "Buffer.tick"), (fA (cst 10 9)), (fB (cst 10 9)), (fS (cst 10 10)), 0, [], .none, .none, .none, .none, .none, .none, .none, 0⟩), ⟨[]⟩⟩
noncomputable def o350 (P : Params) : Obj := ⟨(.type "tuple"), .none, (.seq ⟨[]⟩ 0), ⟨[]⟩⟩
noncomputable def o310 (P : Params) : Obj := ⟨(.type "tuple"), .none, (.seq ⟨[]⟩ 0), ⟨[]⟩⟩
noncomputable def o374 (P : Params) : Obj := ⟨(.type "tuple"), .none, (.seq ⟨[]⟩ 0), ⟨[]⟩⟩
noncomputable def o342 (P : Params) : Obj := ⟨(.type "function"), .none, (.func ⟨(.ofString "begin"), (.ofString "Buffer.begin"), (fA (cst 10 3)), (fB (cst 10 3)), (fS (cst 10 5)), 3, [], .none, .none, .none, (.str (.ofString "emacs.buffer") 521), .none, (.ref 294), .none, 0⟩), ⟨[]⟩⟩
noncomputable def o406 (P : Params) : Obj := ⟨(.type "tuple"), .none, (.seq ⟨[(.str (.ofString "begv") 636), (.str (.ofString "codes_ticks") 637), (.str (.ofString "file") 638), (.str (.ofString "is_live") 639), (.str (.ofString "is_read_only") 640), (.str (.ofString "listeners") 641), (.str (.ofString "locals") 642), (.str (.ofString "mark") 643), (.str (.ofString "markers") 644), (.str (.ofString "name") 645), (.str (.ofString "number") 646), (.str (.ofString "overlays") 647), (.str (.ofString "point") 648), (.str (.ofString "props") 649), (.str (.ofString "saved_ticks") 650), (.str (.ofString "syntax") 651), (.str (.ofString "text") 652), (.str (.ofString "ticks") 653), (.str (.ofString "undo") 654), (.str (.ofString "zv") 655)]⟩ 0), ⟨[]⟩⟩
noncomputable def o326 (P : Params) : Obj := ⟨.none, .none, (.func ⟨(.ofString "shown"), (.ofString "Buffer.shown"), (fA (cst 10 1)), (fB (cst 10 1)), (fS (cst 10 10)), 0, [], .none, .none, .none, .none, .none, .none, .none, 0⟩), ⟨[]⟩⟩
noncomputable def o390 (P : Params) : Obj := ⟨(.type "code"), .none, (.fields ⟨[(.str (.ofString "is_modified") 613), (.str (.ofString "Buffer.is_modified") 614), (.str (.ofString "/claim/cut.py") 615), (.int 200 0), (.int 1 0), (.int 0 0), (.int 0 0), (.int 3 0), (.ref 338), (.bool .true), (.int 181 0), (.ref 339), .none, (.ref 340), (.ref 341), (.ref 342), (.int 617 0), (.int 200 0), (.str (.ofString "/claim/cut.py") 618)]⟩), ⟨[]⟩⟩
noncomputable def o358 (P : Params) : Obj := ⟨.none, .none, (.fields ⟨[]⟩), ⟨[]⟩⟩
noncomputable def o370 (P : Params) : Obj := ⟨(.type "function"), .none, (.func ⟨(.ofString "codes"), (.ofString "Buffer.codes"), (fA (cst 10 7)), (fB (cst 10 7)), (fS (cst 10 7)), 3, [], .none, .none, .none, (.str (.ofString "emacs.buffer") 521), .none, (.ref 322), .none, 0⟩), ⟨[]⟩⟩
noncomputable def o338 (P : Params) : Obj := ⟨(.type "tuple"), .none, (.seq ⟨[(.str (.ofString "self") 563)]⟩ 0), ⟨[]⟩⟩
noncomputable def o402 (P : Params) : Obj := ⟨(.type "tuple"), .none, (.seq ⟨[]⟩ 0), ⟨[]⟩⟩
noncomputable def o322 (P : Params) : Obj := ⟨(.type "tuple"), .none, (.seq ⟨[]⟩ 0), ⟨[]⟩⟩
noncomputable def o386 (P : Params) : Obj := ⟨.none, .none, (.fields ⟨[]⟩), ⟨[]⟩⟩
noncomputable def o354 (P : Params) : Obj := ⟨.none, .none, (.func ⟨(.ofString "size"), (.ofString "Buffer.size"), (fA (cst 10 5)), (fB (cst 10 5)), (fS (cst 10 5)), 0, [], .none, .none, .none, .none, .none, .none, .none, 0⟩), ⟨[]⟩⟩
noncomputable def o314 (P : Params) : Obj := ⟨(.type "tuple"), .none, (.seq ⟨[(.int 8 535)]⟩ 0), ⟨[]⟩⟩
noncomputable def o378 (P : Params) : Obj := ⟨(.type "tuple"), .none, (.seq ⟨[]⟩ 0), ⟨[]⟩⟩
noncomputable def o346 (P : Params) : Obj := ⟨(.type "tuple"), .none, (.seq ⟨[]⟩ 0), ⟨[]⟩⟩
noncomputable def o410 (P : Params) : Obj := ⟨(.type "builtin_function_or_method"), .none, (.fields ⟨[(.builtin "object.__init_subclass__"), (.ref 361)]⟩), ⟨[]⟩⟩
noncomputable def o330 (P : Params) : Obj := ⟨.none, .none, (.fields ⟨[]⟩), ⟨[]⟩⟩
noncomputable def o394 (P : Params) : Obj := ⟨(.type "tuple"), .none, (.seq ⟨[(.str (.ofString "self") 623), (.str (.ofString "is_so") 624)]⟩ 0), ⟨[]⟩⟩
noncomputable def o362 (P : Params) : Obj := ⟨(.type "code"), .none, (.fields ⟨[(.str (.ofString "code_at") 581), (.str (.ofString "Buffer.code_at") 582), (.str (.ofString "/claim/cut.py") 583), (.int 188 0), (.int 2 0), (.int 0 0), (.int 0 0), (.int 3 0), (.ref 310), (.bool .true), (.int 181 0), (.ref 311), .none, (.ref 312), (.ref 313), (.ref 314), (.int 586 0), (.int 188 0), (.str (.ofString "/claim/cut.py") 587)]⟩), ⟨[]⟩⟩
noncomputable def o368 (P : Params) : Obj := ⟨.none, .none, (.func ⟨(.ofString "codes"), (.ofString "Buffer.codes"), (fA (cst 10 7)), (fB (cst 10 7)), (fS (cst 10 7)), 0, [], .none, .none, .none, .none, .none, .none, .none, 0⟩), ⟨[]⟩⟩
noncomputable def o336 (P : Params) : Obj := ⟨(.type "tuple"), .none, (.seq ⟨[]⟩ 0), ⟨[]⟩⟩
noncomputable def o400 (P : Params) : Obj := ⟨.none, .none, (.fields ⟨[]⟩), ⟨[]⟩⟩
noncomputable def o320 (P : Params) : Obj := ⟨(.type "code"), .none, (.fields ⟨[(.str (.ofString "__init__") 536), (.str (.ofString "Buffer.__init__") 537), (.str (.ofString "/claim/cut.py") 538), (.int 151 0), (.int 4 0), (.int 0 0), (.int 0 0), (.int 3 0), (.ref 268), (.bool .true), (.int 181 0), (.ref 269), .none, (.ref 270), (.ref 271), (.ref 272), (.int 543 0), (.int 151 0), (.str (.ofString "/claim/cut.py") 544)]⟩), ⟨[]⟩⟩
noncomputable def o384 (P : Params) : Obj := ⟨(.type "function"), .none, (.func ⟨(.ofString "tick"), (.ofString "Buffer.tick"), (fA (cst 10 9)), (fB (cst 10 9)), (fS (cst 10 10)), 3, [], .none, .none, .none, (.str (.ofString "emacs.buffer") 521), .none, (.ref 336), .none, 0⟩), ⟨[]⟩⟩
noncomputable def o352 (P : Params) : Obj := ⟨(.type "tuple"), .none, (.seq ⟨[(.str (.ofString "self") 577)]⟩ 0), ⟨[]⟩⟩
noncomputable def o312 (P : Params) : Obj := ⟨(.type "code"), .none, (.fields ⟨[(.str (.ofString "Buffer") 525), (.str (.ofString "Buffer") 526), (.str (.ofString "/claim/cut.py") 527), (.int 149 0), (.int 0 0), (.int 0 0), (.int 0 0), (.int 0 0), (.ref 263), (.bool .false), (.int 181 0), (.ref 264), .none, .none, .none, .none, (.int 528 0), (.int 149 0), (.str (.ofString "/claim/cut.py") 529)]⟩), ⟨[]⟩⟩
noncomputable def o376 (P : Params) : Obj := ⟨(.type "code"), .none, (.fields ⟨[(.str (.ofString "goto") 598), (.str (.ofString "Buffer.goto") 599), (.str (.ofString "/claim/cut.py") 600), (.int 194 0), (.int 2 0), (.int 0 0), (.int 0 0), (.int 3 0), (.ref 324), (.bool .true), (.int 181 0), (.ref 325), .none, (.ref 326), (.ref 327), (.ref 328), (.int 603 0), (.int 194 0), (.str (.ofString "/claim/cut.py") 604)]⟩), ⟨[]⟩⟩
noncomputable def o344 (P : Params) : Obj := ⟨.none, .none, (.fields ⟨[]⟩), ⟨[]⟩⟩
noncomputable def o408 (P : Params) : Obj := ⟨(.type "type"), .none, (.cls ⟨(.ofString "Buffer"), [(.ref 255)], [(.ref 361), (.ref 255), (.type "object")], 360, (.ofString "Buffer"), .true, [], [], .false, .none, .false⟩), ⟨[(.some (.ref 260)), .none, (.some (.str (.ofString "Buffer") 523)), (.some (.str (.ofString "Buffer") 531)), (.some (.builtin "object.__new__")), (.some (.bool .true))]⟩⟩
noncomputable def o328 (P : Params) : Obj := ⟨(.type "function"), .none, (.func ⟨(.ofString "shown"), (.ofString "Buffer.shown"), (fA (cst 10 1)), (fB (cst 10 1)), (fS (cst 10 10)), 3, [], .none, .none, .none, (.str (.ofString "emacs.buffer") 521), .none, (.ref 280), .none, 0⟩), ⟨[]⟩⟩
noncomputable def o392 (P : Params) : Obj := ⟨(.type "tuple"), .none, (.seq ⟨[]⟩ 0), ⟨[]⟩⟩
noncomputable def o360 (P : Params) : Obj := ⟨(.type "tuple"), .none, (.seq ⟨[]⟩ 0), ⟨[]⟩⟩
noncomputable def o308 (P : Params) : Obj := ⟨(.type "builtin_function_or_method"), .none, (.fields ⟨[(.builtin "type.__prepare__"), (.type "type")]⟩), ⟨[]⟩⟩
noncomputable def o372 (P : Params) : Obj := ⟨.none, .none, (.fields ⟨[]⟩), ⟨[]⟩⟩
noncomputable def o340 (P : Params) : Obj := ⟨.none, .none, (.func ⟨(.ofString "begin"), (.ofString "Buffer.begin"), (fA (cst 10 3)), (fB (cst 10 3)), (fS (cst 10 5)), 0, [], .none, .none, .none, .none, .none, .none, .none, 0⟩), ⟨[]⟩⟩
noncomputable def o404 (P : Params) : Obj := ⟨(.type "code"), .none, (.fields ⟨[(.str (.ofString "touch") 628), (.str (.ofString "Buffer.touch") 629), (.str (.ofString "/claim/cut.py") 630), (.int 206 0), (.int 2 0), (.int 0 0), (.int 0 0), (.int 3 0), (.ref 352), (.bool .true), (.int 181 0), (.ref 353), .none, (.ref 354), (.ref 355), (.ref 356), (.int 633 0), (.int 206 0), (.str (.ofString "/claim/cut.py") 634)]⟩), ⟨[]⟩⟩
noncomputable def o324 (P : Params) : Obj := ⟨(.type "tuple"), .none, (.seq ⟨[(.str (.ofString "self") 549)]⟩ 0), ⟨[]⟩⟩
noncomputable def o388 (P : Params) : Obj := ⟨(.type "tuple"), .none, (.seq ⟨[]⟩ 0), ⟨[]⟩⟩
noncomputable def o356 (P : Params) : Obj := ⟨(.type "function"), .none, (.func ⟨(.ofString "size"), (.ofString "Buffer.size"), (fA (cst 10 5)), (fB (cst 10 5)), (fS (cst 10 5)), 3, [], .none, .none, .none, (.str (.ofString "emacs.buffer") 521), .none, (.ref 308), .none, 0⟩), ⟨[]⟩⟩
noncomputable def o316 (P : Params) : Obj := ⟨.none, .none, (.fields ⟨[]⟩), ⟨[]⟩⟩
noncomputable def o380 (P : Params) : Obj := ⟨(.type "tuple"), .none, (.seq ⟨[(.str (.ofString "self") 609)]⟩ 0), ⟨[]⟩⟩
noncomputable def o348 (P : Params) : Obj := ⟨(.type "code"), .none, (.fields ⟨[(.str (.ofString "end") 567), (.str (.ofString "Buffer.end") 568), (.str (.ofString "/claim/cut.py") 569), (.int 182 0), (.int 1 0), (.int 0 0), (.int 0 0), (.int 3 0), (.ref 296), (.bool .true), (.int 181 0), (.ref 297), .none, (.ref 298), (.ref 299), (.ref 300), (.int 571 0), (.int 182 0), (.str (.ofString "/claim/cut.py") 572)]⟩), ⟨[]⟩⟩
noncomputable def o332 (P : Params) : Obj := ⟨(.type "tuple"), .none, (.seq ⟨[]⟩ 0), ⟨[]⟩⟩
noncomputable def o396 (P : Params) : Obj := ⟨.none, .none, (.func ⟨(.ofString "set_modified"), (.ofString "Buffer.set_modified"), (fA (cst 10 11)), (fB (cst 10 11)), (fS (cst 10 11)), 0, [], .none, .none, .none, .none, .none, .none, .none, 0⟩), ⟨[]⟩⟩
noncomputable def o364 (P : Params) : Obj := ⟨(.type "tuple"), .none, (.seq ⟨[]⟩ 0), ⟨[]⟩⟩
noncomputable def o367 (P : Params) : Obj := ⟨(.type "tuple"), .none, (.seq ⟨[]⟩ 0), ⟨[]⟩⟩
noncomputable def o335 (P : Params) : Obj := ⟨(.type "function"), .none, (.func ⟨(.ofString "kind"), (.ofString "Buffer.kind"), (fA (cst 10 2)), (fB (cst 10 2)), (fS (cst 10 10)), 3, [], .none, .none, .none, (.str (.ofString "emacs.buffer") 521), .none, (.ref 287), .none, 0⟩), ⟨[]⟩⟩
noncomputable def o399 (P : Params) : Obj := ⟨(.type "tuple"), .none, (.seq ⟨[]⟩ 0), ⟨[]⟩⟩
noncomputable def o319 (P : Params) : Obj := ⟨.none, .none, (.func ⟨(.ofString "__init__"), (.ofString "Buffer.__init__"), (fA (cst 10 0)), (fB (cst 10 0)), (fS (cst 10 0)), 0, [], .none, .none, .none, .none, .none, .none, .none, 0⟩), ⟨[]⟩⟩
noncomputable def o383 (P : Params) : Obj := ⟨(.type "code"), .none, (.fields ⟨[(.str (.ofString "tick") 606), (.str (.ofString "Buffer.tick") 607), (.str (.ofString "/claim/cut.py") 608), (.int 197 0), (.int 1 0), (.int 0 0), (.int 0 0), (.int 3 0), (.ref 331), (.bool .true), (.int 181 0), (.ref 332), .none, (.ref 333), (.ref 334), (.ref 335), (.int 610 0), (.int 197 0), (.str (.ofString "/claim/cut.py") 611)]⟩), ⟨[]⟩⟩
noncomputable def o351 (P : Params) : Obj := ⟨.none, .none, (.fields ⟨[]⟩), ⟨[]⟩⟩
noncomputable def o311 (P : Params) : Obj := ⟨.none, .none, (.fields ⟨[(.int 151 0), (.int 4 0), (.ref 273), (.int 173 0), (.int 4 0), (.ref 280), (.int 176 0), (.int 4 0), (.ref 287), (.int 179 0), (.int 4 0), (.ref 294), (.int 182 0), (.int 4 0), (.ref 301), (.int 185 0), (.int 4 0), (.ref 308), (.int 188 0), (.int 4 0), (.ref 315), (.int 191 0), (.int 4 0), (.ref 322), (.int 194 0), (.int 4 0), (.ref 329), (.int 197 0), (.int 4 0), (.ref 336), (.int 200 0), (.int 4 0), (.ref 343), (.int 203 0), (.int 4 0), (.ref 350), (.int 206 0), (.int 4 0), (.ref 357)]⟩), ⟨[]⟩⟩
noncomputable def o375 (P : Params) : Obj := ⟨.none, .none, (.func ⟨(.ofString "goto"), (.ofString "Buffer.goto"), (fA (cst 10 8)), (fB (cst 10 8)), (fS (cst 10 8)), 0, [], .none, .none, .none, .none, .none, .none, .none, 0⟩), ⟨[]⟩⟩
noncomputable def o343 (P : Params) : Obj := ⟨(.type "tuple"), .none, (.seq ⟨[]⟩ 0), ⟨[]⟩⟩
noncomputable def o407 (P : Params) : Obj := ⟨(.type "dict"), .none, (.dict ⟨[⟨(PyData.keyHash P (.ofString "__module__")), (.str (.ofString "__module__") 530), (.str (.ofString "emacs.buffer") 521)⟩, ⟨(PyData.keyHash P (.ofString "__firstlineno__")), (.str (.ofString "__firstlineno__") 534), (.int 149 533)⟩, ⟨(PyData.keyHash P (.ofString "__init__")), (.str (.ofString "__init__") 545), (.ref 274)⟩, ⟨(PyData.keyHash P (.ofString "shown")), (.str (.ofString "shown") 552), (.ref 281)⟩, ⟨(PyData.keyHash P (.ofString "kind")), (.str (.ofString "kind") 559), (.ref 288)⟩, ⟨(PyData.keyHash P (.ofString "begin")), (.str (.ofString "begin") 566), (.ref 295)⟩, ⟨(PyData.keyHash P (.ofString "end")), (.str (.ofString "end") 573), (.ref 302)⟩, ⟨(PyData.keyHash P (.ofString "size")), (.str (.ofString "size") 580), (.ref 309)⟩, ⟨(PyData.keyHash P (.ofString "code_at")), (.str (.ofString "code_at") 588), (.ref 316)⟩, ⟨(PyData.keyHash P (.ofString "codes")), (.str (.ofString "codes") 597), (.ref 323)⟩, ⟨(PyData.keyHash P (.ofString "goto")), (.str (.ofString "goto") 605), (.ref 330)⟩, ⟨(PyData.keyHash P (.ofString "tick")), (.str (.ofString "tick") 612), (.ref 337)⟩, ⟨(PyData.keyHash P (.ofString "is_modified")), (.str (.ofString "is_modified") 619), (.ref 344)⟩, ⟨(PyData.keyHash P (.ofString "set_modified")), (.str (.ofString "set_modified") 627), (.ref 351)⟩, ⟨(PyData.keyHash P (.ofString "touch")), (.str (.ofString "touch") 635), (.ref 358)⟩, ⟨(PyData.keyHash P (.ofString "__static_attributes__")), (.str (.ofString "__static_attributes__") 656), (.ref 359)⟩, ⟨(PyData.keyHash P (.ofString "__doc__")), (.str (.ofString "__doc__") 657), .none⟩]⟩ 2), ⟨[]⟩⟩
noncomputable def o327 (P : Params) : Obj := ⟨(.type "code"), .none, (.fields ⟨[(.str (.ofString "shown") 546), (.str (.ofString "Buffer.shown") 547), (.str (.ofString "/claim/cut.py") 548), (.int 173 0), (.int 1 0), (.int 0 0), (.int 0 0), (.int 3 0), (.ref 275), (.bool .true), (.int 181 0), (.ref 276), .none, (.ref 277), (.ref 278), (.ref 279), (.int 550 0), (.int 173 0), (.str (.ofString "/claim/cut.py") 551)]⟩), ⟨[]⟩⟩
noncomputable def o391 (P : Params) : Obj := ⟨(.type "function"), .none, (.func ⟨(.ofString "is_modified"), (.ofString "Buffer.is_modified"), (fA (cst 10 10)), (fB (cst 10 10)), (fS (cst 10 10)), 3, [], .none, .none, .none, (.str (.ofString "emacs.buffer") 521), .none, (.ref 343), .none, 0⟩), ⟨[]⟩⟩
noncomputable def o359 (P : Params) : Obj := ⟨(.type "tuple"), .none, (.seq ⟨[(.str (.ofString "self") 584), (.str (.ofString "place") 585)]⟩ 0), ⟨[]⟩⟩
noncomputable def o305 (P : Params) : Obj := ⟨.none, .none, (.fields ⟨[(.int 1 0), (.int 0 0), (.ref 20), (.int 5 0), (.int 0 0), (.ref 27), (.int 31 0), (.int 0 0), (.ref 69), (.int 95 0), (.int 0 0), (.ref 160), (.int 138 0), (.int 0 0), (.ref 230), (.int 149 0), (.int 0 0), (.ref 265)]⟩), ⟨[]⟩⟩
noncomputable def o307 (P : Params) : Obj := ⟨(.type "tuple"), .none, (.seq ⟨[(.ref 255)]⟩ 0), ⟨[]⟩⟩
noncomputable def o371 (P : Params) : Obj := ⟨(.type "tuple"), .none, (.seq ⟨[]⟩ 0), ⟨[]⟩⟩
noncomputable def o339 (P : Params) : Obj := ⟨(.type "tuple"), .none, (.seq ⟨[]⟩ 0), ⟨[]⟩⟩
noncomputable def o403 (P : Params) : Obj := ⟨.none, .none, (.func ⟨(.ofString "touch"), (.ofString "Buffer.touch"), (fA (cst 10 12)), (fB (cst 10 12)), (fS (cst 10 12)), 0, [], .none, .none, .none, .none, .none, .none, .none, 0⟩), ⟨[]⟩⟩
noncomputable def o323 (P : Params) : Obj := ⟨.none, .none, (.fields ⟨[]⟩), ⟨[]⟩⟩
noncomputable def o387 (P : Params) : Obj := ⟨(.type "tuple"), .none, (.seq ⟨[(.str (.ofString "self") 616)]⟩ 0), ⟨[]⟩⟩
noncomputable def o355 (P : Params) : Obj := ⟨(.type "code"), .none, (.fields ⟨[(.str (.ofString "size") 574), (.str (.ofString "Buffer.size") 575), (.str (.ofString "/claim/cut.py") 576), (.int 185 0), (.int 1 0), (.int 0 0), (.int 0 0), (.int 3 0), (.ref 303), (.bool .true), (.int 181 0), (.ref 304), .none, (.ref 305), (.ref 306), (.ref 307), (.int 578 0), (.int 185 0), (.str (.ofString "/claim/cut.py") 579)]⟩), ⟨[]⟩⟩
noncomputable def o315 (P : Params) : Obj := ⟨(.type "tuple"), .none, (.seq ⟨[]⟩ 0), ⟨[]⟩⟩
noncomputable def o379 (P : Params) : Obj := ⟨.none, .none, (.fields ⟨[]⟩), ⟨[]⟩⟩
noncomputable def o347 (P : Params) : Obj := ⟨.none, .none, (.func ⟨(.ofString "end"), (.ofString "Buffer.end"), (fA (cst 10 4)), (fB (cst 10 4)), (fS (cst 10 5)), 0, [], .none, .none, .none, .none, .none, .none, .none, 0⟩), ⟨[]⟩⟩
noncomputable def o331 (P : Params) : Obj := ⟨(.type "tuple"), .none, (.seq ⟨[(.str (.ofString "self") 556)]⟩ 0), ⟨[]⟩⟩
noncomputable def o395 (P : Params) : Obj := ⟨(.type "tuple"), .none, (.seq ⟨[]⟩ 0), ⟨[]⟩⟩
noncomputable def o363 (P : Params) : Obj := ⟨(.type "function"), .none, (.func ⟨(.ofString "code_at"), (.ofString "Buffer.code_at"), (fA (cst 10 6)), (fB (cst 10 6)), (fS (cst 10 8)), 3, [], .none, .none, .none, (.str (.ofString "emacs.buffer") 521), .none, (.ref 315), .none, 0⟩), ⟨[]⟩⟩
noncomputable def o369 (P : Params) : Obj := ⟨(.type "code"), .none, (.fields ⟨[(.str (.ofString "codes") 589), (.str (.ofString "Buffer.codes") 590), (.str (.ofString "/claim/cut.py") 591), (.int 191 0), (.int 3 0), (.int 0 0), (.int 0 0), (.int 3 0), (.ref 317), (.bool .true), (.int 181 0), (.ref 318), .none, (.ref 319), (.ref 320), (.ref 321), (.int 595 0), (.int 191 0), (.str (.ofString "/claim/cut.py") 596)]⟩), ⟨[]⟩⟩
noncomputable def o337 (P : Params) : Obj := ⟨.none, .none, (.fields ⟨[]⟩), ⟨[]⟩⟩
noncomputable def o401 (P : Params) : Obj := ⟨(.type "tuple"), .none, (.seq ⟨[(.str (.ofString "self") 631), (.str (.ofString "are_codes") 632)]⟩ 0), ⟨[]⟩⟩
noncomputable def o321 (P : Params) : Obj := ⟨(.type "function"), .none, (.func ⟨(.ofString "__init__"), (.ofString "Buffer.__init__"), (fA (cst 10 0)), (fB (cst 10 0)), (fS (cst 10 0)), 3, [], (.ref 267), .none, .none, (.str (.ofString "emacs.buffer") 521), .none, (.ref 273), .none, 0⟩), ⟨[]⟩⟩
noncomputable def o385 (P : Params) : Obj := ⟨(.type "tuple"), .none, (.seq ⟨[]⟩ 0), ⟨[]⟩⟩
noncomputable def o353 (P : Params) : Obj := ⟨(.type "tuple"), .none, (.seq ⟨[]⟩ 0), ⟨[]⟩⟩
noncomputable def o313 (P : Params) : Obj := ⟨(.type "frame"), .none, .plain, ⟨[(.some (.ref 265)), (.some (.ref 3)), (.some (.ref 262)), .none, (.some (.str (.ofString "emacs.buffer") 521)), .none, (.some (.ref 0))]⟩⟩
noncomputable def o377 (P : Params) : Obj := ⟨(.type "function"), .none, (.func ⟨(.ofString "goto"), (.ofString "Buffer.goto"), (fA (cst 10 8)), (fB (cst 10 8)), (fS (cst 10 8)), 3, [], .none, .none, .none, (.str (.ofString "emacs.buffer") 521), .none, (.ref 329), .none, 0⟩), ⟨[]⟩⟩
noncomputable def o345 (P : Params) : Obj := ⟨(.type "tuple"), .none, (.seq ⟨[(.str (.ofString "self") 570)]⟩ 0), ⟨[]⟩⟩
noncomputable def o409 (P : Params) : Obj := ⟨(.type "super"), .none, (.fields ⟨[(.ref 361), (.ref 361), (.ref 361)]⟩), ⟨[]⟩⟩
noncomputable def o329 (P : Params) : Obj := ⟨(.type "tuple"), .none, (.seq ⟨[]⟩ 0), ⟨[]⟩⟩
noncomputable def o393 (P : Params) : Obj := ⟨.none, .none, (.fields ⟨[]⟩), ⟨[]⟩⟩
noncomputable def o361 (P : Params) : Obj := ⟨.none, .none, (.func ⟨(.ofString "code_at"), (.ofString "Buffer.code_at"), (fA (cst 10 6)), (fB (cst 10 6)), (fS (cst 10 8)), 0, [], .none, .none, .none, .none, .none, .none, .none, 0⟩), ⟨[]⟩⟩
noncomputable def o309 (P : Params) : Obj := ⟨(.type "dict"), .none, (.dict ⟨[⟨(PyData.keyHash P (.ofString "__module__")), (.str (.ofString "__module__") 530), (.str (.ofString "emacs.buffer") 521)⟩, ⟨(PyData.keyHash P (.ofString "__qualname__")), (.str (.ofString "__qualname__") 532), (.str (.ofString "Buffer") 531)⟩, ⟨(PyData.keyHash P (.ofString "__firstlineno__")), (.str (.ofString "__firstlineno__") 534), (.int 149 533)⟩, ⟨(PyData.keyHash P (.ofString "__init__")), (.str (.ofString "__init__") 545), (.ref 274)⟩, ⟨(PyData.keyHash P (.ofString "shown")), (.str (.ofString "shown") 552), (.ref 281)⟩, ⟨(PyData.keyHash P (.ofString "kind")), (.str (.ofString "kind") 559), (.ref 288)⟩, ⟨(PyData.keyHash P (.ofString "begin")), (.str (.ofString "begin") 566), (.ref 295)⟩, ⟨(PyData.keyHash P (.ofString "end")), (.str (.ofString "end") 573), (.ref 302)⟩, ⟨(PyData.keyHash P (.ofString "size")), (.str (.ofString "size") 580), (.ref 309)⟩, ⟨(PyData.keyHash P (.ofString "code_at")), (.str (.ofString "code_at") 588), (.ref 316)⟩, ⟨(PyData.keyHash P (.ofString "codes")), (.str (.ofString "codes") 597), (.ref 323)⟩, ⟨(PyData.keyHash P (.ofString "goto")), (.str (.ofString "goto") 605), (.ref 330)⟩, ⟨(PyData.keyHash P (.ofString "tick")), (.str (.ofString "tick") 612), (.ref 337)⟩, ⟨(PyData.keyHash P (.ofString "is_modified")), (.str (.ofString "is_modified") 619), (.ref 344)⟩, ⟨(PyData.keyHash P (.ofString "set_modified")), (.str (.ofString "set_modified") 627), (.ref 351)⟩, ⟨(PyData.keyHash P (.ofString "touch")), (.str (.ofString "touch") 635), (.ref 358)⟩, ⟨(PyData.keyHash P (.ofString "__static_attributes__")), (.str (.ofString "__static_attributes__") 656), (.ref 359)⟩]⟩ 17), ⟨[]⟩⟩
noncomputable def o373 (P : Params) : Obj := ⟨(.type "tuple"), .none, (.seq ⟨[(.str (.ofString "self") 601), (.str (.ofString "place") 602)]⟩ 0), ⟨[]⟩⟩
noncomputable def o341 (P : Params) : Obj := ⟨(.type "code"), .none, (.fields ⟨[(.str (.ofString "begin") 560), (.str (.ofString "Buffer.begin") 561), (.str (.ofString "/claim/cut.py") 562), (.int 179 0), (.int 1 0), (.int 0 0), (.int 0 0), (.int 3 0), (.ref 289), (.bool .true), (.int 181 0), (.ref 290), .none, (.ref 291), (.ref 292), (.ref 293), (.int 564 0), (.int 179 0), (.str (.ofString "/claim/cut.py") 565)]⟩), ⟨[]⟩⟩
noncomputable def o405 (P : Params) : Obj := ⟨(.type "function"), .none, (.func ⟨(.ofString "touch"), (.ofString "Buffer.touch"), (fA (cst 10 12)), (fB (cst 10 12)), (fS (cst 10 12)), 3, [], .none, .none, .none, (.str (.ofString "emacs.buffer") 521), .none, (.ref 357), .none, 0⟩), ⟨[]⟩⟩
noncomputable def o325 (P : Params) : Obj := ⟨(.type "tuple"), .none, (.seq ⟨[]⟩ 0), ⟨[]⟩⟩
noncomputable def o389 (P : Params) : Obj := ⟨.none, .none, (.func ⟨(.ofString "is_modified"), (.ofString "Buffer.is_modified"), (fA (cst 10 10)), (fB (cst 10 10)), (fS (cst 10 10)), 0, [], .none, .none, .none, .none, .none, .none, .none, 0⟩), ⟨[]⟩⟩
noncomputable def o357 (P : Params) : Obj := ⟨(.type "tuple"), .none, (.seq ⟨[]⟩ 0), ⟨[]⟩⟩
noncomputable def o317 (P : Params) : Obj := ⟨(.type "tuple"), .none, (.seq ⟨[(.str (.ofString "self") 539), (.str (.ofString "number") 540), (.str (.ofString "name") 541), (.str (.ofString "room") 542)]⟩ 0), ⟨[]⟩⟩
noncomputable def o381 (P : Params) : Obj := ⟨(.type "tuple"), .none, (.seq ⟨[]⟩ 0), ⟨[]⟩⟩
noncomputable def o349 (P : Params) : Obj := ⟨(.type "function"), .none, (.func ⟨(.ofString "end"), (.ofString "Buffer.end"), (fA (cst 10 4)), (fB (cst 10 4)), (fS (cst 10 5)), 3, [], .none, .none, .none, (.str (.ofString "emacs.buffer") 521), .none, (.ref 301), .none, 0⟩), ⟨[]⟩⟩
noncomputable def o333 (P : Params) : Obj := ⟨.none, .none, (.func ⟨(.ofString "kind"), (.ofString "Buffer.kind"), (fA (cst 10 2)), (fB (cst 10 2)), (fS (cst 10 10)), 0, [], .none, .none, .none, .none, .none, .none, .none, 0⟩), ⟨[]⟩⟩
noncomputable def o397 (P : Params) : Obj := ⟨(.type "code"), .none, (.fields ⟨[(.str (.ofString "set_modified") 620), (.str (.ofString "Buffer.set_modified") 621), (.str (.ofString "/claim/cut.py") 622), (.int 203 0), (.int 2 0), (.int 0 0), (.int 0 0), (.int 3 0), (.ref 345), (.bool .true), (.int 181 0), (.ref 346), .none, (.ref 347), (.ref 348), (.ref 349), (.int 625 0), (.int 203 0), (.str (.ofString "/claim/cut.py") 626)]⟩), ⟨[]⟩⟩
noncomputable def o365 (P : Params) : Obj := ⟨.none, .none, (.fields ⟨[]⟩), ⟨[]⟩⟩
noncomputable def o636 (P : Params) : Obj := ⟨(.type "dict"), .none, (.dict ⟨[⟨(PyData.keyHash P (.ofString "__name__")), (.str (.ofString "__name__") 165), (.str (.ofString "law_oj0026_01") 833)⟩, ⟨(PyData.keyHash P (.ofString "__doc__")), (.str (.ofString "__doc__") 166), .none⟩, ⟨(PyData.keyHash P (.ofString "__package__")), (.str (.ofString "__package__") 167), .none⟩, ⟨(PyData.keyHash P (.ofString "__loader__")), (.str (.ofString "__loader__") 168), (.builtin "__main__.__loader__#opaque")⟩, ⟨(PyData.keyHash P (.ofString "__spec__")), (.str (.ofString "__spec__") 169), .none⟩, ⟨(PyData.keyHash P (.ofString "__annotations__")), (.str (.ofString "__annotations__") 170), (.ref 6)⟩, ⟨(PyData.keyHash P (.ofString "__builtins__")), (.str (.ofString "__builtins__") 171), (.ref 4)⟩, ⟨(PyData.keyHash P (.ofString "__file__")), (.str (.ofString "__file__") 173), (.str (.ofString "/claim/cut.py") 172)⟩, ⟨(PyData.keyHash P (.ofString "__cached__")), (.str (.ofString "__cached__") 174), .none⟩, ⟨(PyData.keyHash P (.ofString "_wall")), (.str (.ofString "_wall") 193), (.ref 21)⟩, ⟨(PyData.keyHash P (.ofString "ChangeLog")), (.str (.ofString "ChangeLog") 256), (.ref 59)⟩, ⟨(PyData.keyHash P (.ofString "GapText")), (.str (.ofString "GapText") 376), (.ref 150)⟩, ⟨(PyData.keyHash P (.ofString "Markers")), (.str (.ofString "Markers") 476), (.ref 220)⟩, ⟨(PyData.keyHash P (.ofString "Opaque")), (.str (.ofString "Opaque") 520), (.ref 255)⟩, ⟨(PyData.keyHash P (.ofString "Buffer")), (.str (.ofString "Buffer") 659), (.ref 361)⟩, ⟨(PyData.keyHash P (.ofString "LispSignal")), (.str (.ofString "LispSignal") 692), (.ref 380)⟩, ⟨(PyData.keyHash P (.ofString "need_writable")), (.str (.ofString "need_writable") 701), (.ref 390)⟩, ⟨(PyData.keyHash P (.ofString "reached")), (.str (.ofString "reached") 712), (.ref 397)⟩, ⟨(PyData.keyHash P (.ofString "tell_ahead")), (.str (.ofString "tell_ahead") 722), (.ref 404)⟩, ⟨(PyData.keyHash P (.ofString "tell_behind")), (.str (.ofString "tell_behind") 733), (.ref 411)⟩, ⟨(PyData.keyHash P (.ofString "text_out")), (.str (.ofString "text_out") 743), (.ref 418)⟩, ⟨(PyData.keyHash P (.ofString "text_in")), (.str (.ofString "text_in") 752), (.ref 425)⟩, ⟨(PyData.keyHash P (.ofString "hung_out")), (.str (.ofString "hung_out") 761), (.ref 432)⟩, ⟨(PyData.keyHash P (.ofString "hung_in")), (.str (.ofString "hung_in") 771), (.ref 439)⟩, ⟨(PyData.keyHash P (.ofString "put_in")), (.str (.ofString "put_in") 782), (.ref 446)⟩, ⟨(PyData.keyHash P (.ofString "insert_at")), (.str (.ofString "insert_at") 792), (.ref 454)⟩, ⟨(PyData.keyHash P (.ofString "delete")), (.str (.ofString "delete") 804), (.ref 461)⟩, ⟨(PyData.keyHash P (.ofString "replace")), (.str (.ofString "replace") 818), (.ref 468)⟩, ⟨(PyData.keyHash P (.ofString "transpose_regions")), (.str (.ofString "transpose_regions") 832), (.ref 475)⟩, ⟨(PyData.keyHash P (.ofString "_law_deck")), (.str (.ofString "_law_deck") 840), (.ref 480)⟩, ⟨(PyData.keyHash P (.ofString "_law_draw")), (.str (.ofString "_law_draw") 849), (.ref 487)⟩, ⟨(PyData.keyHash P (.ofString "_law_spread")), (.str (.ofString "_law_spread") 861), (.ref 494)⟩, ⟨(PyData.keyHash P (.ofString "_law_is_stretch")), (.str (.ofString "_law_is_stretch") 873), (.ref 501)⟩, ⟨(PyData.keyHash P (.ofString "_law_edit")), (.str (.ofString "_law_edit") 879), (.ref 506)⟩, ⟨(PyData.keyHash P (.ofString "law")), (.str (.ofString "law") 885), (.ref 511)⟩]⟩ 35), ⟨[]⟩⟩
noncomputable def o654 (P : Params) : Obj := ⟨(.type "function"), .none, (.func ⟨(.ofString "law"), (.ofString "law"), (fA (st 33)), (fB (st 33)), (fS (st 33)), 3, [], .none, .none, .none, (.str (.ofString "law_oj0026_01") 833), .none, (.ref 510), .none, 0⟩), ⟨[]⟩⟩
noncomputable def o522 (P : Params) : Obj := ⟨(.type "builtin_function_or_method"), .none, (.fields ⟨[(.builtin "object.__init_subclass__"), (.ref 380)]⟩), ⟨[]⟩⟩
noncomputable def o588 (P : Params) : Obj := ⟨(.type "tuple"), .none, (.seq ⟨[(.bool .false)]⟩ 0), ⟨[]⟩⟩
noncomputable def o556 (P : Params) : Obj := ⟨(.type "tuple"), .none, (.seq ⟨[]⟩ 0), ⟨[]⟩⟩
noncomputable def o620 (P : Params) : Obj := ⟨(.type "code"), .none, (.fields ⟨[(.str (.ofString "_law_deck") 835), (.str (.ofString "_law_deck") 836), (.str (.ofString "/claim/cut.py") 837), (.int 312 0), (.int 1 0), (.int 0 0), (.int 0 0), (.int 3 0), (.ref 476), (.bool .true), (.int 181 0), (.ref 477), .none, .none, .none, (.ref 478), (.int 838 0), (.int 312 0), (.str (.ofString "/claim/cut.py") 839)]⟩), ⟨[]⟩⟩
noncomputable def o538 (P : Params) : Obj := ⟨.none, .none, (.fields ⟨[]⟩), ⟨[]⟩⟩
noncomputable def o604 (P : Params) : Obj := ⟨.none, .none, (.fields ⟨[]⟩), ⟨[]⟩⟩
noncomputable def o572 (P : Params) : Obj := ⟨(.type "code"), .none, (.fields ⟨[(.str (.ofString "hung_out") 753), (.str (.ofString "hung_out") 754), (.str (.ofString "/claim/cut.py") 755), (.int 247 0), (.int 3 0), (.int 0 0), (.int 0 0), (.int 3 0), (.ref 426), (.bool .true), (.int 181 0), (.ref 427), .none, (.ref 428), (.ref 429), (.ref 430), (.int 759 0), (.int 247 0), (.str (.ofString "/claim/cut.py") 760)]⟩), ⟨[]⟩⟩
noncomputable def o506 (P : Params) : Obj := ⟨(.type "tuple"), .none, (.seq ⟨[]⟩ 0), ⟨[]⟩⟩
noncomputable def o638 (P : Params) : Obj := ⟨(.type "tuple"), .none, (.seq ⟨[]⟩ 0), ⟨[]⟩⟩
noncomputable def o530 (P : Params) : Obj := ⟨(.type "tuple"), .none, (.seq ⟨[]⟩ 0), ⟨[]⟩⟩
noncomputable def o596 (P : Params) : Obj := ⟨(.type "tuple"), .none, (.seq ⟨[]⟩ 0), ⟨[]⟩⟩
noncomputable def o564 (P : Params) : Obj := ⟨.none, .none, (.func ⟨(.ofString "text_in"), (.ofString "text_in"), (fA (st 19)), (fB (st 19)), (fS (st 19)), 0, [], .none, .none, .none, .none, .none, .none, .none, 0⟩), ⟨[]⟩⟩
noncomputable def o628 (P : Params) : Obj := ⟨(.type "function"), .none, (.func ⟨(.ofString "_law_draw"), (.ofString "_law_draw"), (fA (st 29)), (fB (st 29)), (fS (st 29)), 3, [], .none, .none, .none, (.str (.ofString "law_oj0026_01") 833), .none, (.ref 486), .none, 0⟩), ⟨[]⟩⟩
noncomputable def o546 (P : Params) : Obj := ⟨(.type "tuple"), .none, (.seq ⟨[(.str (.ofString "buffer") 726), (.str (.ofString "start") 727), (.str (.ofString "end") 728), (.str (.ofString "old_length") 729), (.str (.ofString "listener") 730)]⟩ 0), ⟨[]⟩⟩
noncomputable def o612 (P : Params) : Obj := ⟨(.type "tuple"), .none, (.seq ⟨[(.str (.ofString "buffer") 822), (.str (.ofString "first") 823), (.str (.ofString "second") 824), (.str (.ofString "one") 825), (.str (.ofString "other") 826), (.str (.ofString "head") 827), (.str (.ofString "middle") 828), (.str (.ofString "tail") 829)]⟩ 0), ⟨[]⟩⟩
noncomputable def o580 (P : Params) : Obj := ⟨(.type "function"), .none, (.func ⟨(.ofString "hung_in"), (.ofString "hung_in"), (fA (st 21)), (fB (st 21)), (fS (st 21)), 3, [], .none, .none, .none, (.str (.ofString "emacs.editing") 693), .none, (.ref 438), .none, 0⟩), ⟨[]⟩⟩
noncomputable def o514 (P : Params) : Obj := ⟨.none, .none, (.func ⟨(.ofString "__init__"), (.ofString "LispSignal.__init__"), (fA (cst 12 0)), (fB (cst 12 0)), (fS (cst 12 0)), 0, [], .none, .none, .none, .none, .none, .none, .none, 0⟩), ⟨[]⟩⟩
noncomputable def o646 (P : Params) : Obj := ⟨.none, .none, (.fields ⟨[]⟩), ⟨[]⟩⟩
noncomputable def o526 (P : Params) : Obj := ⟨(.type "tuple"), .none, (.seq ⟨[]⟩ 0), ⟨[]⟩⟩
noncomputable def o592 (P : Params) : Obj := ⟨(.type "tuple"), .none, (.seq ⟨[]⟩ 0), ⟨[]⟩⟩
noncomputable def o560 (P : Params) : Obj := ⟨(.type "tuple"), .none, (.seq ⟨[]⟩ 0), ⟨[]⟩⟩
noncomputable def o624 (P : Params) : Obj := ⟨(.type "tuple"), .none, (.seq ⟨[(.str (.ofString "deck") 844), (.str (.ofString "many") 845), (.str (.ofString "found") 846)]⟩ 0), ⟨[]⟩⟩
noncomputable def o542 (P : Params) : Obj := ⟨(.type "code"), .none, (.fields ⟨[(.str (.ofString "tell_ahead") 713), (.str (.ofString "tell_ahead") 714), (.str (.ofString "/claim/cut.py") 715), (.int 225 0), (.int 3 0), (.int 0 0), (.int 0 0), (.int 3 0), (.ref 398), (.bool .true), (.int 181 0), (.ref 399), .none, (.ref 400), (.ref 401), (.ref 402), (.int 720 0), (.int 225 0), (.str (.ofString "/claim/cut.py") 721)]⟩), ⟨[]⟩⟩
noncomputable def o608 (P : Params) : Obj := ⟨(.type "code"), .none, (.fields ⟨[(.str (.ofString "replace") 805), (.str (.ofString "replace") 806), (.str (.ofString "/claim/cut.py") 807), (.int 282 0), (.int 4 0), (.int 0 0), (.int 0 0), (.int 3 0), (.ref 462), (.bool .true), (.int 181 0), (.ref 463), .none, (.ref 464), (.ref 465), (.ref 466), (.int 816 0), (.int 282 0), (.str (.ofString "/claim/cut.py") 817)]⟩), ⟨[]⟩⟩
noncomputable def o576 (P : Params) : Obj := ⟨(.type "tuple"), .none, (.seq ⟨[(.str (.ofString "buffer") 765), (.str (.ofString "place") 766), (.str (.ofString "many") 767), (.str (.ofString "before_markers") 768)]⟩ 0), ⟨[]⟩⟩
noncomputable def o510 (P : Params) : Obj := ⟨(.type "tuple"), .none, (.seq ⟨[]⟩ 0), ⟨[]⟩⟩
noncomputable def o642 (P : Params) : Obj := ⟨.none, .none, (.func ⟨(.ofString "_law_is_stretch"), (.ofString "_law_is_stretch"), (fA (st 31)), (fB (st 31)), (fS (st 31)), 0, [], .none, .none, .none, .none, .none, .none, .none, 0⟩), ⟨[]⟩⟩
noncomputable def o534 (P : Params) : Obj := ⟨.none, .none, (.func ⟨(.ofString "reached"), (.ofString "reached"), (fA (st 15)), (fB (st 15)), (fS (st 15)), 0, [], .none, .none, .none, .none, .none, .none, .none, 0⟩), ⟨[]⟩⟩
noncomputable def o600 (P : Params) : Obj := ⟨.none, .none, (.func ⟨(.ofString "delete"), (.ofString "delete"), (fA (st 24)), (fB (st 24)), (fS (st 24)), 0, [], .none, .none, .none, .none, .none, .none, .none, 0⟩), ⟨[]⟩⟩
noncomputable def o568 (P : Params) : Obj := ⟨.none, .none, (.fields ⟨[]⟩), ⟨[]⟩⟩
noncomputable def o632 (P : Params) : Obj := ⟨(.type "tuple"), .none, (.seq ⟨[]⟩ 0), ⟨[]⟩⟩
noncomputable def o550 (P : Params) : Obj := ⟨(.type "function"), .none, (.func ⟨(.ofString "tell_behind"), (.ofString "tell_behind"), (fA (st 17)), (fB (st 17)), (fS (st 17)), 3, [], .none, .none, .none, (.str (.ofString "emacs.editing") 693), .none, (.ref 410), .none, 0⟩), ⟨[]⟩⟩
noncomputable def o616 (P : Params) : Obj := ⟨(.type "function"), .none, (.func ⟨(.ofString "transpose_regions"), (.ofString "transpose_regions"), (fA (st 26)), (fB (st 26)), (fS (st 26)), 3, [], .none, .none, .none, (.str (.ofString "emacs.editing") 693), .none, (.ref 474), .none, 0⟩), ⟨[]⟩⟩
noncomputable def o584 (P : Params) : Obj := ⟨(.type "tuple"), .none, (.seq ⟨[]⟩ 0), ⟨[]⟩⟩
noncomputable def o518 (P : Params) : Obj := ⟨(.type "dict"), .none, (.dict ⟨[⟨(PyData.keyHash P (.ofString "__module__")), (.str (.ofString "__module__") 669), (.str (.ofString "emacs.errors") 660)⟩, ⟨(PyData.keyHash P (.ofString "__firstlineno__")), (.str (.ofString "__firstlineno__") 673), (.int 211 672)⟩, ⟨(PyData.keyHash P (.ofString "__init__")), (.str (.ofString "__init__") 682), (.ref 377)⟩, ⟨(PyData.keyHash P (.ofString "__static_attributes__")), (.str (.ofString "__static_attributes__") 685), (.ref 378)⟩, ⟨(PyData.keyHash P (.ofString "__weakref__")), (.str (.ofString "__weakref__") 687), (.ref 381)⟩, ⟨(PyData.keyHash P (.ofString "__doc__")), (.str (.ofString "__doc__") 688), .none⟩]⟩ 3), ⟨[]⟩⟩
noncomputable def o650 (P : Params) : Obj := ⟨(.type "tuple"), .none, (.seq ⟨[]⟩ 0), ⟨[]⟩⟩
noncomputable def o524 (P : Params) : Obj := ⟨.none, .none, (.fields ⟨[]⟩), ⟨[]⟩⟩
noncomputable def o590 (P : Params) : Obj := ⟨.none, .none, (.fields ⟨[]⟩), ⟨[]⟩⟩
noncomputable def o558 (P : Params) : Obj := ⟨(.type "code"), .none, (.fields ⟨[(.str (.ofString "text_out") 734), (.str (.ofString "text_out") 735), (.str (.ofString "/claim/cut.py") 736), (.int 232 0), (.int 3 0), (.int 0 0), (.int 0 0), (.int 3 0), (.ref 412), (.bool .true), (.int 181 0), (.ref 413), .none, (.ref 414), (.ref 415), (.ref 416), (.int 741 0), (.int 232 0), (.str (.ofString "/claim/cut.py") 742)]⟩), ⟨[]⟩⟩
noncomputable def o622 (P : Params) : Obj := ⟨(.type "tuple"), .none, (.seq ⟨[]⟩ 0), ⟨[]⟩⟩
noncomputable def o540 (P : Params) : Obj := ⟨(.type "tuple"), .none, (.seq ⟨[]⟩ 0), ⟨[]⟩⟩
noncomputable def o606 (P : Params) : Obj := ⟨(.type "tuple"), .none, (.seq ⟨[]⟩ 0), ⟨[]⟩⟩
noncomputable def o574 (P : Params) : Obj := ⟨(.type "tuple"), .none, (.seq ⟨[]⟩ 0), ⟨[]⟩⟩
noncomputable def o508 (P : Params) : Obj := ⟨(.type "code"), .none, (.fields ⟨[(.str (.ofString "LispSignal") 664), (.str (.ofString "LispSignal") 665), (.str (.ofString "/claim/cut.py") 666), (.int 211 0), (.int 0 0), (.int 0 0), (.int 0 0), (.int 0 0), (.ref 367), (.bool .false), (.int 181 0), (.ref 368), .none, .none, .none, .none, (.int 667 0), (.int 211 0), (.str (.ofString "/claim/cut.py") 668)]⟩), ⟨[]⟩⟩
noncomputable def o640 (P : Params) : Obj := ⟨(.type "tuple"), .none, (.seq ⟨[(.str (.ofString "signs") 865), (.str (.ofString "elder") 866), (.str (.ofString "stretch") 867), (.str (.ofString "begin") 868), (.str (.ofString "end") 869), (.str (.ofString "size") 870)]⟩ 0), ⟨[]⟩⟩
noncomputable def o532 (P : Params) : Obj := ⟨(.type "tuple"), .none, (.seq ⟨[(.str (.ofString "buffer") 705), (.str (.ofString "start") 706), (.str (.ofString "end") 707), (.str (.ofString "low") 708), (.str (.ofString "high") 709)]⟩ 0), ⟨[]⟩⟩
noncomputable def o598 (P : Params) : Obj := ⟨(.type "tuple"), .none, (.seq ⟨[(.str (.ofString "buffer") 796), (.str (.ofString "start") 797), (.str (.ofString "end") 798), (.str (.ofString "low") 799), (.str (.ofString "high") 800), (.str (.ofString "gone") 801)]⟩ 0), ⟨[]⟩⟩
noncomputable def o566 (P : Params) : Obj := ⟨(.type "function"), .none, (.func ⟨(.ofString "text_in"), (.ofString "text_in"), (fA (st 19)), (fB (st 19)), (fS (st 19)), 3, [], .none, .none, .none, (.str (.ofString "emacs.editing") 693), .none, (.ref 424), .none, 0⟩), ⟨[]⟩⟩
noncomputable def o630 (P : Params) : Obj := ⟨.none, .none, (.fields ⟨[]⟩), ⟨[]⟩⟩
noncomputable def o548 (P : Params) : Obj := ⟨.none, .none, (.func ⟨(.ofString "tell_behind"), (.ofString "tell_behind"), (fA (st 17)), (fB (st 17)), (fS (st 17)), 0, [], .none, .none, .none, .none, .none, .none, .none, 0⟩), ⟨[]⟩⟩
noncomputable def o614 (P : Params) : Obj := ⟨.none, .none, (.func ⟨(.ofString "transpose_regions"), (.ofString "transpose_regions"), (fA (st 26)), (fB (st 26)), (fS (st 26)), 0, [], .none, .none, .none, .none, .none, .none, .none, 0⟩), ⟨[]⟩⟩
noncomputable def o582 (P : Params) : Obj := ⟨.none, .none, (.fields ⟨[]⟩), ⟨[]⟩⟩
noncomputable def o516 (P : Params) : Obj := ⟨(.type "function"), .none, (.func ⟨(.ofString "__init__"), (.ofString "LispSignal.__init__"), (fA (cst 12 0)), (fB (cst 12 0)), (fS (cst 12 0)), 3, [], .none, .none, .none, (.str (.ofString "emacs.errors") 660), .none, (.ref 376), .none, 0⟩), ⟨[]⟩⟩
noncomputable def o648 (P : Params) : Obj := ⟨(.type "code"), .none, (.fields ⟨[(.str (.ofString "_law_edit") 874), (.str (.ofString "_law_edit") 875), (.str (.ofString "/claim/cut.py") 876), (.int 334 0), (.int 3 0), (.int 0 0), (.int 0 0), (.int 3 0), (.ref 502), (.bool .true), (.int 181 0), (.ref 503), .none, .none, .none, (.ref 504), (.int 877 0), (.int 334 0), (.str (.ofString "/claim/cut.py") 878)]⟩), ⟨[]⟩⟩
noncomputable def o528 (P : Params) : Obj := ⟨(.type "code"), .none, (.fields ⟨[(.str (.ofString "need_writable") 695), (.str (.ofString "need_writable") 696), (.str (.ofString "/claim/cut.py") 697), (.int 217 0), (.int 1 0), (.int 0 0), (.int 0 0), (.int 3 0), (.ref 384), (.bool .true), (.int 181 0), (.ref 385), .none, (.ref 386), (.ref 387), (.ref 388), (.int 699 0), (.int 217 0), (.str (.ofString "/claim/cut.py") 700)]⟩), ⟨[]⟩⟩
noncomputable def o594 (P : Params) : Obj := ⟨(.type "code"), .none, (.fields ⟨[(.str (.ofString "insert_at") 783), (.str (.ofString "insert_at") 784), (.str (.ofString "/claim/cut.py") 785), (.int 269 0), (.int 4 0), (.int 0 0), (.int 0 0), (.int 3 0), (.ref 448), (.bool .true), (.int 181 0), (.ref 449), .none, (.ref 450), (.ref 451), (.ref 452), (.int 790 0), (.int 269 0), (.str (.ofString "/claim/cut.py") 791)]⟩), ⟨[]⟩⟩
noncomputable def o562 (P : Params) : Obj := ⟨(.type "tuple"), .none, (.seq ⟨[(.str (.ofString "buffer") 747), (.str (.ofString "place") 748), (.str (.ofString "codes") 749)]⟩ 0), ⟨[]⟩⟩
noncomputable def o626 (P : Params) : Obj := ⟨.none, .none, (.func ⟨(.ofString "_law_draw"), (.ofString "_law_draw"), (fA (st 29)), (fB (st 29)), (fS (st 29)), 0, [], .none, .none, .none, .none, .none, .none, .none, 0⟩), ⟨[]⟩⟩
noncomputable def o544 (P : Params) : Obj := ⟨(.type "tuple"), .none, (.seq ⟨[]⟩ 0), ⟨[]⟩⟩
noncomputable def o610 (P : Params) : Obj := ⟨(.type "tuple"), .none, (.seq ⟨[]⟩ 0), ⟨[]⟩⟩
noncomputable def o578 (P : Params) : Obj := ⟨.none, .none, (.func ⟨(.ofString "hung_in"), (.ofString "hung_in"), (fA (st 21)), (fB (st 21)), (fS (st 21)), 0, [], .none, .none, .none, .none, .none, .none, .none, 0⟩), ⟨[]⟩⟩
noncomputable def o512 (P : Params) : Obj := ⟨(.type "tuple"), .none, (.seq ⟨[(.str (.ofString "self") 677), (.str (.ofString "symbol") 678), (.str (.ofString "data") 679)]⟩ 0), ⟨[]⟩⟩
noncomputable def o644 (P : Params) : Obj := ⟨(.type "function"), .none, (.func ⟨(.ofString "_law_is_stretch"), (.ofString "_law_is_stretch"), (fA (st 31)), (fB (st 31)), (fS (st 31)), 3, [], .none, .none, .none, (.str (.ofString "law_oj0026_01") 833), .none, (.ref 500), .none, 0⟩), ⟨[]⟩⟩
noncomputable def o536 (P : Params) : Obj := ⟨(.type "function"), .none, (.func ⟨(.ofString "reached"), (.ofString "reached"), (fA (st 15)), (fB (st 15)), (fS (st 15)), 3, [], .none, .none, .none, (.str (.ofString "emacs.editing") 693), .none, (.ref 396), .none, 0⟩), ⟨[]⟩⟩
noncomputable def o602 (P : Params) : Obj := ⟨(.type "function"), .none, (.func ⟨(.ofString "delete"), (.ofString "delete"), (fA (st 24)), (fB (st 24)), (fS (st 24)), 3, [], .none, .none, .none, (.str (.ofString "emacs.editing") 693), .none, (.ref 460), .none, 0⟩), ⟨[]⟩⟩
noncomputable def o570 (P : Params) : Obj := ⟨(.type "tuple"), .none, (.seq ⟨[]⟩ 0), ⟨[]⟩⟩
noncomputable def o504 (P : Params) : Obj := ⟨(.type "builtin_function_or_method"), .none, (.fields ⟨[(.builtin "type.__prepare__"), (.type "type")]⟩), ⟨[]⟩⟩
noncomputable def o634 (P : Params) : Obj := ⟨(.type "code"), .none, (.fields ⟨[(.str (.ofString "_law_spread") 850), (.str (.ofString "_law_spread") 851), (.str (.ofString "/claim/cut.py") 852), (.int 322 0), (.int 2 0), (.int 0 0), (.int 0 0), (.int 3 0), (.ref 488), (.bool .true), (.int 181 0), (.ref 489), .none, (.ref 490), (.ref 491), (.ref 492), (.int 859 0), (.int 322 0), (.str (.ofString "/claim/cut.py") 860)]⟩), ⟨[]⟩⟩
noncomputable def o554 (P : Params) : Obj := ⟨.none, .none, (.fields ⟨[]⟩), ⟨[]⟩⟩
noncomputable def o618 (P : Params) : Obj := ⟨.none, .none, (.fields ⟨[]⟩), ⟨[]⟩⟩
noncomputable def o586 (P : Params) : Obj := ⟨(.type "code"), .none, (.fields ⟨[(.str (.ofString "put_in") 772), (.str (.ofString "put_in") 773), (.str (.ofString "/claim/cut.py") 774), (.int 257 0), (.int 5 0), (.int 0 0), (.int 0 0), (.int 3 0), (.ref 440), (.bool .true), (.int 181 0), (.ref 441), .none, (.ref 442), (.ref 443), (.ref 444), (.int 780 0), (.int 257 0), (.str (.ofString "/claim/cut.py") 781)]⟩), ⟨[]⟩⟩
noncomputable def o520 (P : Params) : Obj := ⟨(.type "getset_descriptor"), .none, (.fields ⟨[(.str (.ofString "__weakref__") 686), (.ref 380), (.builtin "ExceptionGroup.__weakref__"), .none]⟩), ⟨[]⟩⟩
noncomputable def o652 (P : Params) : Obj := ⟨.none, .none, (.func ⟨(.ofString "law"), (.ofString "law"), (fA (st 33)), (fB (st 33)), (fS (st 33)), 0, [], .none, .none, .none, .none, .none, .none, .none, 0⟩), ⟨[]⟩⟩
noncomputable def o500 (P : Params) : Obj := ⟨.none, .none, (.dict ⟨[⟨(PyData.keyHash P (.ofString "type.__subclasses__.Exception.0")), (.str (.ofString "type.__subclasses__.Exception.0") 689), (.int 380 0)⟩, ⟨(PyData.keyHash P (.ofString "type.__subclasses__.Exception.n")), (.str (.ofString "type.__subclasses__.Exception.n") 690), (.int 1 0)⟩]⟩ 2), ⟨[]⟩⟩
noncomputable def o523 (P : Params) : Obj := ⟨(.type "tuple"), .none, (.seq ⟨[]⟩ 0), ⟨[]⟩⟩
noncomputable def o589 (P : Params) : Obj := ⟨(.type "tuple"), .none, (.seq ⟨[]⟩ 0), ⟨[]⟩⟩
noncomputable def o557 (P : Params) : Obj := ⟨.none, .none, (.func ⟨(.ofString "text_out"), (.ofString "text_out"), (fA (st 18)), (fB (st 18)), (fS (st 18)), 0, [], .none, .none, .none, .none, .none, .none, .none, 0⟩), ⟨[]⟩⟩
noncomputable def o621 (P : Params) : Obj := ⟨(.type "function"), .none, (.func ⟨(.ofString "_law_deck"), (.ofString "_law_deck"), (fA (st 28)), (fB (st 28)), (fS (st 28)), 3, [], .none, .none, .none, (.str (.ofString "law_oj0026_01") 833), .none, (.ref 479), .none, 0⟩), ⟨[]⟩⟩
noncomputable def o539 (P : Params) : Obj := ⟨(.type "tuple"), .none, (.seq ⟨[(.str (.ofString "buffer") 716), (.str (.ofString "start") 717), (.str (.ofString "end") 718), (.str (.ofString "listener") 719)]⟩ 0), ⟨[]⟩⟩
noncomputable def o605 (P : Params) : Obj := ⟨(.type "tuple"), .none, (.seq ⟨[(.str (.ofString "buffer") 808), (.str (.ofString "start") 809), (.str (.ofString "end") 810), (.str (.ofString "codes") 811), (.str (.ofString "low") 812), (.str (.ofString "high") 813), (.str (.ofString "point") 814), (.str (.ofString "gone") 815)]⟩ 0), ⟨[]⟩⟩
noncomputable def o573 (P : Params) : Obj := ⟨(.type "function"), .none, (.func ⟨(.ofString "hung_out"), (.ofString "hung_out"), (fA (st 20)), (fB (st 20)), (fS (st 20)), 3, [], .none, .none, .none, (.str (.ofString "emacs.editing") 693), .none, (.ref 431), .none, 0⟩), ⟨[]⟩⟩
noncomputable def o507 (P : Params) : Obj := ⟨.none, .none, (.fields ⟨[(.int 213 0), (.int 4 0), (.ref 376)]⟩), ⟨[]⟩⟩
noncomputable def o639 (P : Params) : Obj := ⟨.none, .none, (.fields ⟨[]⟩), ⟨[]⟩⟩
noncomputable def o531 (P : Params) : Obj := ⟨.none, .none, (.fields ⟨[]⟩), ⟨[]⟩⟩
noncomputable def o597 (P : Params) : Obj := ⟨.none, .none, (.fields ⟨[]⟩), ⟨[]⟩⟩
noncomputable def o565 (P : Params) : Obj := ⟨(.type "code"), .none, (.fields ⟨[(.str (.ofString "text_in") 744), (.str (.ofString "text_in") 745), (.str (.ofString "/claim/cut.py") 746), (.int 240 0), (.int 3 0), (.int 0 0), (.int 0 0), (.int 3 0), (.ref 419), (.bool .true), (.int 181 0), (.ref 420), .none, (.ref 421), (.ref 422), (.ref 423), (.int 750 0), (.int 240 0), (.str (.ofString "/claim/cut.py") 751)]⟩), ⟨[]⟩⟩
noncomputable def o629 (P : Params) : Obj := ⟨(.type "tuple"), .none, (.seq ⟨[]⟩ 0), ⟨[]⟩⟩
noncomputable def o547 (P : Params) : Obj := ⟨(.type "tuple"), .none, (.seq ⟨[]⟩ 0), ⟨[]⟩⟩
noncomputable def o613 (P : Params) : Obj := ⟨(.type "tuple"), .none, (.seq ⟨[]⟩ 0), ⟨[]⟩⟩
noncomputable def o581 (P : Params) : Obj := ⟨(.type "tuple"), .none, (.seq ⟨[]⟩ 0), ⟨[]⟩⟩
noncomputable def o515 (P : Params) : Obj := ⟨(.type "code"), .none, (.fields ⟨[(.str (.ofString "__init__") 674), (.str (.ofString "LispSignal.__init__") 675), (.str (.ofString "/claim/cut.py") 676), (.int 213 0), (.int 3 0), (.int 0 0), (.int 0 0), (.int 3 0), (.ref 371), (.bool .true), (.int 181 0), (.ref 372), .none, (.ref 373), (.ref 374), (.ref 375), (.int 680 0), (.int 213 0), (.str (.ofString "/claim/cut.py") 681)]⟩), ⟨[]⟩⟩
noncomputable def o647 (P : Params) : Obj := ⟨.none, .none, (.func ⟨(.ofString "_law_edit"), (.ofString "_law_edit"), (fA (st 32)), (fB (st 32)), (fS (st 32)), 0, [], .none, .none, .none, .none, .none, .none, .none, 0⟩), ⟨[]⟩⟩
noncomputable def o637 (P : Params) : Obj := ⟨.none, .none, (.fields ⟨[(.int 1 0), (.int 0 0), (.ref 20), (.int 5 0), (.int 0 0), (.ref 27), (.int 31 0), (.int 0 0), (.ref 69), (.int 95 0), (.int 0 0), (.ref 160), (.int 138 0), (.int 0 0), (.ref 230), (.int 149 0), (.int 0 0), (.ref 265), (.int 211 0), (.int 0 0), (.ref 369), (.int 217 0), (.int 0 0), (.ref 389), (.int 220 0), (.int 0 0), (.ref 396), (.int 225 0), (.int 0 0), (.ref 403), (.int 228 0), (.int 0 0), (.ref 410), (.int 232 0), (.int 0 0), (.ref 417), (.int 240 0), (.int 0 0), (.ref 424), (.int 247 0), (.int 0 0), (.ref 431), (.int 252 0), (.int 0 0), (.ref 438), (.int 257 0), (.int 0 0), (.ref 445), (.int 269 0), (.int 0 0), (.ref 453), (.int 271 0), (.int 0 0), (.ref 460), (.int 282 0), (.int 0 0), (.ref 467), (.int 301 0), (.int 0 0), (.ref 474), (.int 312 0), (.int 0 0), (.ref 479), (.int 314 0), (.int 0 0), (.ref 486), (.int 322 0), (.int 0 0), (.ref 493), (.int 327 0), (.int 0 0), (.ref 500), (.int 334 0), (.int 0 0), (.ref 505), (.int 348 0), (.int 0 0), (.ref 510)]⟩), ⟨[]⟩⟩
noncomputable def o527 (P : Params) : Obj := ⟨.none, .none, (.func ⟨(.ofString "need_writable"), (.ofString "need_writable"), (fA (st 14)), (fB (st 14)), (fS (st 14)), 0, [], .none, .none, .none, .none, .none, .none, .none, 0⟩), ⟨[]⟩⟩
noncomputable def o593 (P : Params) : Obj := ⟨.none, .none, (.func ⟨(.ofString "insert_at"), (.ofString "insert_at"), (fA (st 23)), (fB (st 23)), (fS (st 23)), 0, [], .none, .none, .none, .none, .none, .none, .none, 0⟩), ⟨[]⟩⟩
noncomputable def o561 (P : Params) : Obj := ⟨.none, .none, (.fields ⟨[]⟩), ⟨[]⟩⟩
noncomputable def o625 (P : Params) : Obj := ⟨(.type "tuple"), .none, (.seq ⟨[]⟩ 0), ⟨[]⟩⟩
noncomputable def o543 (P : Params) : Obj := ⟨(.type "function"), .none, (.func ⟨(.ofString "tell_ahead"), (.ofString "tell_ahead"), (fA (st 16)), (fB (st 16)), (fS (st 16)), 3, [], .none, .none, .none, (.str (.ofString "emacs.editing") 693), .none, (.ref 403), .none, 0⟩), ⟨[]⟩⟩
noncomputable def o609 (P : Params) : Obj := ⟨(.type "function"), .none, (.func ⟨(.ofString "replace"), (.ofString "replace"), (fA (st 25)), (fB (st 25)), (fS (st 25)), 3, [], .none, .none, .none, (.str (.ofString "emacs.editing") 693), .none, (.ref 467), .none, 0⟩), ⟨[]⟩⟩
noncomputable def o577 (P : Params) : Obj := ⟨(.type "tuple"), .none, (.seq ⟨[]⟩ 0), ⟨[]⟩⟩
noncomputable def o511 (P : Params) : Obj := ⟨.none, .none, (.fields ⟨[]⟩), ⟨[]⟩⟩
noncomputable def o643 (P : Params) : Obj := ⟨(.type "code"), .none, (.fields ⟨[(.str (.ofString "_law_is_stretch") 862), (.str (.ofString "_law_is_stretch") 863), (.str (.ofString "/claim/cut.py") 864), (.int 327 0), (.int 3 0), (.int 0 0), (.int 0 0), (.int 3 0), (.ref 495), (.bool .true), (.int 181 0), (.ref 496), .none, (.ref 497), (.ref 498), (.ref 499), (.int 871 0), (.int 327 0), (.str (.ofString "/claim/cut.py") 872)]⟩), ⟨[]⟩⟩
noncomputable def o535 (P : Params) : Obj := ⟨(.type "code"), .none, (.fields ⟨[(.str (.ofString "reached") 702), (.str (.ofString "reached") 703), (.str (.ofString "/claim/cut.py") 704), (.int 220 0), (.int 3 0), (.int 0 0), (.int 0 0), (.int 3 0), (.ref 391), (.bool .true), (.int 181 0), (.ref 392), .none, (.ref 393), (.ref 394), (.ref 395), (.int 710 0), (.int 220 0), (.str (.ofString "/claim/cut.py") 711)]⟩), ⟨[]⟩⟩
noncomputable def o601 (P : Params) : Obj := ⟨(.type "code"), .none, (.fields ⟨[(.str (.ofString "delete") 793), (.str (.ofString "delete") 794), (.str (.ofString "/claim/cut.py") 795), (.int 271 0), (.int 3 0), (.int 0 0), (.int 0 0), (.int 3 0), (.ref 455), (.bool .true), (.int 181 0), (.ref 456), .none, (.ref 457), (.ref 458), (.ref 459), (.int 802 0), (.int 271 0), (.str (.ofString "/claim/cut.py") 803)]⟩), ⟨[]⟩⟩
noncomputable def o569 (P : Params) : Obj := ⟨(.type "tuple"), .none, (.seq ⟨[(.str (.ofString "buffer") 756), (.str (.ofString "start") 757), (.str (.ofString "end") 758)]⟩ 0), ⟨[]⟩⟩
noncomputable def o503 (P : Params) : Obj := ⟨(.type "tuple"), .none, (.seq ⟨[(.type "Exception")]⟩ 0), ⟨[]⟩⟩
noncomputable def o633 (P : Params) : Obj := ⟨.none, .none, (.func ⟨(.ofString "_law_spread"), (.ofString "_law_spread"), (fA (st 30)), (fB (st 30)), (fS (st 30)), 0, [], .none, .none, .none, .none, .none, .none, .none, 0⟩), ⟨[]⟩⟩
noncomputable def o553 (P : Params) : Obj := ⟨(.type "tuple"), .none, (.seq ⟨[]⟩ 0), ⟨[]⟩⟩
noncomputable def o617 (P : Params) : Obj := ⟨(.type "tuple"), .none, (.seq ⟨[]⟩ 0), ⟨[]⟩⟩
noncomputable def o585 (P : Params) : Obj := ⟨.none, .none, (.func ⟨(.ofString "put_in"), (.ofString "put_in"), (fA (st 22)), (fB (st 22)), (fS (st 22)), 0, [], .none, .none, .none, .none, .none, .none, .none, 0⟩), ⟨[]⟩⟩
noncomputable def o519 (P : Params) : Obj := ⟨(.type "type"), .none, (.cls ⟨(.ofString "LispSignal"), [(.type "Exception")], [(.ref 380), (.type "Exception"), (.type "BaseException"), (.type "object")], 379, (.ofString "LispSignal"), .true, [], [], .false, .none, .false⟩), ⟨[(.some (.ref 364)), .none, (.some (.str (.ofString "LispSignal") 662)), (.some (.str (.ofString "LispSignal") 670)), (.some (.builtin "Exception.__new__")), (.some (.bool .true))]⟩⟩
noncomputable def o651 (P : Params) : Obj := ⟨.none, .none, (.fields ⟨[]⟩), ⟨[]⟩⟩
noncomputable def o525 (P : Params) : Obj := ⟨(.type "tuple"), .none, (.seq ⟨[(.str (.ofString "buffer") 698)]⟩ 0), ⟨[]⟩⟩
noncomputable def o591 (P : Params) : Obj := ⟨(.type "tuple"), .none, (.seq ⟨[(.str (.ofString "buffer") 786), (.str (.ofString "place") 787), (.str (.ofString "codes") 788), (.str (.ofString "before_markers") 789)]⟩ 0), ⟨[]⟩⟩
noncomputable def o559 (P : Params) : Obj := ⟨(.type "function"), .none, (.func ⟨(.ofString "text_out"), (.ofString "text_out"), (fA (st 18)), (fB (st 18)), (fS (st 18)), 3, [], .none, .none, .none, (.str (.ofString "emacs.editing") 693), .none, (.ref 417), .none, 0⟩), ⟨[]⟩⟩
noncomputable def o623 (P : Params) : Obj := ⟨.none, .none, (.fields ⟨[]⟩), ⟨[]⟩⟩
noncomputable def o541 (P : Params) : Obj := ⟨.none, .none, (.func ⟨(.ofString "tell_ahead"), (.ofString "tell_ahead"), (fA (st 16)), (fB (st 16)), (fS (st 16)), 0, [], .none, .none, .none, .none, .none, .none, .none, 0⟩), ⟨[]⟩⟩
noncomputable def o607 (P : Params) : Obj := ⟨.none, .none, (.func ⟨(.ofString "replace"), (.ofString "replace"), (fA (st 25)), (fB (st 25)), (fS (st 25)), 0, [], .none, .none, .none, .none, .none, .none, .none, 0⟩), ⟨[]⟩⟩
noncomputable def o575 (P : Params) : Obj := ⟨.none, .none, (.fields ⟨[]⟩), ⟨[]⟩⟩
noncomputable def o509 (P : Params) : Obj := ⟨(.type "frame"), .none, .plain, ⟨[(.some (.ref 369)), (.some (.ref 3)), (.some (.ref 366)), .none, (.some (.str (.ofString "emacs.errors") 660)), .none, (.some (.ref 0))]⟩⟩
noncomputable def o641 (P : Params) : Obj := ⟨(.type "tuple"), .none, (.seq ⟨[]⟩ 0), ⟨[]⟩⟩
noncomputable def o533 (P : Params) : Obj := ⟨(.type "tuple"), .none, (.seq ⟨[]⟩ 0), ⟨[]⟩⟩
noncomputable def o599 (P : Params) : Obj := ⟨(.type "tuple"), .none, (.seq ⟨[]⟩ 0), ⟨[]⟩⟩
noncomputable def o567 (P : Params) : Obj := ⟨(.type "tuple"), .none, (.seq ⟨[]⟩ 0), ⟨[]⟩⟩
noncomputable def o631 (P : Params) : Obj := ⟨(.type "tuple"), .none, (.seq ⟨[(.str (.ofString "lows") 853), (.str (.ofString "steps") 854), (.str (.ofString "found") 855), (.str (.ofString "start") 856), (.str (.ofString "end") 857), (.str (.ofString "size") 858)]⟩ 0), ⟨[]⟩⟩
noncomputable def o549 (P : Params) : Obj := ⟨(.type "code"), .none, (.fields ⟨[(.str (.ofString "tell_behind") 723), (.str (.ofString "tell_behind") 724), (.str (.ofString "/claim/cut.py") 725), (.int 228 0), (.int 4 0), (.int 0 0), (.int 0 0), (.int 3 0), (.ref 405), (.bool .true), (.int 181 0), (.ref 406), .none, (.ref 407), (.ref 408), (.ref 409), (.int 731 0), (.int 228 0), (.str (.ofString "/claim/cut.py") 732)]⟩), ⟨[]⟩⟩
noncomputable def o615 (P : Params) : Obj := ⟨(.type "code"), .none, (.fields ⟨[(.str (.ofString "transpose_regions") 819), (.str (.ofString "transpose_regions") 820), (.str (.ofString "/claim/cut.py") 821), (.int 301 0), (.int 3 0), (.int 0 0), (.int 0 0), (.int 3 0), (.ref 469), (.bool .true), (.int 181 0), (.ref 470), .none, (.ref 471), (.ref 472), (.ref 473), (.int 830 0), (.int 301 0), (.str (.ofString "/claim/cut.py") 831)]⟩), ⟨[]⟩⟩
noncomputable def o583 (P : Params) : Obj := ⟨(.type "tuple"), .none, (.seq ⟨[(.str (.ofString "buffer") 775), (.str (.ofString "place") 776), (.str (.ofString "codes") 777), (.str (.ofString "before_markers") 778), (.str (.ofString "is_point_behind") 779)]⟩ 0), ⟨[]⟩⟩
noncomputable def o517 (P : Params) : Obj := ⟨(.type "tuple"), .none, (.seq ⟨[(.str (.ofString "data") 683), (.str (.ofString "symbol") 684)]⟩ 0), ⟨[]⟩⟩
noncomputable def o649 (P : Params) : Obj := ⟨(.type "function"), .none, (.func ⟨(.ofString "_law_edit"), (.ofString "_law_edit"), (fA (st 32)), (fB (st 32)), (fS (st 32)), 3, [], .none, .none, .none, (.str (.ofString "law_oj0026_01") 833), .none, (.ref 505), .none, 0⟩), ⟨[]⟩⟩
noncomputable def o529 (P : Params) : Obj := ⟨(.type "function"), .none, (.func ⟨(.ofString "need_writable"), (.ofString "need_writable"), (fA (st 14)), (fB (st 14)), (fS (st 14)), 3, [], .none, .none, .none, (.str (.ofString "emacs.editing") 693), .none, (.ref 389), .none, 0⟩), ⟨[]⟩⟩
noncomputable def o595 (P : Params) : Obj := ⟨(.type "function"), .none, (.func ⟨(.ofString "insert_at"), (.ofString "insert_at"), (fA (st 23)), (fB (st 23)), (fS (st 23)), 3, [], (.ref 447), .none, .none, (.str (.ofString "emacs.editing") 693), .none, (.ref 453), .none, 0⟩), ⟨[]⟩⟩
noncomputable def o563 (P : Params) : Obj := ⟨(.type "tuple"), .none, (.seq ⟨[]⟩ 0), ⟨[]⟩⟩
noncomputable def o627 (P : Params) : Obj := ⟨(.type "code"), .none, (.fields ⟨[(.str (.ofString "_law_draw") 841), (.str (.ofString "_law_draw") 842), (.str (.ofString "/claim/cut.py") 843), (.int 314 0), (.int 2 0), (.int 0 0), (.int 0 0), (.int 3 0), (.ref 481), (.bool .true), (.int 181 0), (.ref 482), .none, (.ref 483), (.ref 484), (.ref 485), (.int 847 0), (.int 314 0), (.str (.ofString "/claim/cut.py") 848)]⟩), ⟨[]⟩⟩
noncomputable def o545 (P : Params) : Obj := ⟨.none, .none, (.fields ⟨[]⟩), ⟨[]⟩⟩
noncomputable def o611 (P : Params) : Obj := ⟨.none, .none, (.fields ⟨[]⟩), ⟨[]⟩⟩
noncomputable def o579 (P : Params) : Obj := ⟨(.type "code"), .none, (.fields ⟨[(.str (.ofString "hung_in") 762), (.str (.ofString "hung_in") 763), (.str (.ofString "/claim/cut.py") 764), (.int 252 0), (.int 4 0), (.int 0 0), (.int 0 0), (.int 3 0), (.ref 433), (.bool .true), (.int 181 0), (.ref 434), .none, (.ref 435), (.ref 436), (.ref 437), (.int 769 0), (.int 252 0), (.str (.ofString "/claim/cut.py") 770)]⟩), ⟨[]⟩⟩
noncomputable def o513 (P : Params) : Obj := ⟨(.type "tuple"), .none, (.seq ⟨[]⟩ 0), ⟨[]⟩⟩
noncomputable def o645 (P : Params) : Obj := ⟨(.type "tuple"), .none, (.seq ⟨[]⟩ 0), ⟨[]⟩⟩
noncomputable def o537 (P : Params) : Obj := ⟨(.type "tuple"), .none, (.seq ⟨[]⟩ 0), ⟨[]⟩⟩
noncomputable def o603 (P : Params) : Obj := ⟨(.type "tuple"), .none, (.seq ⟨[]⟩ 0), ⟨[]⟩⟩
noncomputable def o571 (P : Params) : Obj := ⟨.none, .none, (.func ⟨(.ofString "hung_out"), (.ofString "hung_out"), (fA (st 20)), (fB (st 20)), (fS (st 20)), 0, [], .none, .none, .none, .none, .none, .none, .none, 0⟩), ⟨[]⟩⟩
noncomputable def o505 (P : Params) : Obj := ⟨(.type "dict"), .none, (.dict ⟨[⟨(PyData.keyHash P (.ofString "__module__")), (.str (.ofString "__module__") 669), (.str (.ofString "emacs.errors") 660)⟩, ⟨(PyData.keyHash P (.ofString "__qualname__")), (.str (.ofString "__qualname__") 671), (.str (.ofString "LispSignal") 670)⟩, ⟨(PyData.keyHash P (.ofString "__firstlineno__")), (.str (.ofString "__firstlineno__") 673), (.int 211 672)⟩, ⟨(PyData.keyHash P (.ofString "__init__")), (.str (.ofString "__init__") 682), (.ref 377)⟩, ⟨(PyData.keyHash P (.ofString "__static_attributes__")), (.str (.ofString "__static_attributes__") 685), (.ref 378)⟩]⟩ 5), ⟨[]⟩⟩
noncomputable def o635 (P : Params) : Obj := ⟨(.type "function"), .none, (.func ⟨(.ofString "_law_spread"), (.ofString "_law_spread"), (fA (st 30)), (fB (st 30)), (fS (st 30)), 3, [], .none, .none, .none, (.str (.ofString "law_oj0026_01") 833), .none, (.ref 493), .none, 0⟩), ⟨[]⟩⟩
noncomputable def o555 (P : Params) : Obj := ⟨(.type "tuple"), .none, (.seq ⟨[(.str (.ofString "buffer") 737), (.str (.ofString "start") 738), (.str (.ofString "end") 739), (.str (.ofString "gone") 740)]⟩ 0), ⟨[]⟩⟩
noncomputable def o619 (P : Params) : Obj := ⟨.none, .none, (.func ⟨(.ofString "_law_deck"), (.ofString "_law_deck"), (fA (st 28)), (fB (st 28)), (fS (st 28)), 0, [], .none, .none, .none, .none, .none, .none, .none, 0⟩), ⟨[]⟩⟩
noncomputable def o587 (P : Params) : Obj := ⟨(.type "function"), .none, (.func ⟨(.ofString "put_in"), (.ofString "put_in"), (fA (st 22)), (fB (st 22)), (fS (st 22)), 3, [], .none, .none, .none, (.str (.ofString "emacs.editing") 693), .none, (.ref 445), .none, 0⟩), ⟨[]⟩⟩
noncomputable def o521 (P : Params) : Obj := ⟨(.type "super"), .none, (.fields ⟨[(.ref 380), (.ref 380), (.ref 380)]⟩), ⟨[]⟩⟩
noncomputable def o653 (P : Params) : Obj := ⟨(.type "code"), .none, (.fields ⟨[(.str (.ofString "law") 880), (.str (.ofString "law") 881), (.str (.ofString "/claim/cut.py") 882), (.int 348 0), (.int 1 0), (.int 0 0), (.int 0 0), (.int 3 0), (.ref 507), (.bool .true), (.int 181 0), (.ref 508), .none, .none, .none, (.ref 509), (.int 883 0), (.int 348 0), (.str (.ofString "/claim/cut.py") 884)]⟩), ⟨[]⟩⟩
noncomputable def hA (P : Params) : Heap := ⟨⟨[(W.boot_o_0 P), (W.boot_o_1 P), (W.boot_o_2 P), (W.boot_o_3 P), (W.boot_o_4 P), (W.boot_o_5 P), (W.boot_o_6 P), (W.boot_o_7 P), (W.boot_o_8 P), (W.boot_o_9 P), (W.boot_o_10 P), (o43 P), (o44 P), (o45 P), (o46 P)]⟩, ⟨[], [], [], 0, [], [], .false, ⟨[]⟩, [], 0, .false, .false, .false, 0, [2000, 10, 10], .false, 0, .true, [], [], 0, .false⟩⟩
noncomputable def t0 (P : Params) : BT := (.node (W.boot_o_0 P) (.node (W.boot_o_1 P) (.node (W.boot_o_3 P) (.node (W.boot_o_7 P) .nil .nil) (.node (o43 P) .nil .nil)) (.node (W.boot_o_5 P) (.node (W.boot_o_9 P) .nil .nil) (.node (o45 P) .nil .nil))) (.node (W.boot_o_2 P) (.node (W.boot_o_4 P) (.node (W.boot_o_8 P) .nil .nil) (.node (o44 P) .nil .nil)) (.node (W.boot_o_6 P) (.node (W.boot_o_10 P) .nil .nil) (.node (o46 P) .nil .nil))))
noncomputable def t1 (P : Params) : BT := (.node (W.boot_o_0 P) (.node (W.boot_o_1 P) (.node (o100 P) (.node (W.boot_o_7 P) (.node (o51 P) (.node (o67 P) (.node (o99 P) (.node (o165 P) .nil .nil) .nil) (.node (o133 P) .nil .nil)) (.node (o83 P) (.node (o117 P) (.node (o181 P) .nil .nil) .nil) (.node (o149 P) .nil .nil))) (.node (o59 P) (.node (o75 P) (.node (o109 P) (.node (o173 P) .nil .nil) .nil) (.node (o141 P) .nil .nil)) (.node (o91 P) (.node (o125 P) (.node (o189 P) .nil .nil) .nil) (.node (o157 P) .nil .nil)))) (.node (o43 P) (.node (o55 P) (.node (o71 P) (.node (o105 P) (.node (o169 P) .nil .nil) .nil) (.node (o137 P) .nil .nil)) (.node (o87 P) (.node (o121 P) (.node (o185 P) .nil .nil) .nil) (.node (o153 P) .nil .nil))) (.node (o63 P) (.node (o79 P) (.node (o113 P) (.node (o177 P) .nil .nil) .nil) (.node (o145 P) .nil .nil)) (.node (o95 P) (.node (o129 P) .nil .nil) (.node (o161 P) .nil .nil))))) (.node (W.boot_o_5 P) (.node (W.boot_o_9 P) (.node (o53 P) (.node (o69 P) (.node (o103 P) (.node (o167 P) .nil .nil) .nil) (.node (o135 P) .nil .nil)) (.node (o85 P) (.node (o119 P) (.node (o183 P) .nil .nil) .nil) (.node (o151 P) .nil .nil))) (.node (o61 P) (.node (o77 P) (.node (o111 P) (.node (o175 P) .nil .nil) .nil) (.node (o143 P) .nil .nil)) (.node (o93 P) (.node (o127 P) (.node (o191 P) .nil .nil) .nil) (.node (o159 P) .nil .nil)))) (.node (o45 P) (.node (o57 P) (.node (o73 P) (.node (o107 P) (.node (o171 P) .nil .nil) .nil) (.node (o139 P) .nil .nil)) (.node (o89 P) (.node (o123 P) (.node (o187 P) .nil .nil) .nil) (.node (o155 P) .nil .nil))) (.node (o65 P) (.node (o81 P) (.node (o115 P) (.node (o179 P) .nil .nil) .nil) (.node (o147 P) .nil .nil)) (.node (o97 P) (.node (o131 P) .nil .nil) (.node (o163 P) .nil .nil)))))) (.node (W.boot_o_2 P) (.node (W.boot_o_4 P) (.node (W.boot_o_8 P) (.node (o52 P) (.node (o68 P) (.node (o102 P) (.node (o166 P) .nil .nil) .nil) (.node (o134 P) .nil .nil)) (.node (o84 P) (.node (o118 P) (.node (o182 P) .nil .nil) .nil) (.node (o150 P) .nil .nil))) (.node (o60 P) (.node (o76 P) (.node (o110 P) (.node (o174 P) .nil .nil) .nil) (.node (o142 P) .nil .nil)) (.node (o92 P) (.node (o126 P) (.node (o190 P) .nil .nil) .nil) (.node (o158 P) .nil .nil)))) (.node (o101 P) (.node (o56 P) (.node (o72 P) (.node (o106 P) (.node (o170 P) .nil .nil) .nil) (.node (o138 P) .nil .nil)) (.node (o88 P) (.node (o122 P) (.node (o186 P) .nil .nil) .nil) (.node (o154 P) .nil .nil))) (.node (o64 P) (.node (o80 P) (.node (o114 P) (.node (o178 P) .nil .nil) .nil) (.node (o146 P) .nil .nil)) (.node (o96 P) (.node (o130 P) .nil .nil) (.node (o162 P) .nil .nil))))) (.node (W.boot_o_6 P) (.node (W.boot_o_10 P) (.node (o54 P) (.node (o70 P) (.node (o104 P) (.node (o168 P) .nil .nil) .nil) (.node (o136 P) .nil .nil)) (.node (o86 P) (.node (o120 P) (.node (o184 P) .nil .nil) .nil) (.node (o152 P) .nil .nil))) (.node (o62 P) (.node (o78 P) (.node (o112 P) (.node (o176 P) .nil .nil) .nil) (.node (o144 P) .nil .nil)) (.node (o94 P) (.node (o128 P) (.node (o192 P) .nil .nil) .nil) (.node (o160 P) .nil .nil)))) (.node (o46 P) (.node (o58 P) (.node (o74 P) (.node (o108 P) (.node (o172 P) .nil .nil) .nil) (.node (o140 P) .nil .nil)) (.node (o90 P) (.node (o124 P) (.node (o188 P) .nil .nil) .nil) (.node (o156 P) .nil .nil))) (.node (o66 P) (.node (o82 P) (.node (o116 P) (.node (o180 P) .nil .nil) .nil) (.node (o148 P) .nil .nil)) (.node (o98 P) (.node (o132 P) .nil .nil) (.node (o164 P) .nil .nil)))))))
noncomputable def t2 (P : Params) : BT := (.node (W.boot_o_0 P) (.node (W.boot_o_1 P) (.node (o267 P) (.node (W.boot_o_7 P) (.node (o51 P) (.node (o67 P) (.node (o99 P) (.node (o165 P) (.node (o299 P) .nil .nil) .nil) (.node (o233 P) .nil .nil)) (.node (o133 P) (.node (o201 P) .nil .nil) (.node (o265 P) .nil .nil))) (.node (o83 P) (.node (o117 P) (.node (o181 P) .nil .nil) (.node (o249 P) .nil .nil)) (.node (o149 P) (.node (o217 P) .nil .nil) (.node (o283 P) .nil .nil)))) (.node (o59 P) (.node (o75 P) (.node (o109 P) (.node (o173 P) .nil .nil) (.node (o241 P) .nil .nil)) (.node (o141 P) (.node (o209 P) .nil .nil) (.node (o275 P) .nil .nil))) (.node (o91 P) (.node (o125 P) (.node (o189 P) .nil .nil) (.node (o257 P) .nil .nil)) (.node (o157 P) (.node (o225 P) .nil .nil) (.node (o291 P) .nil .nil))))) (.node (o43 P) (.node (o55 P) (.node (o71 P) (.node (o105 P) (.node (o169 P) (.node (o303 P) .nil .nil) .nil) (.node (o237 P) .nil .nil)) (.node (o137 P) (.node (o205 P) .nil .nil) (.node (o271 P) .nil .nil))) (.node (o87 P) (.node (o121 P) (.node (o185 P) .nil .nil) (.node (o253 P) .nil .nil)) (.node (o153 P) (.node (o221 P) .nil .nil) (.node (o287 P) .nil .nil)))) (.node (o63 P) (.node (o79 P) (.node (o113 P) (.node (o177 P) .nil .nil) (.node (o245 P) .nil .nil)) (.node (o145 P) (.node (o213 P) .nil .nil) (.node (o279 P) .nil .nil))) (.node (o95 P) (.node (o129 P) (.node (o197 P) .nil .nil) (.node (o261 P) .nil .nil)) (.node (o161 P) (.node (o229 P) .nil .nil) (.node (o295 P) .nil .nil)))))) (.node (W.boot_o_5 P) (.node (W.boot_o_9 P) (.node (o53 P) (.node (o69 P) (.node (o103 P) (.node (o167 P) (.node (o301 P) .nil .nil) .nil) (.node (o235 P) .nil .nil)) (.node (o135 P) (.node (o203 P) .nil .nil) (.node (o269 P) .nil .nil))) (.node (o85 P) (.node (o119 P) (.node (o183 P) .nil .nil) (.node (o251 P) .nil .nil)) (.node (o151 P) (.node (o219 P) .nil .nil) (.node (o285 P) .nil .nil)))) (.node (o61 P) (.node (o77 P) (.node (o111 P) (.node (o175 P) .nil .nil) (.node (o243 P) .nil .nil)) (.node (o143 P) (.node (o211 P) .nil .nil) (.node (o277 P) .nil .nil))) (.node (o93 P) (.node (o127 P) (.node (o191 P) .nil .nil) (.node (o259 P) .nil .nil)) (.node (o159 P) (.node (o227 P) .nil .nil) (.node (o293 P) .nil .nil))))) (.node (o45 P) (.node (o57 P) (.node (o73 P) (.node (o107 P) (.node (o171 P) .nil .nil) (.node (o239 P) .nil .nil)) (.node (o139 P) (.node (o207 P) .nil .nil) (.node (o273 P) .nil .nil))) (.node (o89 P) (.node (o123 P) (.node (o187 P) .nil .nil) (.node (o255 P) .nil .nil)) (.node (o155 P) (.node (o223 P) .nil .nil) (.node (o289 P) .nil .nil)))) (.node (o65 P) (.node (o81 P) (.node (o115 P) (.node (o179 P) .nil .nil) (.node (o247 P) .nil .nil)) (.node (o147 P) (.node (o215 P) .nil .nil) (.node (o281 P) .nil .nil))) (.node (o97 P) (.node (o131 P) (.node (o199 P) .nil .nil) (.node (o263 P) .nil .nil)) (.node (o163 P) (.node (o231 P) .nil .nil) (.node (o297 P) .nil .nil))))))) (.node (W.boot_o_2 P) (.node (W.boot_o_4 P) (.node (W.boot_o_8 P) (.node (o52 P) (.node (o68 P) (.node (o102 P) (.node (o166 P) (.node (o300 P) .nil .nil) .nil) (.node (o234 P) .nil .nil)) (.node (o134 P) (.node (o202 P) .nil .nil) (.node (o266 P) .nil .nil))) (.node (o84 P) (.node (o118 P) (.node (o182 P) .nil .nil) (.node (o250 P) .nil .nil)) (.node (o150 P) (.node (o218 P) .nil .nil) (.node (o284 P) .nil .nil)))) (.node (o60 P) (.node (o76 P) (.node (o110 P) (.node (o174 P) .nil .nil) (.node (o242 P) .nil .nil)) (.node (o142 P) (.node (o210 P) .nil .nil) (.node (o276 P) .nil .nil))) (.node (o92 P) (.node (o126 P) (.node (o190 P) .nil .nil) (.node (o258 P) .nil .nil)) (.node (o158 P) (.node (o226 P) .nil .nil) (.node (o292 P) .nil .nil))))) (.node (o268 P) (.node (o56 P) (.node (o72 P) (.node (o106 P) (.node (o170 P) .nil .nil) (.node (o238 P) .nil .nil)) (.node (o138 P) (.node (o206 P) .nil .nil) (.node (o272 P) .nil .nil))) (.node (o88 P) (.node (o122 P) (.node (o186 P) .nil .nil) (.node (o254 P) .nil .nil)) (.node (o154 P) (.node (o222 P) .nil .nil) (.node (o288 P) .nil .nil)))) (.node (o64 P) (.node (o80 P) (.node (o114 P) (.node (o178 P) .nil .nil) (.node (o246 P) .nil .nil)) (.node (o146 P) (.node (o214 P) .nil .nil) (.node (o280 P) .nil .nil))) (.node (o96 P) (.node (o130 P) (.node (o198 P) .nil .nil) (.node (o262 P) .nil .nil)) (.node (o162 P) (.node (o230 P) .nil .nil) (.node (o296 P) .nil .nil)))))) (.node (W.boot_o_6 P) (.node (W.boot_o_10 P) (.node (o54 P) (.node (o70 P) (.node (o104 P) (.node (o168 P) (.node (o302 P) .nil .nil) .nil) (.node (o236 P) .nil .nil)) (.node (o136 P) (.node (o204 P) .nil .nil) (.node (o270 P) .nil .nil))) (.node (o86 P) (.node (o120 P) (.node (o184 P) .nil .nil) (.node (o252 P) .nil .nil)) (.node (o152 P) (.node (o220 P) .nil .nil) (.node (o286 P) .nil .nil)))) (.node (o62 P) (.node (o78 P) (.node (o112 P) (.node (o176 P) .nil .nil) (.node (o244 P) .nil .nil)) (.node (o144 P) (.node (o212 P) .nil .nil) (.node (o278 P) .nil .nil))) (.node (o94 P) (.node (o128 P) (.node (o192 P) .nil .nil) (.node (o260 P) .nil .nil)) (.node (o160 P) (.node (o228 P) .nil .nil) (.node (o294 P) .nil .nil))))) (.node (o46 P) (.node (o58 P) (.node (o74 P) (.node (o108 P) (.node (o172 P) .nil .nil) (.node (o240 P) .nil .nil)) (.node (o140 P) (.node (o208 P) .nil .nil) (.node (o274 P) .nil .nil))) (.node (o90 P) (.node (o124 P) (.node (o188 P) .nil .nil) (.node (o256 P) .nil .nil)) (.node (o156 P) (.node (o224 P) .nil .nil) (.node (o290 P) .nil .nil)))) (.node (o66 P) (.node (o82 P) (.node (o116 P) (.node (o180 P) .nil .nil) (.node (o248 P) .nil .nil)) (.node (o148 P) (.node (o216 P) .nil .nil) (.node (o282 P) .nil .nil))) (.node (o98 P) (.node (o132 P) (.node (o200 P) .nil .nil) (.node (o264 P) .nil .nil)) (.node (o164 P) (.node (o232 P) .nil .nil) (.node (o298 P) .nil .nil))))))))
noncomputable def t3 (P : Params) : BT := (.node (W.boot_o_0 P) (.node (W.boot_o_1 P) (.node (o304 P) (.node (W.boot_o_7 P) (.node (o51 P) (.node (o67 P) (.node (o99 P) (.node (o165 P) (.node (o306 P) .nil .nil) .nil) (.node (o233 P) (.node (o366 P) .nil .nil) .nil)) (.node (o133 P) (.node (o201 P) (.node (o334 P) .nil .nil) .nil) (.node (o265 P) (.node (o398 P) .nil .nil) .nil))) (.node (o83 P) (.node (o117 P) (.node (o181 P) (.node (o318 P) .nil .nil) .nil) (.node (o249 P) (.node (o382 P) .nil .nil) .nil)) (.node (o149 P) (.node (o217 P) (.node (o350 P) .nil .nil) .nil) (.node (o283 P) .nil .nil)))) (.node (o59 P) (.node (o75 P) (.node (o109 P) (.node (o173 P) (.node (o310 P) .nil .nil) .nil) (.node (o241 P) (.node (o374 P) .nil .nil) .nil)) (.node (o141 P) (.node (o209 P) (.node (o342 P) .nil .nil) .nil) (.node (o275 P) (.node (o406 P) .nil .nil) .nil))) (.node (o91 P) (.node (o125 P) (.node (o189 P) (.node (o326 P) .nil .nil) .nil) (.node (o257 P) (.node (o390 P) .nil .nil) .nil)) (.node (o157 P) (.node (o225 P) (.node (o358 P) .nil .nil) .nil) (.node (o291 P) .nil .nil))))) (.node (o43 P) (.node (o55 P) (.node (o71 P) (.node (o105 P) (.node (o169 P) (.node (o303 P) .nil .nil) .nil) (.node (o237 P) (.node (o370 P) .nil .nil) .nil)) (.node (o137 P) (.node (o205 P) (.node (o338 P) .nil .nil) .nil) (.node (o271 P) (.node (o402 P) .nil .nil) .nil))) (.node (o87 P) (.node (o121 P) (.node (o185 P) (.node (o322 P) .nil .nil) .nil) (.node (o253 P) (.node (o386 P) .nil .nil) .nil)) (.node (o153 P) (.node (o221 P) (.node (o354 P) .nil .nil) .nil) (.node (o287 P) .nil .nil)))) (.node (o63 P) (.node (o79 P) (.node (o113 P) (.node (o177 P) (.node (o314 P) .nil .nil) .nil) (.node (o245 P) (.node (o378 P) .nil .nil) .nil)) (.node (o145 P) (.node (o213 P) (.node (o346 P) .nil .nil) .nil) (.node (o279 P) (.node (o410 P) .nil .nil) .nil))) (.node (o95 P) (.node (o129 P) (.node (o197 P) (.node (o330 P) .nil .nil) .nil) (.node (o261 P) (.node (o394 P) .nil .nil) .nil)) (.node (o161 P) (.node (o229 P) (.node (o362 P) .nil .nil) .nil) (.node (o295 P) .nil .nil)))))) (.node (W.boot_o_5 P) (.node (W.boot_o_9 P) (.node (o53 P) (.node (o69 P) (.node (o103 P) (.node (o167 P) (.node (o301 P) .nil .nil) .nil) (.node (o235 P) (.node (o368 P) .nil .nil) .nil)) (.node (o135 P) (.node (o203 P) (.node (o336 P) .nil .nil) .nil) (.node (o269 P) (.node (o400 P) .nil .nil) .nil))) (.node (o85 P) (.node (o119 P) (.node (o183 P) (.node (o320 P) .nil .nil) .nil) (.node (o251 P) (.node (o384 P) .nil .nil) .nil)) (.node (o151 P) (.node (o219 P) (.node (o352 P) .nil .nil) .nil) (.node (o285 P) .nil .nil)))) (.node (o61 P) (.node (o77 P) (.node (o111 P) (.node (o175 P) (.node (o312 P) .nil .nil) .nil) (.node (o243 P) (.node (o376 P) .nil .nil) .nil)) (.node (o143 P) (.node (o211 P) (.node (o344 P) .nil .nil) .nil) (.node (o277 P) (.node (o408 P) .nil .nil) .nil))) (.node (o93 P) (.node (o127 P) (.node (o191 P) (.node (o328 P) .nil .nil) .nil) (.node (o259 P) (.node (o392 P) .nil .nil) .nil)) (.node (o159 P) (.node (o227 P) (.node (o360 P) .nil .nil) .nil) (.node (o293 P) .nil .nil))))) (.node (o45 P) (.node (o57 P) (.node (o73 P) (.node (o107 P) (.node (o171 P) (.node (o308 P) .nil .nil) .nil) (.node (o239 P) (.node (o372 P) .nil .nil) .nil)) (.node (o139 P) (.node (o207 P) (.node (o340 P) .nil .nil) .nil) (.node (o273 P) (.node (o404 P) .nil .nil) .nil))) (.node (o89 P) (.node (o123 P) (.node (o187 P) (.node (o324 P) .nil .nil) .nil) (.node (o255 P) (.node (o388 P) .nil .nil) .nil)) (.node (o155 P) (.node (o223 P) (.node (o356 P) .nil .nil) .nil) (.node (o289 P) .nil .nil)))) (.node (o65 P) (.node (o81 P) (.node (o115 P) (.node (o179 P) (.node (o316 P) .nil .nil) .nil) (.node (o247 P) (.node (o380 P) .nil .nil) .nil)) (.node (o147 P) (.node (o215 P) (.node (o348 P) .nil .nil) .nil) (.node (o281 P) .nil .nil))) (.node (o97 P) (.node (o131 P) (.node (o199 P) (.node (o332 P) .nil .nil) .nil) (.node (o263 P) (.node (o396 P) .nil .nil) .nil)) (.node (o163 P) (.node (o231 P) (.node (o364 P) .nil .nil) .nil) (.node (o297 P) .nil .nil))))))) (.node (W.boot_o_2 P) (.node (W.boot_o_4 P) (.node (W.boot_o_8 P) (.node (o52 P) (.node (o68 P) (.node (o102 P) (.node (o166 P) (.node (o300 P) .nil .nil) .nil) (.node (o234 P) (.node (o367 P) .nil .nil) .nil)) (.node (o134 P) (.node (o202 P) (.node (o335 P) .nil .nil) .nil) (.node (o266 P) (.node (o399 P) .nil .nil) .nil))) (.node (o84 P) (.node (o118 P) (.node (o182 P) (.node (o319 P) .nil .nil) .nil) (.node (o250 P) (.node (o383 P) .nil .nil) .nil)) (.node (o150 P) (.node (o218 P) (.node (o351 P) .nil .nil) .nil) (.node (o284 P) .nil .nil)))) (.node (o60 P) (.node (o76 P) (.node (o110 P) (.node (o174 P) (.node (o311 P) .nil .nil) .nil) (.node (o242 P) (.node (o375 P) .nil .nil) .nil)) (.node (o142 P) (.node (o210 P) (.node (o343 P) .nil .nil) .nil) (.node (o276 P) (.node (o407 P) .nil .nil) .nil))) (.node (o92 P) (.node (o126 P) (.node (o190 P) (.node (o327 P) .nil .nil) .nil) (.node (o258 P) (.node (o391 P) .nil .nil) .nil)) (.node (o158 P) (.node (o226 P) (.node (o359 P) .nil .nil) .nil) (.node (o292 P) .nil .nil))))) (.node (o305 P) (.node (o56 P) (.node (o72 P) (.node (o106 P) (.node (o170 P) (.node (o307 P) .nil .nil) .nil) (.node (o238 P) (.node (o371 P) .nil .nil) .nil)) (.node (o138 P) (.node (o206 P) (.node (o339 P) .nil .nil) .nil) (.node (o272 P) (.node (o403 P) .nil .nil) .nil))) (.node (o88 P) (.node (o122 P) (.node (o186 P) (.node (o323 P) .nil .nil) .nil) (.node (o254 P) (.node (o387 P) .nil .nil) .nil)) (.node (o154 P) (.node (o222 P) (.node (o355 P) .nil .nil) .nil) (.node (o288 P) .nil .nil)))) (.node (o64 P) (.node (o80 P) (.node (o114 P) (.node (o178 P) (.node (o315 P) .nil .nil) .nil) (.node (o246 P) (.node (o379 P) .nil .nil) .nil)) (.node (o146 P) (.node (o214 P) (.node (o347 P) .nil .nil) .nil) (.node (o280 P) .nil .nil))) (.node (o96 P) (.node (o130 P) (.node (o198 P) (.node (o331 P) .nil .nil) .nil) (.node (o262 P) (.node (o395 P) .nil .nil) .nil)) (.node (o162 P) (.node (o230 P) (.node (o363 P) .nil .nil) .nil) (.node (o296 P) .nil .nil)))))) (.node (W.boot_o_6 P) (.node (W.boot_o_10 P) (.node (o54 P) (.node (o70 P) (.node (o104 P) (.node (o168 P) (.node (o302 P) .nil .nil) .nil) (.node (o236 P) (.node (o369 P) .nil .nil) .nil)) (.node (o136 P) (.node (o204 P) (.node (o337 P) .nil .nil) .nil) (.node (o270 P) (.node (o401 P) .nil .nil) .nil))) (.node (o86 P) (.node (o120 P) (.node (o184 P) (.node (o321 P) .nil .nil) .nil) (.node (o252 P) (.node (o385 P) .nil .nil) .nil)) (.node (o152 P) (.node (o220 P) (.node (o353 P) .nil .nil) .nil) (.node (o286 P) .nil .nil)))) (.node (o62 P) (.node (o78 P) (.node (o112 P) (.node (o176 P) (.node (o313 P) .nil .nil) .nil) (.node (o244 P) (.node (o377 P) .nil .nil) .nil)) (.node (o144 P) (.node (o212 P) (.node (o345 P) .nil .nil) .nil) (.node (o278 P) (.node (o409 P) .nil .nil) .nil))) (.node (o94 P) (.node (o128 P) (.node (o192 P) (.node (o329 P) .nil .nil) .nil) (.node (o260 P) (.node (o393 P) .nil .nil) .nil)) (.node (o160 P) (.node (o228 P) (.node (o361 P) .nil .nil) .nil) (.node (o294 P) .nil .nil))))) (.node (o46 P) (.node (o58 P) (.node (o74 P) (.node (o108 P) (.node (o172 P) (.node (o309 P) .nil .nil) .nil) (.node (o240 P) (.node (o373 P) .nil .nil) .nil)) (.node (o140 P) (.node (o208 P) (.node (o341 P) .nil .nil) .nil) (.node (o274 P) (.node (o405 P) .nil .nil) .nil))) (.node (o90 P) (.node (o124 P) (.node (o188 P) (.node (o325 P) .nil .nil) .nil) (.node (o256 P) (.node (o389 P) .nil .nil) .nil)) (.node (o156 P) (.node (o224 P) (.node (o357 P) .nil .nil) .nil) (.node (o290 P) .nil .nil)))) (.node (o66 P) (.node (o82 P) (.node (o116 P) (.node (o180 P) (.node (o317 P) .nil .nil) .nil) (.node (o248 P) (.node (o381 P) .nil .nil) .nil)) (.node (o148 P) (.node (o216 P) (.node (o349 P) .nil .nil) .nil) (.node (o282 P) .nil .nil))) (.node (o98 P) (.node (o132 P) (.node (o200 P) (.node (o333 P) .nil .nil) .nil) (.node (o264 P) (.node (o397 P) .nil .nil) .nil)) (.node (o164 P) (.node (o232 P) (.node (o365 P) .nil .nil) .nil) (.node (o298 P) .nil .nil))))))))
noncomputable def t4 (P : Params) : BT := (.node (W.boot_o_0 P) (.node (W.boot_o_1 P) (.node (o636 P) (.node (W.boot_o_7 P) (.node (o51 P) (.node (o67 P) (.node (o99 P) (.node (o165 P) (.node (o306 P) (.node (o654 P) .nil .nil) .nil) (.node (o522 P) .nil .nil)) (.node (o233 P) (.node (o366 P) .nil .nil) (.node (o588 P) .nil .nil))) (.node (o133 P) (.node (o201 P) (.node (o334 P) .nil .nil) (.node (o556 P) .nil .nil)) (.node (o265 P) (.node (o398 P) .nil .nil) (.node (o620 P) .nil .nil)))) (.node (o83 P) (.node (o117 P) (.node (o181 P) (.node (o318 P) .nil .nil) (.node (o538 P) .nil .nil)) (.node (o249 P) (.node (o382 P) .nil .nil) (.node (o604 P) .nil .nil))) (.node (o149 P) (.node (o217 P) (.node (o350 P) .nil .nil) (.node (o572 P) .nil .nil)) (.node (o283 P) (.node (o506 P) .nil .nil) (.node (o638 P) .nil .nil))))) (.node (o59 P) (.node (o75 P) (.node (o109 P) (.node (o173 P) (.node (o310 P) .nil .nil) (.node (o530 P) .nil .nil)) (.node (o241 P) (.node (o374 P) .nil .nil) (.node (o596 P) .nil .nil))) (.node (o141 P) (.node (o209 P) (.node (o342 P) .nil .nil) (.node (o564 P) .nil .nil)) (.node (o275 P) (.node (o406 P) .nil .nil) (.node (o628 P) .nil .nil)))) (.node (o91 P) (.node (o125 P) (.node (o189 P) (.node (o326 P) .nil .nil) (.node (o546 P) .nil .nil)) (.node (o257 P) (.node (o390 P) .nil .nil) (.node (o612 P) .nil .nil))) (.node (o157 P) (.node (o225 P) (.node (o358 P) .nil .nil) (.node (o580 P) .nil .nil)) (.node (o291 P) (.node (o514 P) .nil .nil) (.node (o646 P) .nil .nil)))))) (.node (o43 P) (.node (o55 P) (.node (o71 P) (.node (o105 P) (.node (o169 P) (.node (o303 P) .nil .nil) (.node (o526 P) .nil .nil)) (.node (o237 P) (.node (o370 P) .nil .nil) (.node (o592 P) .nil .nil))) (.node (o137 P) (.node (o205 P) (.node (o338 P) .nil .nil) (.node (o560 P) .nil .nil)) (.node (o271 P) (.node (o402 P) .nil .nil) (.node (o624 P) .nil .nil)))) (.node (o87 P) (.node (o121 P) (.node (o185 P) (.node (o322 P) .nil .nil) (.node (o542 P) .nil .nil)) (.node (o253 P) (.node (o386 P) .nil .nil) (.node (o608 P) .nil .nil))) (.node (o153 P) (.node (o221 P) (.node (o354 P) .nil .nil) (.node (o576 P) .nil .nil)) (.node (o287 P) (.node (o510 P) .nil .nil) (.node (o642 P) .nil .nil))))) (.node (o63 P) (.node (o79 P) (.node (o113 P) (.node (o177 P) (.node (o314 P) .nil .nil) (.node (o534 P) .nil .nil)) (.node (o245 P) (.node (o378 P) .nil .nil) (.node (o600 P) .nil .nil))) (.node (o145 P) (.node (o213 P) (.node (o346 P) .nil .nil) (.node (o568 P) .nil .nil)) (.node (o279 P) (.node (o410 P) .nil .nil) (.node (o632 P) .nil .nil)))) (.node (o95 P) (.node (o129 P) (.node (o197 P) (.node (o330 P) .nil .nil) (.node (o550 P) .nil .nil)) (.node (o261 P) (.node (o394 P) .nil .nil) (.node (o616 P) .nil .nil))) (.node (o161 P) (.node (o229 P) (.node (o362 P) .nil .nil) (.node (o584 P) .nil .nil)) (.node (o295 P) (.node (o518 P) .nil .nil) (.node (o650 P) .nil .nil))))))) (.node (W.boot_o_5 P) (.node (W.boot_o_9 P) (.node (o53 P) (.node (o69 P) (.node (o103 P) (.node (o167 P) (.node (o301 P) .nil .nil) (.node (o524 P) .nil .nil)) (.node (o235 P) (.node (o368 P) .nil .nil) (.node (o590 P) .nil .nil))) (.node (o135 P) (.node (o203 P) (.node (o336 P) .nil .nil) (.node (o558 P) .nil .nil)) (.node (o269 P) (.node (o400 P) .nil .nil) (.node (o622 P) .nil .nil)))) (.node (o85 P) (.node (o119 P) (.node (o183 P) (.node (o320 P) .nil .nil) (.node (o540 P) .nil .nil)) (.node (o251 P) (.node (o384 P) .nil .nil) (.node (o606 P) .nil .nil))) (.node (o151 P) (.node (o219 P) (.node (o352 P) .nil .nil) (.node (o574 P) .nil .nil)) (.node (o285 P) (.node (o508 P) .nil .nil) (.node (o640 P) .nil .nil))))) (.node (o61 P) (.node (o77 P) (.node (o111 P) (.node (o175 P) (.node (o312 P) .nil .nil) (.node (o532 P) .nil .nil)) (.node (o243 P) (.node (o376 P) .nil .nil) (.node (o598 P) .nil .nil))) (.node (o143 P) (.node (o211 P) (.node (o344 P) .nil .nil) (.node (o566 P) .nil .nil)) (.node (o277 P) (.node (o408 P) .nil .nil) (.node (o630 P) .nil .nil)))) (.node (o93 P) (.node (o127 P) (.node (o191 P) (.node (o328 P) .nil .nil) (.node (o548 P) .nil .nil)) (.node (o259 P) (.node (o392 P) .nil .nil) (.node (o614 P) .nil .nil))) (.node (o159 P) (.node (o227 P) (.node (o360 P) .nil .nil) (.node (o582 P) .nil .nil)) (.node (o293 P) (.node (o516 P) .nil .nil) (.node (o648 P) .nil .nil)))))) (.node (o45 P) (.node (o57 P) (.node (o73 P) (.node (o107 P) (.node (o171 P) (.node (o308 P) .nil .nil) (.node (o528 P) .nil .nil)) (.node (o239 P) (.node (o372 P) .nil .nil) (.node (o594 P) .nil .nil))) (.node (o139 P) (.node (o207 P) (.node (o340 P) .nil .nil) (.node (o562 P) .nil .nil)) (.node (o273 P) (.node (o404 P) .nil .nil) (.node (o626 P) .nil .nil)))) (.node (o89 P) (.node (o123 P) (.node (o187 P) (.node (o324 P) .nil .nil) (.node (o544 P) .nil .nil)) (.node (o255 P) (.node (o388 P) .nil .nil) (.node (o610 P) .nil .nil))) (.node (o155 P) (.node (o223 P) (.node (o356 P) .nil .nil) (.node (o578 P) .nil .nil)) (.node (o289 P) (.node (o512 P) .nil .nil) (.node (o644 P) .nil .nil))))) (.node (o65 P) (.node (o81 P) (.node (o115 P) (.node (o179 P) (.node (o316 P) .nil .nil) (.node (o536 P) .nil .nil)) (.node (o247 P) (.node (o380 P) .nil .nil) (.node (o602 P) .nil .nil))) (.node (o147 P) (.node (o215 P) (.node (o348 P) .nil .nil) (.node (o570 P) .nil .nil)) (.node (o281 P) (.node (o504 P) .nil .nil) (.node (o634 P) .nil .nil)))) (.node (o97 P) (.node (o131 P) (.node (o199 P) (.node (o332 P) .nil .nil) (.node (o554 P) .nil .nil)) (.node (o263 P) (.node (o396 P) .nil .nil) (.node (o618 P) .nil .nil))) (.node (o163 P) (.node (o231 P) (.node (o364 P) .nil .nil) (.node (o586 P) .nil .nil)) (.node (o297 P) (.node (o520 P) .nil .nil) (.node (o652 P) .nil .nil)))))))) (.node (o500 P) (.node (W.boot_o_4 P) (.node (W.boot_o_8 P) (.node (o52 P) (.node (o68 P) (.node (o102 P) (.node (o166 P) (.node (o300 P) .nil .nil) (.node (o523 P) .nil .nil)) (.node (o234 P) (.node (o367 P) .nil .nil) (.node (o589 P) .nil .nil))) (.node (o134 P) (.node (o202 P) (.node (o335 P) .nil .nil) (.node (o557 P) .nil .nil)) (.node (o266 P) (.node (o399 P) .nil .nil) (.node (o621 P) .nil .nil)))) (.node (o84 P) (.node (o118 P) (.node (o182 P) (.node (o319 P) .nil .nil) (.node (o539 P) .nil .nil)) (.node (o250 P) (.node (o383 P) .nil .nil) (.node (o605 P) .nil .nil))) (.node (o150 P) (.node (o218 P) (.node (o351 P) .nil .nil) (.node (o573 P) .nil .nil)) (.node (o284 P) (.node (o507 P) .nil .nil) (.node (o639 P) .nil .nil))))) (.node (o60 P) (.node (o76 P) (.node (o110 P) (.node (o174 P) (.node (o311 P) .nil .nil) (.node (o531 P) .nil .nil)) (.node (o242 P) (.node (o375 P) .nil .nil) (.node (o597 P) .nil .nil))) (.node (o142 P) (.node (o210 P) (.node (o343 P) .nil .nil) (.node (o565 P) .nil .nil)) (.node (o276 P) (.node (o407 P) .nil .nil) (.node (o629 P) .nil .nil)))) (.node (o92 P) (.node (o126 P) (.node (o190 P) (.node (o327 P) .nil .nil) (.node (o547 P) .nil .nil)) (.node (o258 P) (.node (o391 P) .nil .nil) (.node (o613 P) .nil .nil))) (.node (o158 P) (.node (o226 P) (.node (o359 P) .nil .nil) (.node (o581 P) .nil .nil)) (.node (o292 P) (.node (o515 P) .nil .nil) (.node (o647 P) .nil .nil)))))) (.node (o637 P) (.node (o56 P) (.node (o72 P) (.node (o106 P) (.node (o170 P) (.node (o307 P) .nil .nil) (.node (o527 P) .nil .nil)) (.node (o238 P) (.node (o371 P) .nil .nil) (.node (o593 P) .nil .nil))) (.node (o138 P) (.node (o206 P) (.node (o339 P) .nil .nil) (.node (o561 P) .nil .nil)) (.node (o272 P) (.node (o403 P) .nil .nil) (.node (o625 P) .nil .nil)))) (.node (o88 P) (.node (o122 P) (.node (o186 P) (.node (o323 P) .nil .nil) (.node (o543 P) .nil .nil)) (.node (o254 P) (.node (o387 P) .nil .nil) (.node (o609 P) .nil .nil))) (.node (o154 P) (.node (o222 P) (.node (o355 P) .nil .nil) (.node (o577 P) .nil .nil)) (.node (o288 P) (.node (o511 P) .nil .nil) (.node (o643 P) .nil .nil))))) (.node (o64 P) (.node (o80 P) (.node (o114 P) (.node (o178 P) (.node (o315 P) .nil .nil) (.node (o535 P) .nil .nil)) (.node (o246 P) (.node (o379 P) .nil .nil) (.node (o601 P) .nil .nil))) (.node (o146 P) (.node (o214 P) (.node (o347 P) .nil .nil) (.node (o569 P) .nil .nil)) (.node (o280 P) (.node (o503 P) .nil .nil) (.node (o633 P) .nil .nil)))) (.node (o96 P) (.node (o130 P) (.node (o198 P) (.node (o331 P) .nil .nil) (.node (o553 P) .nil .nil)) (.node (o262 P) (.node (o395 P) .nil .nil) (.node (o617 P) .nil .nil))) (.node (o162 P) (.node (o230 P) (.node (o363 P) .nil .nil) (.node (o585 P) .nil .nil)) (.node (o296 P) (.node (o519 P) .nil .nil) (.node (o651 P) .nil .nil))))))) (.node (W.boot_o_6 P) (.node (W.boot_o_10 P) (.node (o54 P) (.node (o70 P) (.node (o104 P) (.node (o168 P) (.node (o302 P) .nil .nil) (.node (o525 P) .nil .nil)) (.node (o236 P) (.node (o369 P) .nil .nil) (.node (o591 P) .nil .nil))) (.node (o136 P) (.node (o204 P) (.node (o337 P) .nil .nil) (.node (o559 P) .nil .nil)) (.node (o270 P) (.node (o401 P) .nil .nil) (.node (o623 P) .nil .nil)))) (.node (o86 P) (.node (o120 P) (.node (o184 P) (.node (o321 P) .nil .nil) (.node (o541 P) .nil .nil)) (.node (o252 P) (.node (o385 P) .nil .nil) (.node (o607 P) .nil .nil))) (.node (o152 P) (.node (o220 P) (.node (o353 P) .nil .nil) (.node (o575 P) .nil .nil)) (.node (o286 P) (.node (o509 P) .nil .nil) (.node (o641 P) .nil .nil))))) (.node (o62 P) (.node (o78 P) (.node (o112 P) (.node (o176 P) (.node (o313 P) .nil .nil) (.node (o533 P) .nil .nil)) (.node (o244 P) (.node (o377 P) .nil .nil) (.node (o599 P) .nil .nil))) (.node (o144 P) (.node (o212 P) (.node (o345 P) .nil .nil) (.node (o567 P) .nil .nil)) (.node (o278 P) (.node (o409 P) .nil .nil) (.node (o631 P) .nil .nil)))) (.node (o94 P) (.node (o128 P) (.node (o192 P) (.node (o329 P) .nil .nil) (.node (o549 P) .nil .nil)) (.node (o260 P) (.node (o393 P) .nil .nil) (.node (o615 P) .nil .nil))) (.node (o160 P) (.node (o228 P) (.node (o361 P) .nil .nil) (.node (o583 P) .nil .nil)) (.node (o294 P) (.node (o517 P) .nil .nil) (.node (o649 P) .nil .nil)))))) (.node (o46 P) (.node (o58 P) (.node (o74 P) (.node (o108 P) (.node (o172 P) (.node (o309 P) .nil .nil) (.node (o529 P) .nil .nil)) (.node (o240 P) (.node (o373 P) .nil .nil) (.node (o595 P) .nil .nil))) (.node (o140 P) (.node (o208 P) (.node (o341 P) .nil .nil) (.node (o563 P) .nil .nil)) (.node (o274 P) (.node (o405 P) .nil .nil) (.node (o627 P) .nil .nil)))) (.node (o90 P) (.node (o124 P) (.node (o188 P) (.node (o325 P) .nil .nil) (.node (o545 P) .nil .nil)) (.node (o256 P) (.node (o389 P) .nil .nil) (.node (o611 P) .nil .nil))) (.node (o156 P) (.node (o224 P) (.node (o357 P) .nil .nil) (.node (o579 P) .nil .nil)) (.node (o290 P) (.node (o513 P) .nil .nil) (.node (o645 P) .nil .nil))))) (.node (o66 P) (.node (o82 P) (.node (o116 P) (.node (o180 P) (.node (o317 P) .nil .nil) (.node (o537 P) .nil .nil)) (.node (o248 P) (.node (o381 P) .nil .nil) (.node (o603 P) .nil .nil))) (.node (o148 P) (.node (o216 P) (.node (o349 P) .nil .nil) (.node (o571 P) .nil .nil)) (.node (o282 P) (.node (o505 P) .nil .nil) (.node (o635 P) .nil .nil)))) (.node (o98 P) (.node (o132 P) (.node (o200 P) (.node (o333 P) .nil .nil) (.node (o555 P) .nil .nil)) (.node (o264 P) (.node (o397 P) .nil .nil) (.node (o619 P) .nil .nil))) (.node (o164 P) (.node (o232 P) (.node (o365 P) .nil .nil) (.node (o587 P) .nil .nil)) (.node (o298 P) (.node (o521 P) .nil .nil) (.node (o653 P) .nil .nil)))))))))
noncomputable def hF (P : Params) : Heap := ⟨⟨[(W.boot_o_0 P), (W.boot_o_1 P), (o500 P), (o636 P), (W.boot_o_4 P), (W.boot_o_5 P), (W.boot_o_6 P), (W.boot_o_7 P), (W.boot_o_8 P), (W.boot_o_9 P), (W.boot_o_10 P), (o43 P), (o637 P), (o45 P), (o46 P), (o51 P), (o52 P), (o53 P), (o54 P), (o55 P), (o56 P), (o57 P), (o58 P), (o59 P), (o60 P), (o61 P), (o62 P), (o63 P), (o64 P), (o65 P), (o66 P), (o67 P), (o68 P), (o69 P), (o70 P), (o71 P), (o72 P), (o73 P), (o74 P), (o75 P), (o76 P), (o77 P), (o78 P), (o79 P), (o80 P), (o81 P), (o82 P), (o83 P), (o84 P), (o85 P), (o86 P), (o87 P), (o88 P), (o89 P), (o90 P), (o91 P), (o92 P), (o93 P), (o94 P), (o95 P), (o96 P), (o97 P), (o98 P), (o99 P), (o102 P), (o103 P), (o104 P), (o105 P), (o106 P), (o107 P), (o108 P), (o109 P), (o110 P), (o111 P), (o112 P), (o113 P), (o114 P), (o115 P), (o116 P), (o117 P), (o118 P), (o119 P), (o120 P), (o121 P), (o122 P), (o123 P), (o124 P), (o125 P), (o126 P), (o127 P), (o128 P), (o129 P), (o130 P), (o131 P), (o132 P), (o133 P), (o134 P), (o135 P), (o136 P), (o137 P), (o138 P), (o139 P), (o140 P), (o141 P), (o142 P), (o143 P), (o144 P), (o145 P), (o146 P), (o147 P), (o148 P), (o149 P), (o150 P), (o151 P), (o152 P), (o153 P), (o154 P), (o155 P), (o156 P), (o157 P), (o158 P), (o159 P), (o160 P), (o161 P), (o162 P), (o163 P), (o164 P), (o165 P), (o166 P), (o167 P), (o168 P), (o169 P), (o170 P), (o171 P), (o172 P), (o173 P), (o174 P), (o175 P), (o176 P), (o177 P), (o178 P), (o179 P), (o180 P), (o181 P), (o182 P), (o183 P), (o184 P), (o185 P), (o186 P), (o187 P), (o188 P), (o189 P), (o190 P), (o191 P), (o192 P), (o197 P), (o198 P), (o199 P), (o200 P), (o201 P), (o202 P), (o203 P), (o204 P), (o205 P), (o206 P), (o207 P), (o208 P), (o209 P), (o210 P), (o211 P), (o212 P), (o213 P), (o214 P), (o215 P), (o216 P), (o217 P), (o218 P), (o219 P), (o220 P), (o221 P), (o222 P), (o223 P), (o224 P), (o225 P), (o226 P), (o227 P), (o228 P), (o229 P), (o230 P), (o231 P), (o232 P), (o233 P), (o234 P), (o235 P), (o236 P), (o237 P), (o238 P), (o239 P), (o240 P), (o241 P), (o242 P), (o243 P), (o244 P), (o245 P), (o246 P), (o247 P), (o248 P), (o249 P), (o250 P), (o251 P), (o252 P), (o253 P), (o254 P), (o255 P), (o256 P), (o257 P), (o258 P), (o259 P), (o260 P), (o261 P), (o262 P), (o263 P), (o264 P), (o265 P), (o266 P), (o269 P), (o270 P), (o271 P), (o272 P), (o273 P), (o274 P), (o275 P), (o276 P), (o277 P), (o278 P), (o279 P), (o280 P), (o281 P), (o282 P), (o283 P), (o284 P), (o285 P), (o286 P), (o287 P), (o288 P), (o289 P), (o290 P), (o291 P), (o292 P), (o293 P), (o294 P), (o295 P), (o296 P), (o297 P), (o298 P), (o306 P), (o300 P), (o301 P), (o302 P), (o303 P), (o307 P), (o308 P), (o309 P), (o310 P), (o311 P), (o312 P), (o313 P), (o314 P), (o315 P), (o316 P), (o317 P), (o318 P), (o319 P), (o320 P), (o321 P), (o322 P), (o323 P), (o324 P), (o325 P), (o326 P), (o327 P), (o328 P), (o329 P), (o330 P), (o331 P), (o332 P), (o333 P), (o334 P), (o335 P), (o336 P), (o337 P), (o338 P), (o339 P), (o340 P), (o341 P), (o342 P), (o343 P), (o344 P), (o345 P), (o346 P), (o347 P), (o348 P), (o349 P), (o350 P), (o351 P), (o352 P), (o353 P), (o354 P), (o355 P), (o356 P), (o357 P), (o358 P), (o359 P), (o360 P), (o361 P), (o362 P), (o363 P), (o364 P), (o365 P), (o366 P), (o367 P), (o368 P), (o369 P), (o370 P), (o371 P), (o372 P), (o373 P), (o374 P), (o375 P), (o376 P), (o377 P), (o378 P), (o379 P), (o380 P), (o381 P), (o382 P), (o383 P), (o384 P), (o385 P), (o386 P), (o387 P), (o388 P), (o389 P), (o390 P), (o391 P), (o392 P), (o393 P), (o394 P), (o395 P), (o396 P), (o397 P), (o398 P), (o399 P), (o400 P), (o401 P), (o402 P), (o403 P), (o404 P), (o405 P), (o406 P), (o407 P), (o408 P), (o409 P), (o410 P), (o503 P), (o504 P), (o505 P), (o506 P), (o507 P), (o508 P), (o509 P), (o510 P), (o511 P), (o512 P), (o513 P), (o514 P), (o515 P), (o516 P), (o517 P), (o518 P), (o519 P), (o520 P), (o521 P), (o522 P), (o523 P), (o524 P), (o525 P), (o526 P), (o527 P), (o528 P), (o529 P), (o530 P), (o531 P), (o532 P), (o533 P), (o534 P), (o535 P), (o536 P), (o537 P), (o538 P), (o539 P), (o540 P), (o541 P), (o542 P), (o543 P), (o544 P), (o545 P), (o546 P), (o547 P), (o548 P), (o549 P), (o550 P), (o553 P), (o554 P), (o555 P), (o556 P), (o557 P), (o558 P), (o559 P), (o560 P), (o561 P), (o562 P), (o563 P), (o564 P), (o565 P), (o566 P), (o567 P), (o568 P), (o569 P), (o570 P), (o571 P), (o572 P), (o573 P), (o574 P), (o575 P), (o576 P), (o577 P), (o578 P), (o579 P), (o580 P), (o581 P), (o582 P), (o583 P), (o584 P), (o585 P), (o586 P), (o587 P), (o588 P), (o589 P), (o590 P), (o591 P), (o592 P), (o593 P), (o594 P), (o595 P), (o596 P), (o597 P), (o598 P), (o599 P), (o600 P), (o601 P), (o602 P), (o603 P), (o604 P), (o605 P), (o606 P), (o607 P), (o608 P), (o609 P), (o610 P), (o611 P), (o612 P), (o613 P), (o614 P), (o615 P), (o616 P), (o617 P), (o618 P), (o619 P), (o620 P), (o621 P), (o622 P), (o623 P), (o624 P), (o625 P), (o626 P), (o627 P), (o628 P), (o629 P), (o630 P), (o631 P), (o632 P), (o633 P), (o634 P), (o635 P), (o638 P), (o639 P), (o640 P), (o641 P), (o642 P), (o643 P), (o644 P), (o645 P), (o646 P), (o647 P), (o648 P), (o649 P), (o650 P), (o651 P), (o652 P), (o653 P), (o654 P)]⟩, ⟨[], [], [], 0, [], [], .false, ⟨[]⟩, [], 0, .false, .false, .false, 0, [2000, 10, 10], .false, 0, .true, [], [], 0, .false⟩⟩
noncomputable def view : Program := { pE with main := { pE.main with body := [0, 2, 4, 6, 8, 10, 12, 14, 15, 16, 17, 18, 19, 20, 21, 22, 24, 25, 26, 28, 29, 30, 31, 32, 33].map st } }
noncomputable def bE : List Stmt := behindTheImports pE
noncomputable def envE : Env := { scope := pE.main.scope, locals := mainNs, globals := mainNs, cells := [], code := .ref 13, frame := some 14 }
noncomputable abbrev cE : Code := .body (behindTheImports pE) envE
abbrev q0 : Pos := ⟨0, 0, 0, 0⟩
abbrev FB : List Frame := [topFrame q0]
abbrev sh (h : Heap) (os : OsState) (n : Nat) : Shared := ⟨h, ⟨[]⟩, {}, n, os⟩
abbrev shT (t : BT) (n k : Nat) (os : OsState) : SharedT := ⟨t, n, {}, ⟨[]⟩, {}, k, os⟩
noncomputable def s1 : List Stmt := bE.take 5
noncomputable def s2 : List Stmt := (bE.drop 5).take 5
noncomputable def s3 : List Stmt := (bE.drop 10).take 1
noncomputable def s4 : List Stmt := bE.drop 11
abbrev ann : Option Value := some (Value.ref 6)
set_option maxRecDepth 100000 in
set_option maxHeartbeats 8000000 in
theorem h_opening : opening pE = plainProg pE.main.scope.names := by intros; kernel_rfl
set_option maxRecDepth 100000 in
set_option maxHeartbeats 8000000 in
theorem h_fence : ∀ s : Shared, fenceModules? pE s = some s := by intros; kernel_rfl
set_option maxRecDepth 100000 in
set_option maxHeartbeats 8000000 in
theorem h_pre : ∀ (w : World) (os : OsState), topGo treeTable pE w 11 ann 12 ⟨boot_heap w.params, ⟨[]⟩, boot_drawn, boot_toks, os⟩ (topStub pE) = some (sh (hA w.params) os 187, ⟨denote treeTable cE, cE, q0, FB⟩) := by intros; kernel_rfl
set_option maxRecDepth 100000 in
set_option maxHeartbeats 8000000 in
theorem h_block : ∀ (w : World) (os : OsState), segRun treeTable pE w 11 ann 1 1 (sh (hA w.params) os 187) (blockOf (behindTheImports pE) envE cE q0 FB) = some (Flow.next, (shT (t0 w.params) 15 187 os).abs, cE, q0) := by intros; kernel_rfl
set_option maxRecDepth 100000 in
set_option maxHeartbeats 8000000 in
theorem h_s1 : ∀ (w : World) (os : OsState), segRunT treeTable pE w 11 ann 1 930 (shT (t0 w.params) 15 187 os) (piecesOf s1 envE cE q0 FB) = some (Flow.next, shT (t1 w.params) 155 377 os, cE, ⟨31, 0, 93, 16⟩) := by intros; kernel_rfl
set_option maxRecDepth 100000 in
set_option maxHeartbeats 8000000 in
theorem h_s2 : ∀ (w : World) (os : OsState), segRunT treeTable pE w 11 ann 1 780 (shT (t1 w.params) 155 377 os) (piecesOf s2 envE cE ⟨31, 0, 93, 16⟩ FB) = some (Flow.next, shT (t2 w.params) 260 523 os, cE, ⟨148, 0, 148, 8⟩) := by intros; kernel_rfl
set_option maxRecDepth 100000 in
set_option maxHeartbeats 8000000 in
theorem h_s3 : ∀ (w : World) (os : OsState), segRunT treeTable pE w 11 ann 1 650 (shT (t2 w.params) 260 523 os) (piecesOf s3 envE cE ⟨148, 0, 148, 8⟩ FB) = some (Flow.next, shT (t3 w.params) 364 660 os, cE, ⟨149, 0, 209, 41⟩) := by intros; kernel_rfl
set_option maxRecDepth 100000 in
set_option maxHeartbeats 8000000 in
theorem h_s4 : ∀ (w : World) (os : OsState), segRunT treeTable pE w 11 ann 1 870 (shT (t3 w.params) 364 660 os) (piecesOf s4 envE cE ⟨149, 0, 209, 41⟩ FB) = some (Flow.next, shT (t4 w.params) 512 886 os, cE, ⟨348, 0, 364, 82⟩) := by intros; kernel_rfl
set_option maxRecDepth 100000 in
set_option maxHeartbeats 8000000 in
theorem h_fin : ∀ (w : World) (os : OsState), topRun treeTable pE w 11 ann 2 (shT (t4 w.params) 512 886 os).abs ⟨doneF Flow.next, cE, ⟨348, 0, 364, 82⟩, FB⟩ = some (sh (hF w.params) os 886) := by intros; kernel_rfl
set_option maxRecDepth 100000 in
set_option maxHeartbeats 8000000 in
theorem h_body : behindTheImports pE = s1 ++ (s2 ++ (s3 ++ (s4 ++ []))) := by intros; kernel_rfl
set_option maxRecDepth 100000 in
set_option maxHeartbeats 8000000 in
theorem h_size : ∀ w : World, ((boot_heap w.params).isNs mainGlobals && (⟨[]⟩ : Array GenState).size == 0, (boot_heap w.params).objs.size, (boot_heap w.params).nsMap mainGlobals "__annotations__") = (true, 11, ann) := by intros; kernel_rfl
theorem h_run (w : World) (os : OsState) : topRun treeTable pE w 11 ann 3245 ⟨boot_heap w.params, ⟨[]⟩, boot_drawn, boot_toks, os⟩ (topStub pE) = some (sh (hF w.params) os 886) := by
  have e0 := piece_nil (env := envE) (h_fin w os)
  have e4 := piece_app (segRun_of (h_s4 w os)) e0
  have e3 := piece_app (segRun_of (h_s3 w os)) e4
  have e2 := piece_app (segRun_of (h_s2 w os)) e3
  have e1 := piece_app (segRun_of (h_s1 w os)) e2
  rw [← h_body] at e1
  have eb := piece_block (h_block w os) e1
  exact go_top (h_pre w os) eb
end Mine
end
section
open PySem PySem.W PyProof.Rows
namespace Mine
set_option maxRecDepth 100000 in
set_option maxHeartbeats 8000000 in
theorem h_l1 : ∀ (w : World) (os : OsState), (staticsOk (importedModules pE.main.body) (boot_heap w.params) (hF w.params) && namesBound pE (hF w.params) && gensDone (sh (hF w.params) os 886) && laidKept (boot_heap w.params) (hF w.params)) = true := by intros; kernel_rfl
abbrev ls : List Str := [Str.ofString "Buffer", Str.ofString "insert_at"]
noncomputable abbrev xt : Shared → Bool := fun s => xlAt view [] s && recOk (RowW.records PySem.Challenge.rw_oj0026_01.row.toRowW) s
set_option maxRecDepth 100000 in
set_option maxHeartbeats 8000000 in
theorem h_l2 : ∀ (w : World) (os : OsState), openSeen view ls (importedModules pE.main.body) xt true (sh (hF w.params) os 886) = openGood view ls := by intros; kernel_rfl
set_option maxRecDepth 100000 in
theorem h_left {α : Type} {Yf : Shared → α} {Ya : World → α} (e : ∀ (w : World) (os : OsState), Yf (sh (hF w.params) os 886) = Ya w) : LeftO pE view ls xt Yf Ya 6522 :=
  LeftO.of_pieces (boot_open h_opening rfl h_fence) h_size h_run rfl fun w => funext fun os => looks_pair (h_l1 w os) (looks_pair (h_l2 w os) (e w os))
end Mine
end
section
open PySem PySem.W PyProof.Rows
namespace Mine
set_option maxRecDepth 100000 in
set_option maxHeartbeats 8000000 in
theorem h_said : OpenLaw.wellSaid PySem.Challenge.rw_oj0026_01 = true := by kernel_rfl
set_option maxRecDepth 100000 in
set_option maxHeartbeats 8000000 in
theorem h_ok : (chainsOk view && opensWell PySem.Challenge.rw_oj0026_01.row.prog && (frees PySem.Challenge.rw_oj0026_01.row.toRowW && PySem.Challenge.rw_oj0026_01.row.within.isEmpty)) = true := by kernel_rfl
local macro_rules | `(tactic| o_law) => `(tactic| refine holds_law h_said fun said => ?_)
set_option hygiene false in
local macro_rules | `(tactic| o_head $H) => `(tactic| refine holds_open (q := view) (loose := ls) (Xt := xt) (XP := XL view []) (Yf := Hook.obs $H) (Ya := Hook.val $H) (YP := Hook.says $H) (N := 6522) (h_left (by intros; kernel_rfl)) (Hook.of $H) (Hook.keeps $H) (fun s e => xl_of s (Bool.and_eq_true_iff.mp e).1) XL.keeps (by rfl) (by rfl) (by rfl) (fun s e => recFacts_of (Bool.and_eq_true_iff.mp e).2) (by rfl) (by assumption) h_ok ⟨rfl, rfl, rfl, rfl, rfl, by decide +kernel⟩ ?hw ?hc)
set_option maxRecDepth 100000 in
set_option maxHeartbeats 8000000 in
open_top hd for PySem.Challenge.rw_oj0026_01
end Mine
end
section
open PySem PySem.W PySem.Spec PySem.Calls PyProof.Rows
namespace Mine
/-- no object of the ledger lies at d -/
def Off (d : Addr) (l : List (Addr × Obj)) : Prop := ∀ p ∈ l, p.1 ≠ d
theorem Off.all {d : Addr} {l : List (Addr × Obj)} (h : Off d l) : ∀ p ∈ l, p.1 ≠ d := h
theorem allLt_in {d : Addr} {l : List (Addr × Obj)} : AllLt d l → ∀ p ∈ l, p.1 < d := by
  induction l with
  | nil => intro _ p hp; exact nomatch hp
  | cons q r ih =>
    intro h p hp
    have h' : q.1 < d ∧ AllLt d r := h
    rcases List.mem_cons.mp hp with e | e
    · rw [e]; exact h'.1
    · exact ih h'.2 p e
theorem allLt_off {d : Addr} {l : List (Addr × Obj)} (h : AllLt d l) : ∀ p ∈ l, p.1 ≠ d := fun p hp => Nat.ne_of_lt (allLt_in h p hp)
theorem allLt_sub {d : Addr} {l l' : List (Addr × Obj)} (h : AllLt d l) (hs : ∀ p ∈ l', p ∈ l) : AllLt d l' := allLt_of fun p hp => allLt_in h p (hs p hp)
theorem lt_at {d a : Addr} {o : Obj} {l : List (Addr × Obj)} (h : AllLt d l) (hm : (a, o) ∈ l) : @LT.lt Nat _ a d := allLt_in h _ hm
theorem lt_head {d a : Addr} {o : Obj} {l : List (Addr × Obj)} (h : AllLt d ((a, o) :: l)) : @LT.lt Nat _ a d := allLt_in h _ (.head _)
theorem lt_second {d a : Addr} {o : Obj} {p : Addr × Obj} {l : List (Addr × Obj)} (h : AllLt d (p :: (a, o) :: l)) : @LT.lt Nat _ a d := allLt_in h _ (.tail _ (.head _))
/-- the fixed addresses of a law's call, in the order in which they were made -/
def AdrOk (D dB Bf dT G Cs dM M R Ls dG Lg Rw : Addr) : Prop :=
  @LT.lt Nat _ D dB ∧ @LT.lt Nat _ dB Bf ∧ @LT.lt Nat _ Bf dT ∧ @LT.lt Nat _ dT G ∧ @LT.lt Nat _ G Cs ∧ @LT.lt Nat _ Cs dM ∧ @LT.lt Nat _ dM M ∧ @LT.lt Nat _ M R ∧ @LT.lt Nat _ R Ls ∧ @LT.lt Nat _ Ls dG ∧ @LT.lt Nat _ dG Lg ∧ @LT.lt Nat _ Lg Rw
theorem lt_top {D dB Bf dT G Cs dM M R Ls dG Lg Rw : Addr} {d : Addr} {o : Obj} {l : List (Addr × Obj)} (_A : AdrOk D dB Bf dT G Cs dM M R Ls dG Lg Rw) (h : AllLt d l) (hm : (Rw, o) ∈ l) : @LT.lt Nat _ Rw d := allLt_in h _ hm
abbrev d0 : Obj := { cls := .none, data := .fields #[] }
theorem lts_snoc {d e : Addr} {o : Obj} (hde : @LT.lt Nat _ d e) : ∀ {l : List (Addr × Obj)}, AllLt d l → AllLt e (l ++ [(d, o)])
  | [], _ => ⟨hde, trivial⟩
  | _ :: _, h => ⟨Nat.lt_trans h.1 hde, lts_snoc hde h.2⟩
/-- the order, told as lists: for membership in place of arithmetic -/
theorem adr_lts {D dB Bf dT G Cs dM M R Ls dG Lg Rw : Addr} (A : AdrOk D dB Bf dT G Cs dM M R Ls dG Lg Rw) :
    AllLt dB [(D, d0)] ∧ AllLt Bf [(D, d0), (dB, d0)] ∧ AllLt dT [(D, d0), (dB, d0), (Bf, d0)] ∧ AllLt G [(D, d0), (dB, d0), (Bf, d0), (dT, d0)] ∧ AllLt Cs [(D, d0), (dB, d0), (Bf, d0), (dT, d0), (G, d0)] ∧
    AllLt dM [(D, d0), (dB, d0), (Bf, d0), (dT, d0), (G, d0), (Cs, d0)] ∧ AllLt M [(D, d0), (dB, d0), (Bf, d0), (dT, d0), (G, d0), (Cs, d0), (dM, d0)] ∧ AllLt R [(D, d0), (dB, d0), (Bf, d0), (dT, d0), (G, d0), (Cs, d0), (dM, d0), (M, d0)] ∧
    AllLt Ls [(D, d0), (dB, d0), (Bf, d0), (dT, d0), (G, d0), (Cs, d0), (dM, d0), (M, d0), (R, d0)] ∧ AllLt dG [(D, d0), (dB, d0), (Bf, d0), (dT, d0), (G, d0), (Cs, d0), (dM, d0), (M, d0), (R, d0), (Ls, d0)] ∧
    AllLt Lg [(D, d0), (dB, d0), (Bf, d0), (dT, d0), (G, d0), (Cs, d0), (dM, d0), (M, d0), (R, d0), (Ls, d0), (dG, d0)] ∧ AllLt Rw [(D, d0), (dB, d0), (Bf, d0), (dT, d0), (G, d0), (Cs, d0), (dM, d0), (M, d0), (R, d0), (Ls, d0), (dG, d0), (Lg, d0)] := by
  obtain ⟨a0, a1, a2, a3, a4, a5, a6, a7, a8, a9, a10, a11⟩ := A
  have h0 : AllLt dB [(D, d0)] := ⟨a0, trivial⟩
  have h1 := lts_snoc (o := d0) a1 h0
  have h2 := lts_snoc (o := d0) a2 h1
  have h3 := lts_snoc (o := d0) a3 h2
  have h4 := lts_snoc (o := d0) a4 h3
  have h5 := lts_snoc (o := d0) a5 h4
  have h6 := lts_snoc (o := d0) a6 h5
  have h7 := lts_snoc (o := d0) a7 h6
  have h8 := lts_snoc (o := d0) a8 h7
  have h9 := lts_snoc (o := d0) a9 h8
  have h10 := lts_snoc (o := d0) a10 h9
  have h11 := lts_snoc (o := d0) a11 h10
  exact ⟨h0, h1, h2, h3, h4, h5, h6, h7, h8, h9, h10, h11⟩
theorem ne_chain {a mid b : Addr} {o : Obj} {l : List (Addr × Obj)} (h2 : @LT.lt Nat _ mid b) (h : AllLt mid l) (hm : (a, o) ∈ l) : @Ne Nat a b := Nat.ne_of_lt (Nat.lt_trans (lt_at h hm) h2)
theorem ne_chain2 {a mid b : Addr} {o : Obj} {l : List (Addr × Obj)} (h2 : @LT.lt Nat _ mid b) (h : AllLt mid l) (hm : (a, o) ∈ l) : @Ne Nat b a := Nat.ne_of_gt (Nat.lt_trans (lt_at h hm) h2)
/-- nothing of the ledger lies at d (kept from omega's eyes) -/
def OffL (d : Addr) (l : List (Addr × Obj)) : Prop := ∀ p ∈ l, @Ne Nat p.1 d
theorem offL_of {d : Addr} {l : List (Addr × Obj)} : LCg.Off1 d l → OffL d l := by
  induction l with
  | nil => intro _ p hp; exact nomatch hp
  | cons q r ih =>
    intro h p hp
    have h' : @Ne Nat q.1 d ∧ LCg.Off1 d r := h
    rcases List.mem_cons.mp hp with e | e
    · rw [e]; exact h'.1
    · exact ih h'.2 p e
theorem offL_r {d a : Addr} {o : Obj} {l : List (Addr × Obj)} (h : OffL d l) (hm : (a, o) ∈ l) : @Ne Nat a d := h _ hm
theorem offL_l {d a : Addr} {o : Obj} {l : List (Addr × Obj)} (h : OffL d l) (hm : (a, o) ∈ l) : @Ne Nat d a := Ne.symm (h _ hm)
/-- several updates, one behind the other -/
inductive Upds : List (Addr × Obj × Obj) → List (Addr × Obj) → List (Addr × Obj) → Prop
  | nil {n} : Upds [] n n
  | cons {a o o' r n n1 n2} : Upd a o o' n n1 → Upds r n1 n2 → Upds ((a, o, o') :: r) n n2
theorem Upd.mem {d : Addr} {o o' : Obj} {l l' : List (Addr × Obj)} (U : Upd d o o' l l') : ∀ p ∈ l', p = (d, o') ∨ (p ∈ l ∧ p.1 ≠ d) := by
  obtain ⟨pre, post, rfl, rfl, h1, h2⟩ := U.split
  intro p hp
  rcases List.mem_append.mp hp with h | h
  · exact .inr ⟨List.mem_append_left _ h, h1 p h⟩
  · rcases List.mem_cons.mp h with rfl | h
    · exact .inl rfl
    · exact .inr ⟨List.mem_append_right _ (.tail _ h), h2 p h⟩
theorem Upds.mem : ∀ {us : List (Addr × Obj × Obj)} {l l' : List (Addr × Obj)}, Upds us l l' → ∀ p ∈ l', (∃ u ∈ us, p = (u.1, u.2.2)) ∨ (p ∈ l ∧ ∀ u ∈ us, p.1 ≠ u.1)
  | _, _, _, .nil, p, hp => .inr ⟨hp, fun _ h => nomatch h⟩
  | _, _, _, .cons (a := a) (o' := o') U r, p, hp => by
    rcases Upds.mem r p hp with ⟨u, hu, rfl⟩ | ⟨h, hn⟩
    · exact .inl ⟨u, .tail _ hu, rfl⟩
    · rcases Upd.mem U p h with rfl | ⟨h, hne⟩
      · exact .inl ⟨_, .head _, rfl⟩
      · refine .inr ⟨h, fun u hu => ?_⟩
        cases hu with
        | head => exact hne
        | tail _ hu => exact hn u hu
/-- the rest of a ledger behind a footprint -/
def restOf (foot : List Addr) (news : List (Addr × Obj)) : List (Addr × Obj) := news.filter fun p => !foot.contains p.1
theorem restOf_off {foot : List Addr} {news : List (Addr × Obj)} {a : Addr} (h : a ∈ foot) : Off a (restOf foot news) := fun p hp e => by
  have := (List.mem_filter.mp hp).2
  rw [e, List.contains_iff_mem.mpr h] at this
  cases this
theorem restOf_in {foot : List Addr} {news : List (Addr × Obj)} : ∀ p ∈ restOf foot news, p ∈ news := fun _ hp => (List.mem_filter.mp hp).1
theorem news_foot {h₀ h : Heap} {L : Addr} {foot news : List (Addr × Obj)} (N : News h₀ L h news) (hs : ∀ p ∈ foot, p ∈ news) : News h₀ L h (foot ++ restOf (foot.map (·.1)) news) := fun p hp => by
  rcases List.mem_append.mp hp with h | h
  · exact N p (hs p h)
  · exact N p (restOf_in p h)
theorem news_back {h₀ h : Heap} {L : Addr} {us : List (Addr × Obj × Obj)} {fresh news news' : List (Addr × Obj)} (U : Upds us news news')
    (N : News h₀ L h (fresh ++ us.map (fun u => (u.1, u.2.2)) ++ restOf (us.map (·.1)) news)) : News h₀ L h (fresh ++ news') := fun p hp => by
  rcases List.mem_append.mp hp with h | h
  · exact N p (List.mem_append_left _ (List.mem_append_left _ h))
  · rcases U.mem p h with ⟨u, hu, rfl⟩ | ⟨h, hn⟩
    · exact N _ (List.mem_append_left _ (List.mem_append_right _ (List.mem_map.mpr ⟨u, hu, rfl⟩)))
    · refine N _ (List.mem_append_right _ (List.mem_filter.mpr ⟨h, ?_⟩))
      cases q : (us.map (·.1)).contains p.1 with
      | false => rfl
      | true =>
        obtain ⟨u, hu, e⟩ := List.mem_map.mp (List.contains_iff_mem.mp q)
        exact absurd e.symm (hn u hu)
theorem lt_back {foot : List Addr} {news : List (Addr × Obj)} {q : Addr} (h1 : ∀ a ∈ foot, a < q) (h2 : AllLt q (restOf foot news)) : AllLt q news :=
  allLt_of fun p hp => by
    cases e : foot.contains p.1 with
    | true => exact h1 _ (List.contains_iff_mem.mp e)
    | false => exact allLt_in h2 p (List.mem_filter.mpr ⟨hp, by rw [e]; rfl⟩)
theorem news_sub {h₀ h : Heap} {L : Addr} {l l' : List (Addr × Obj)} (N : News h₀ L h l) (hs : ∀ p ∈ l', p ∈ l) : News h₀ L h l' := fun p hp => N p (hs p hp)
theorem news_cons {h₀ h : Heap} {L : Addr} {l big : List (Addr × Obj)} {p : Addr × Obj} (N1 : News h₀ L h l) (N : News h₀ L h big) (hm : p ∈ big) : News h₀ L h (p :: l) := fun q hq => by
  rcases List.mem_cons.mp hq with e | e
  · rw [e]; exact N p hm
  · exact N1 q e
theorem news_t1 {h₀ h : Heap} {L : Addr} {l : List (Addr × Obj)} {a : Addr × Obj} (N : News h₀ L h (a :: l)) : News h₀ L h l := fun p hp => N p (.tail _ hp)
theorem news_t2 {h₀ h : Heap} {L : Addr} {l : List (Addr × Obj)} {a b : Addr × Obj} (N : News h₀ L h (a :: b :: l)) : News h₀ L h l := news_t1 (news_t1 N)
section
variable {prog : Program} {w : World} {A : Around} {E : Value → Shared → Prop} {s : Shared} {h₀ : Heap} {L D : Addr} {m : Str → Option Value} {news news' : List (Addr × Obj)} {n : Nat}
theorem pop0 {y : Value} {q : List Value} {u : Tok} {Q : Value → Shared → Prop} (F : Fr h₀ L s.heap m) (N : News h₀ L s.heap news) (U : Upd D (listOf (y :: q).toArray n) (listOf q.toArray (n + 1)) news news')
    (hz : q.length < 1000) (h : ∀ h', Fr h₀ L h' m → News h₀ L h' news' → Q y { s with heap := h' }) : wpAny (model prog w) A (call (.builtin "list.pop") [.ref D, .int 0 u]) Q E s := by
  refine kl_popAt (p := []) (k := 0) F N (by decide) ?_ rfl U ?_ h
  · unfold seqIndex?; simp
  · rw [PySem.sizeLine_eq]; simp; omega
end
theorem memN {p : Addr × Obj} {l : List (Addr × Obj)} (h : p ∈ l) : p ∈ l := h
theorem mA0 {p : Addr × Obj} {l : List (Addr × Obj)} : p ∈ p :: l := .head _
theorem mA1 {p a : Addr × Obj} {l : List (Addr × Obj)} : p ∈ a :: p :: l := .tail _ mA0
theorem mA2 {p a b : Addr × Obj} {l : List (Addr × Obj)} : p ∈ a :: b :: p :: l := .tail _ mA1
theorem mA3 {p a b c : Addr × Obj} {l : List (Addr × Obj)} : p ∈ a :: b :: c :: p :: l := .tail _ mA2
theorem mA4 {p a b c d : Addr × Obj} {l : List (Addr × Obj)} : p ∈ a :: b :: c :: d :: p :: l := .tail _ mA3
theorem mA5 {p a b c d e : Addr × Obj} {l : List (Addr × Obj)} : p ∈ a :: b :: c :: d :: e :: p :: l := .tail _ mA4
theorem mAt {p a b c d e f : Addr × Obj} {l : List (Addr × Obj)} (h : p ∈ l) : p ∈ a :: b :: c :: d :: e :: f :: l := .tail _ (.tail _ (.tail _ (.tail _ (.tail _ (.tail _ h)))))
/-- what a contract gives back of the ledger -/
def NewsAll (h₀ : Heap) (L : Addr) (h : Heap) (us : List (Addr × Obj × Obj)) (news fresh : List (Addr × Obj)) : Prop := ∀ n, Upds us news n → News h₀ L h (fresh ++ n)
section
variable {h₀ h : Heap} {L : Addr} {us : List (Addr × Obj × Obj)} {news n : List (Addr × Obj)} {a b : Addr × Obj}
theorem na0 (k : NewsAll h₀ L h us news []) (n) (U : Upds us news n) : News h₀ L h n := k _ U
theorem na1 (k : NewsAll h₀ L h us news [a]) (n) (U : Upds us news n) : News h₀ L h (a :: n) := k _ U
theorem na2 (k : NewsAll h₀ L h us news [a, b]) (n) (U : Upds us news n) : News h₀ L h (a :: b :: n) := k _ U
end
theorem zc_news {h₀ h : Heap} {L : Addr} {p : Addr × Obj} {l1 l2 : List (Addr × Obj)} (N : News h₀ L h (p :: (l1 ++ l2))) : News h₀ L h (p :: l2) := fun q hq => by
  rcases List.mem_cons.mp hq with e | e
  · exact N q (e ▸ List.mem_cons_self ..)
  · exact N q (List.mem_cons_of_mem _ (List.mem_append_right _ e))
theorem room_of {A : Around} (h : A.depth < 1000) : A.depth < recursionLimit := h
/-- sizes of the deck -/
def DeckOk (ds : List Int) : Prop := ds.length ≤ 16 ∧ ∀ d ∈ ds, 0 ≤ d ∧ d < 10 ^ 30
end Mine
end
section
open PySem PySem.W PySem.Spec PySem.Calls PyProof.Rows PyProof.V
namespace Mine
section
variable {prog : Program} {w : World} {A : Around} {E : Value → Shared → Prop} {s : Shared} {h₀ : Heap} {L D d : Addr} {m : Str → Option Value} {news : List (Addr × Obj)} {n : Nat}
theorem sort_nil {Q : Value → Shared → Prop} (F : Fr h₀ L s.heap m) (N : News h₀ L s.heap ((D, listOf #[] n) :: news)) (off : ∀ p ∈ news, p.1 ≠ D)
    (h : ∀ h', Fr h₀ L h' m → News h₀ L h' ((D, listOf #[] n) :: news) → Q .none { s with heap := h' }) : wpAny (model prog w) A (call (.builtin "list.sort") [.ref D]) Q E s := by
  have z := N (D, listOf #[] n) (.head _)
  refine wpAny_call_entry PyProof.Rows.slot_list_sort ⟨_, z.1, rfl⟩ PyProof.Rows.entry_list_sort (list_sort_tree (n := n) (vs := []) z.1 .nil (by decide) fun out ns' hI hp hP => ⟨.none, rfl, ?_⟩) (PyProof.Rows.args_list_sort _)
  have e1 : ns' = [] := List.perm_nil.mp hp
  subst e1
  have e2 : out = #[] := by
    have := hI.length
    exact Array.eq_empty_of_size_eq_zero (by simpa using this)
  subst e2
  have F1 : Fr h₀ L (s.heap.update D (Obj.mapSeq fun _ => (#[] : Array Value))) m := F.change (Heap.SameBut.update ..) z.2.1 z.2.2
  have N1 := ki_turn (pre := []) (post := news) (fun _ => (#[] : Array Value)) (its' := #[]) (n' := n) N (fun _ q => nomatch q) off rfl rfl
  have N2 := News.grown N1 fun _ _ e => Heap.get?_push_of_some (seqObj "tuple" #[] 0) e
  have N3 := News.grown N2 fun _ _ e => Heap.get?_push_of_some (seqObj "list" #[] 0) e
  have N4 := ki_turn (pre := []) (post := news) (fun _ => (#[] : Array Value)) (its' := #[]) (n' := n) N3 (fun _ q => nomatch q) off rfl rfl
  have F4 : Fr h₀ L ((((s.heap.update D (Obj.mapSeq fun _ => (#[] : Array Value))).push (seqObj "tuple" #[] 0)).push (seqObj "list" #[] 0)).update D (Obj.mapSeq fun _ => #[])) m :=
    ((F1.push (seqObj "tuple" #[] 0)).push (seqObj "list" #[] 0)).change (Heap.SameBut.update ..) z.2.1 z.2.2
  exact h _ F4 N4
theorem sorted_nil {Q : Value → Shared → Prop} (hh : A.handled = none) (F : Fr h₀ L s.heap m) (N : News h₀ L s.heap news) {o : Obj} (hm : (d, o) ∈ news) (lo : (d == sysModules) = false) (hd : o.IsDictOf (strKind prog w) []) (hf : FlatPairs PyData.str [] [])
    (h : ∀ B h' tk, Fr h₀ L h' m → News h₀ L h' ((B, listOf #[] 0) :: news) → (∀ q ∈ news, q.1 < B) → Q (.ref B) { s with heap := h', toks := tk }) :
    wpAny (model prog w) A (call (.builtin "sorted") [.ref d]) Q E s := by
  refine kdu_sortedD (knd := strKind prog w) (enc := PyData.str) (fun _ _ => kdl_flat_str) hh F N (TabAt.ofNews N hm lo hd hf) (by decide) ?_
  intro B h' tk F' N' l1
  refine sort_nil F' N' (fun p hp => Nat.ne_of_lt (l1 p hp)) fun h2 F2 N2 => h B h2 tk F2 N2 l1
end
/-- (I, it) taken out of a ledger -/
inductive Pull (I : Addr) (it : Obj) : List (Addr × Obj) → List (Addr × Obj) → Prop
  | head {r} : (∀ p ∈ r, p.1 ≠ I) → Pull I it ((I, it) :: r) r
  | tail {p r r'} : p.1 ≠ I → Pull I it r r' → Pull I it (p :: r) (p :: r')
theorem Pull.sub {I : Addr} {it : Obj} {l l' : List (Addr × Obj)} (U : Pull I it l l') : (I, it) ∈ l ∧ (∀ p ∈ l', p ∈ l) ∧ ∀ p ∈ l', p.1 ≠ I := by
  induction U with
  | head h => exact ⟨.head _, fun p hp => .tail _ hp, h⟩
  | tail h _ ih =>
    refine ⟨.tail _ ih.1, fun p hp => ?_, fun p hp => ?_⟩
    · rcases List.mem_cons.mp hp with rfl | hp
      · exact .head _
      · exact .tail _ (ih.2.1 p hp)
    · rcases List.mem_cons.mp hp with rfl | hp
      · exact h
      · exact ih.2.2 p hp
theorem unrEnd_pull {h₀ : Heap} {L I : Addr} {it : Obj} {rest : (Str → Option Value) → List (Addr × Obj) → Prop} {s₁ : Shared} {h' : Heap} {tk : Nat} {m' : Str → Option Value} {all news' : List (Addr × Obj)} (F : Fr h₀ L h' m') (N : News h₀ L h' all)
    (U : Pull I it all news') (r : rest m' news') : UnrEnd h₀ L s₁ I it rest { s₁ with heap := h', toks := tk } :=
  UnrEnd.intro F N news' (fun p hp => by
    rcases List.mem_cons.mp hp with rfl | hp
    · exact U.sub.1
    · exact U.sub.2.1 p hp) U.sub.2.2 r
theorem news_back3 {h₀ h h0 : Heap} {L : Addr} {us : List (Addr × Obj × Obj)} {same fresh news news' : List (Addr × Obj)} {adr : List Addr} (N0 : News h₀ L h0 news) (hs : ∀ p ∈ same, p ∈ news) (U : Upds us news news')
    (hadr : ∀ a ∈ adr, (∃ u ∈ us, u.1 = a) ∨ ∃ p ∈ same, p.1 = a)
    (N : News h₀ L h (fresh ++ (us.map (fun u => (u.1, u.2.2)) ++ (same ++ restOf adr news)))) : News h₀ L h (fresh ++ news') := fun p hp => by
  rcases List.mem_append.mp hp with hp | hp
  · exact N p (List.mem_append_left _ hp)
  · rcases U.mem p hp with ⟨u, hu, rfl⟩ | ⟨hp, hn⟩
    · exact N _ (List.mem_append_right _ (List.mem_append_left _ (List.mem_map.mpr ⟨u, hu, rfl⟩)))
    · refine N _ (List.mem_append_right _ (List.mem_append_right _ ?_))
      cases q : adr.contains p.1 with
      | false => exact List.mem_append_right _ (List.mem_filter.mpr ⟨hp, by rw [q]; rfl⟩)
      | true =>
        rcases hadr _ (List.contains_iff_mem.mp q) with ⟨u, hu, e⟩ | ⟨r, hr, e⟩
        · exact absurd e.symm (hn u hu)
        · have h1 := (N0 _ (hs r hr)).1
          have h2 := (N0 _ hp).1
          rw [e, h2] at h1
          have : p = r := Prod.ext e.symm (Option.some.inj h1)
          rw [this]
          exact List.mem_append_left _ hr
end Mine
end
section
open PySem PySem.W PySem.Spec PySem.Calls PyProof.Rows
namespace Mine
open Sem (wp)
section
variable {prog : Program} {w : World} {A : Around} {E : Value → Shared → Prop} {s : Shared} {h₀ : Heap} {L D : Addr} {m : Str → Option Value} {news news' : List (Addr × Obj)} {n : Nat}
def cutIn (lo hi : Option Int) (us xs : Array Value) (k : Nat) : Array Value :=
  xs.extract 0 (sliceBounds lo hi none k).1.toNat ++ us ++ xs.extract (max (sliceBounds lo hi none k).1 (sliceBounds lo hi none k).2.1).toNat xs.size
theorem items_of {M : Model} {d : Addr} {us : Array Value} {nd : Nat} {Q : Array Value → Shared → Prop} (hd : s.heap.get? d = some (listOf us nd)) (h : Q us s) :
    wpAny M A (Builtin.List.listItems (.ref d)) Q E s := by
  unfold Builtin.List.listItems
  exact wpAny_bind (wpAny_seqItems hd rfl (wpAny_pure h))
theorem all_items {d : Addr} {us : Array Value} {nd : Nat} {msg : String} {Q : Array Value → Shared → Prop} (hd : s.heap.get? d = some (listOf us nd)) (h : Q us s) :
    wpAny (model prog w) A (Builtin.List.listAllItems (.ref d) msg) Q E s := by
  unfold Builtin.List.listAllItems
  have hD : s.heap.IsList d us := PySem.IsL.isList (n := nd) hd
  refine wpAny_bind (wpAny_typeOf hD.typeIs ?_)
  rw [if_pos (by decide)]
  first
    | exact items_of hd h
    | exact wpAny_bind (items_of hd (wpAny_pure h))
theorem set_slice_raw {l sl d : Addr} {items us : Array Value} {nd : Nat} {vl vu : Value} {lo hi : Option Int} {Q : Unit → Shared → Prop}
    (hl : s.heap.get? l = some (listOf items n)) (hs : s.heap.IsSliceOf sl vl vu .none) (pl : IsPart vl lo) (pu : IsPart vu hi) (hd : s.heap.get? d = some (listOf us nd)) (hne : l ≠ d)
    (hz : items.size + us.size ≤ sizeLine) (hz' : (cutIn lo hi us items items.size).size ≤ sizeLine)
    (h : Q () { s with heap := s.heap.update l (Obj.mapSeq fun xs => cutIn lo hi us xs items.size) }) :
    wpAny (model prog w) A (setItem (.ref l) (.ref sl) (.ref d)) Q E s := by
  have hL : s.heap.IsList l items := PySem.IsL.isList (n := n) hl
  have hD : s.heap.IsList d us := PySem.IsL.isList (n := nd) hd
  obtain ⟨os, hos, hcs, hds⟩ := id hs
  have hTs : s.TypeIs (.ref sl) "slice" := ⟨os, hos, hcs⟩
  unfold setItem
  try with_reducible refine wpAny_holding ?_
  first | refine wpAny_bind (wpAny_pure ?_) | skip
  refine wpAny_bind (wpAny_sequenceKey hL.typeIs (by decide) ?_)
  refine wpAny_bind (wpAny_callSpecial?_slot (name := Str.ofString "__setitem__") hL.typeIs slot_list_setitem
    (wpAny_call_entry slot_list_setitem hL.typeIs entry_list_setitem ?_ (args_list_setitem _ _ _)))
  show wpAny _ _ (Builtin.List.listSubscript? (.ref sl) >>= _) _ _ s
  refine wpAny_bind ?_
  unfold Builtin.List.listSubscript?
  refine wpAny_bind (wpAny_specialOf hTs slice_no_index ?_)
  simp only [Option.isNone_none, if_true]
  refine wpAny_pure ?_
  show wpAny _ _ (typeOf (.ref sl) >>= _) _ _ s
  refine wpAny_bind (wpAny_typeOf hTs ?_)
  rw [if_neg (by decide)]
  rw [listSliceParts_eq]
  refine wpAny_bind (wpAny_bind (wpAny_field hos hds (x := .none) rfl (wpAny_bind (wpAny_listPart .none ?_))))
  rw [if_neg (by decide)]
  refine wpAny_bind (wpAny_field hos hds (x := vl) rfl (wpAny_bind (wpAny_listPart pl ?_)))
  refine wpAny_bind (wpAny_field hos hds (x := vu) rfl (wpAny_bind (wpAny_listPart pu (wpAny_pure ?_))))
  have hsr : ¬ (Builtin.List.listSameRef (.ref l) (.ref d) = true) := by
    show ¬ ((l == d) = true)
    simpa using hne
  rw [if_neg hsr]
  refine wpAny_bind (m := Builtin.List.listAllItems (.ref d) _) (all_items hd ?_)
  refine wpAny_bind (m := Builtin.List.listItems (.ref l)) (items_of hl ?_)
  refine wpAny_bind (wpAny_of_eq (sliceIndices_raw lo hi none items.size (by simp)) ?_)
  rw [if_pos (by rfl)]
  refine wpAny_bind (wpAny_rule ?_)
  rw [if_neg (by unfold Builtin.List.listTooLong; simpa using hz)]
  show wpAny _ _ (updateSeq l _ >>= _) _ _ s
  refine wpAny_bind (wpAny_updateSeq hl rfl ?_ (by omega) (Nat.le_succ_of_le hz'))
  refine wpAny_bind (wpAny_letGo ?_)
  exact wpAny_pure ⟨.none, rfl, wpAny_pure h⟩
theorem cutIn_eq {vs us : List Value} {x y : Int} (h0 : 0 ≤ x) (h1 : x ≤ y) (h2 : y ≤ vs.length) :
    cutIn (some x) (some y) us.toArray vs.toArray vs.toArray.size = (vs.take x.toNat ++ us ++ vs.drop y.toNat).toArray := by
  have e : sliceBounds (some x) (some y) none vs.toArray.size = (x, y, 1) := by
    simp only [sliceBounds, Option.getD_none, show (1 : Int) > 0 by decide, if_true, if_neg (show ¬ (x < 0) by omega), if_neg (show ¬ (y < 0) by omega), List.size_toArray]
    congr 1
    · omega
    · congr 1
      omega
  unfold cutIn
  rw [e]
  have e2 : (max x y).toNat = y.toNat := by congr 1; omega
  simp only [e2]
  apply Array.toList_inj.mp
  simp [List.extract_eq_take_drop, List.take_of_length_le]
theorem ints_append : ∀ {vs us : List Value} {ns ms : List Int}, IntsAre vs ns → IntsAre us ms → IntsAre (vs ++ us) (ns ++ ms)
  | _, _, _, _, .nil, h => h
  | _, _, _, _, .cons n t r, h => .cons n t (ints_append r h)
/-- xs[x:y] = ys, both lists of ints of the ledger -/
theorem set_slice {d : Addr} {vs us : List Value} {ns ms : List Int} {nd : Nat} {x y : Int} {tx ty : Tok} {Q : Unit → Shared → Prop}
    (F : Fr h₀ L s.heap m) (N : News h₀ L s.heap news) (_hm : (D, listOf vs.toArray n) ∈ news) (hd : (d, listOf us.toArray nd) ∈ news) (hne : D ≠ d) (hi : IntsAre vs ns) (hi2 : IntsAre us ms)
    (U : Upd D (listOf vs.toArray n) (listOf (vs.take x.toNat ++ us ++ vs.drop y.toNat).toArray (if (vs.take x.toNat ++ us ++ vs.drop y.toNat).toArray.size == vs.toArray.size then n else n + 1)) news news')
    (h0 : 0 ≤ x) (h1 : x ≤ y) (h2 : y ≤ ns.length) (hz : ns.length + ms.length ≤ 10000000)
    (h : ∀ h', Fr h₀ L h' m → News h₀ L h' news' → IntsAre (vs.take x.toNat ++ us ++ vs.drop y.toNat) (ns.take x.toNat ++ ms ++ ns.drop y.toNat) → Q () { s with heap := h' }) :
    wpAny (model prog w) A (setItem (.ref D) (.ref s.heap.objs.size) (.ref d)) Q E { s with heap := s.heap.push { cls := .type "slice", data := .fields #[.int x tx, .int y ty, .none] } } := by
  obtain ⟨pre, post, rfl, rfl, a, b⟩ := U.split
  have z := N (D, listOf vs.toArray n) (List.mem_append.mpr (.inr (.head _)))
  have zd := N _ hd
  have l1 := hi.length
  have l2 := hi2.length
  have hc := cutIn_eq (us := us) h0 h1 (by omega : y ≤ vs.length)
  have F2 := F.push (Obj.mk (.type "slice") none (.fields #[.int x tx, .int y ty, .none]) #[])
  have N2 := N.grown (fun _ _ e => Heap.get?_push_of_some (Obj.mk (.type "slice") none (.fields #[.int x tx, .int y ty, .none]) #[]) e)
  have z2 := N2 (D, listOf vs.toArray n) (List.mem_append.mpr (.inr (.head _)))
  refine set_slice_raw z2.1 (Heap.IsSliceOf.new ..) (.int x tx) (.int y ty) (N2 _ hd).1 hne ?_ ?_ ?_
  · rw [PySem.sizeLine_eq]; simp only [List.size_toArray]; omega
  · rw [hc, PySem.sizeLine_eq]; simp only [List.size_toArray, List.length_append, List.length_take, List.length_drop]; omega
  · exact h _ (F2.change (Heap.SameBut.update ..) z2.2.1 z2.2.2) (ki_turn _ N2 a b hc rfl) (ints_append (ints_append (hi.take _) hi2) (hi.drop _))
end
end Mine
end
section
open PySem PySem.W PySem.Spec PySem.Calls PyProof.Rows
namespace Mine
abbrev GapOk (cells : List Int) (gs ge : Int) : Prop := 0 ≤ gs ∧ gs ≤ ge ∧ ge ≤ cells.length
def gapText (cells : List Int) (gs ge : Int) : List Int := cells.take gs.toNat ++ cells.drop ge.toNat
/-- the gap's bounds as sums of natural numbers -/
theorem gapOk_nat {cells : List Int} {gs ge : Int} (ok : GapOk cells gs ge) : ∃ g r t : Nat, gs = (g : Int) ∧ ge = ((g + r : Nat) : Int) ∧ cells.length = g + r + t := by
  obtain ⟨k0, k1, k2⟩ := ok
  obtain ⟨g, rfl⟩ := Int.eq_ofNat_of_zero_le k0
  obtain ⟨r, hr⟩ := Int.le.dest k1
  subst hr
  obtain ⟨t, ht⟩ := Int.le.dest k2
  exact ⟨g, r, t, rfl, rfl, Int.ofNat.inj ht.symm⟩
theorem len3 {xs ys zs : List Int} {a b c : Nat} (h1 : xs.length = a) (h2 : ys.length = b) (h3 : zs.length = c) : (xs ++ ys ++ zs).length = a + b + c := by
  rw [List.length_append, List.length_append, h1, h2, h3]
theorem len_take {xs : List Int} {a b : Nat} (h : xs.length = a + b) : (xs.take a).length = a := by rw [List.length_take, h, Nat.min_eq_left (Nat.le_add_right ..)]
theorem len_drop {xs : List Int} {a b : Nat} (h : xs.length = a + b) : (xs.drop a).length = b := by rw [List.length_drop, h, Nat.add_sub_cancel_left]
theorem take_len {xs ys : List Int} {a : Nat} (h : xs.length = a) : (xs ++ ys).take a = xs := by rw [← h, List.take_left]
theorem drop_len {xs ys : List Int} {a : Nat} (h : xs.length = a) : (xs ++ ys).drop a = ys := by rw [← h, List.drop_left]
theorem take_split {xs : List Int} {a b : Nat} : xs.take (a + b) = xs.take a ++ (xs.drop a).take b := List.take_add ..
theorem gapText_nat (cells : List Int) (g e : Nat) : gapText cells (g : Int) (e : Int) = cells.take g ++ cells.drop e := rfl
theorem gapText_len {cells : List Int} {gs ge : Int} (h : GapOk cells gs ge) : ((gapText cells gs ge).length : Int) = cells.length - (ge - gs) := by
  obtain ⟨g, r, t, rfl, rfl, hL⟩ := gapOk_nat h
  rw [gapText_nat, List.length_append, len_take (hL.trans (Nat.add_assoc ..)), len_drop hL, hL]
  omega
theorem mv_left {cells : List Int} {gs ge a : Int} (ok : GapOk cells gs ge) (h0 : 0 ≤ a) (h1 : a < gs) :
    let mv := List.take (min gs.toNat cells.length - a.toNat) (List.drop a.toNat cells)
    let ge' := ge - (mv.length : Int)
    let c' := cells.take ge'.toNat ++ mv ++ cells.drop ge.toNat
    GapOk c' a ge' ∧ gapText c' a ge' = gapText cells gs ge ∧ ge' - a = ge - gs ∧ c'.length = cells.length := by
  obtain ⟨g, r, t, rfl, rfl, hL⟩ := gapOk_nat ok
  obtain ⟨p, rfl⟩ := Int.eq_ofNat_of_zero_le h0
  obtain ⟨d, rfl⟩ := Nat.le.dest (Int.ofNat_le.mp (Int.le_of_lt h1))
  intro mv ge' c'
  clear ok h0 h1
  have hL2 : cells.length = p + (d + (r + t)) := by rw [hL]; simp only [Nat.add_assoc]
  have hL3 : cells.length = p + r + (d + t) := by rw [hL]; simp only [Nat.add_assoc, Nat.add_left_comm]
  have em : mv = (cells.drop p).take d := by
    show List.take (min (p + d) cells.length - p) (List.drop p cells) = _
    rw [hL2, ← Nat.add_assoc, Nat.min_eq_left (Nat.le_add_right ..), Nat.add_sub_cancel_left]
  have hm : mv.length = d := by rw [em]; exact len_take (len_drop hL2)
  have hge : ge' = ((p + r : Nat) : Int) := by
    show ((p + d + r : Nat) : Int) - (mv.length : Int) = _
    rw [hm]; clear hL hL2 hL3 em hm; omega
  have hc : c' = cells.take (p + r) ++ (cells.drop p).take d ++ cells.drop (p + d + r) := by
    show cells.take ge'.toNat ++ mv ++ cells.drop (p + d + r) = _
    rw [hge, em]; rfl
  have hl : c'.length = cells.length := by
    rw [hc, len3 (len_take hL3) (em ▸ hm) (len_drop hL), hL3]; simp only [Nat.add_assoc]
  rw [hge]
  refine ⟨⟨Int.natCast_nonneg p, Int.ofNat_le.mpr (Nat.le_add_right ..), ?_⟩, ?_, ?_, hl⟩
  · rw [hl, hL3]; exact Int.ofNat_le.mpr (Nat.le_add_right ..)
  · rw [hc, gapText_nat, gapText_nat, List.append_assoc (cells.take (p + r)), drop_len (len_take hL3), take_split (a := p) (b := r), List.append_assoc (cells.take p), take_len (len_take hL2), take_split (a := p) (b := d), List.append_assoc]
  · clear hL hL2 hL3 em hm hge hc hl; omega
theorem mv_right {cells : List Int} {gs ge a : Int} (ok : GapOk cells gs ge) (h0 : ¬ a < gs) (h1 : a + (ge - gs) ≤ cells.length) :
    let mv := List.take (min (ge + a - gs).toNat cells.length - ge.toNat) (List.drop ge.toNat cells)
    let ge' := ge + (mv.length : Int)
    let c' := cells.take gs.toNat ++ mv ++ cells.drop (gs + (mv.length : Int)).toNat
    GapOk c' a ge' ∧ gapText c' a ge' = gapText cells gs ge ∧ ge' - a = ge - gs ∧ c'.length = cells.length := by
  obtain ⟨g, r, t, rfl, rfl, hL⟩ := gapOk_nat ok
  obtain ⟨d, hd⟩ := Int.le.dest (Int.not_lt.mp h0)
  subst hd
  obtain ⟨u, rfl⟩ : ∃ u, t = d + u := ⟨t - d, by omega⟩
  intro mv ge' c'
  clear ok h0 h1
  have em : mv = (cells.drop (g + r)).take d := by
    show List.take (min (((g + r : Nat) : Int) + ((g : Int) + (d : Int)) - (g : Int)).toNat cells.length - (g + r)) (List.drop (g + r) cells) = _
    have e : (((g + r : Nat) : Int) + ((g : Int) + (d : Int)) - (g : Int)).toNat = g + r + d := by clear hL; omega
    rw [e, hL, ← Nat.add_assoc, Nat.min_eq_left (Nat.le_add_right ..), Nat.add_sub_cancel_left]
  have hm' : ((cells.drop (g + r)).take d).length = d := len_take (len_drop hL)
  have hm : mv.length = d := by rw [em]; exact hm'
  have hL2 : cells.length = g + (r + (d + u)) := by rw [hL, Nat.add_assoc]
  have hL3 : cells.length = g + d + (r + u) := by rw [hL]; simp only [Nat.add_assoc, Nat.add_left_comm]
  have hc : c' = cells.take g ++ (cells.drop (g + r)).take d ++ cells.drop (g + d) := by
    show cells.take g ++ mv ++ cells.drop ((g : Int) + (mv.length : Int)).toNat = _
    rw [hm, em]; rfl
  have hge : ge' = ((g + r + d : Nat) : Int) := by show ((g + r : Nat) : Int) + (mv.length : Int) = _; rw [hm]; rfl
  have hl : c'.length = cells.length := by
    rw [hc, len3 (len_take hL2) hm' (len_drop hL3), hL3]
  have hgd : (g : Int) + (d : Int) = ((g + d : Nat) : Int) := rfl
  have hx : (cells.take g ++ (cells.drop (g + r)).take d).length = g + d := by rw [List.length_append, len_take hL2, hm']
  rw [hge, hgd]
  refine ⟨⟨Int.natCast_nonneg _, Int.ofNat_le.mpr (by rw [Nat.add_right_comm]; exact Nat.le_add_right ..), ?_⟩, ?_, ?_, hl⟩
  · rw [hl, hL, ← Nat.add_assoc]; exact Int.ofNat_le.mpr (Nat.le_add_right ..)
  · have h5 : (cells.take g ++ (cells.drop (g + r)).take d ++ cells.drop (g + d)).drop (g + r + d) = (cells.drop (g + r)).drop d := by
      rw [Nat.add_right_comm, ← List.drop_drop (i := r) (j := g + d), drop_len hx, List.drop_drop, List.drop_drop, Nat.add_right_comm]
    rw [hc, gapText_nat, gapText_nat, take_len hx, h5, List.append_assoc, List.take_append_drop]
  · clear hL hL2 hL3 em hm hge hc hl hx hgd; omega
theorem widen_text {cells zs : List Int} {gs ge : Int} (ok : GapOk cells gs ge) :
    GapOk (cells.take ge.toNat ++ zs ++ cells.drop ge.toNat) gs (ge + zs.length) ∧ gapText (cells.take ge.toNat ++ zs ++ cells.drop ge.toNat) gs (ge + zs.length) = gapText cells gs ge ∧
      (cells.take ge.toNat ++ zs ++ cells.drop ge.toNat).length = cells.length + zs.length := by
  obtain ⟨g, r, t, rfl, rfl, hL⟩ := gapOk_nat ok
  have hl : (cells.take (g + r) ++ zs ++ cells.drop (g + r)).length = cells.length + zs.length := by
    rw [len3 (len_take hL) rfl (len_drop hL), hL, Nat.add_right_comm]
  have hx : (cells.take (g + r) ++ zs).length = g + r + zs.length := by rw [List.length_append, len_take hL]
  have hL2 : cells.length = g + (r + t) := by rw [hL, Nat.add_assoc]
  refine ⟨⟨Int.natCast_nonneg g, Int.ofNat_le.mpr (by rw [Nat.add_assoc]; exact Nat.le_add_right ..), ?_⟩, ?_, hl⟩
  · show ((g + r + zs.length : Nat) : Int) ≤ ((cells.take (g + r) ++ zs ++ cells.drop (g + r)).length : Int)
    rw [hl, hL]; exact Int.ofNat_le.mpr (Nat.add_le_add_right (Nat.le_add_right ..) _)
  · show (cells.take (g + r) ++ zs ++ cells.drop (g + r)).take g ++ (cells.take (g + r) ++ zs ++ cells.drop (g + r)).drop (g + r + zs.length) = _
    rw [drop_len hx, gapText_nat, take_split (a := g) (b := r), List.append_assoc, List.append_assoc, take_len (len_take hL2)]
theorem ins_text {cells ms : List Int} {a ge : Int} (ok : GapOk cells a ge) (h : (ms.length : Int) ≤ ge - a) :
    GapOk (cells.take a.toNat ++ ms ++ cells.drop (a + (ms.length : Int)).toNat) (a + (ms.length : Int)) ge ∧
    gapText (cells.take a.toNat ++ ms ++ cells.drop (a + (ms.length : Int)).toNat) (a + (ms.length : Int)) ge = (gapText cells a ge).take a.toNat ++ ms ++ (gapText cells a ge).drop a.toNat ∧
    (cells.take a.toNat ++ ms ++ cells.drop (a + (ms.length : Int)).toNat).length = cells.length := by
  obtain ⟨g, r, t, rfl, rfl, hL⟩ := gapOk_nat ok
  obtain ⟨u, rfl⟩ : ∃ u, r = ms.length + u := ⟨r - ms.length, by omega⟩
  clear ok h
  have hL2 : cells.length = g + ms.length + (u + t) := by rw [hL]; simp only [Nat.add_assoc]
  have hL3 : cells.length = g + (ms.length + u + t) := by rw [hL]; simp only [Nat.add_assoc]
  have hl : (cells.take g ++ ms ++ cells.drop (g + ms.length)).length = cells.length := by
    rw [len3 (len_take hL3) rfl (len_drop hL2), hL2]
  have hx : (cells.take g ++ ms).length = g + ms.length := by rw [List.length_append, len_take hL3]
  show GapOk (cells.take g ++ ms ++ cells.drop (g + ms.length)) ((g + ms.length : Nat) : Int) _ ∧ (cells.take g ++ ms ++ cells.drop (g + ms.length)).take (g + ms.length) ++ (cells.take g ++ ms ++ cells.drop (g + ms.length)).drop (g + (ms.length + u)) = (cells.take g ++ cells.drop (g + (ms.length + u))).take g ++ ms ++ (cells.take g ++ cells.drop (g + (ms.length + u))).drop g ∧ (cells.take g ++ ms ++ cells.drop (g + ms.length)).length = cells.length
  refine ⟨⟨Int.natCast_nonneg _, Int.ofNat_le.mpr (by rw [← Nat.add_assoc]; exact Nat.le_add_right ..), ?_⟩, ?_, hl⟩
  · rw [hl, hL]; exact Int.ofNat_le.mpr (Nat.le_add_right ..)
  · rw [take_len hx, take_len (len_take hL3), drop_len (len_take hL3), ← Nat.add_assoc, ← List.drop_drop, drop_len hx, List.drop_drop]
theorem del_text {cells : List Int} {gs ge x y : Int} (ok : GapOk cells gs ge) (h0 : 0 ≤ x) (h1 : x ≤ gs) (h2 : gs ≤ y) (h3 : y + (ge - gs) ≤ cells.length) :
    GapOk cells x (ge + y - gs) ∧ gapText cells x (ge + y - gs) = (gapText cells gs ge).take x.toNat ++ (gapText cells gs ge).drop y.toNat := by
  obtain ⟨g, r, t, rfl, rfl, hL⟩ := gapOk_nat ok
  obtain ⟨p, rfl⟩ := Int.eq_ofNat_of_zero_le h0
  obtain ⟨d, rfl⟩ := Nat.le.dest (Int.ofNat_le.mp h1)
  obtain ⟨b, hb⟩ := Int.le.dest h2
  subst hb
  have e : ((p + d + r : Nat) : Int) + (((p + d : Nat) : Int) + (b : Int)) - ((p + d : Nat) : Int) = ((p + d + r + b : Nat) : Int) := by clear hL h3 h0 h1 h2 ok; omega
  have h4 : p + d + r + b ≤ cells.length := by clear hL ok h0 h1 h2; omega
  have hL2 : cells.length = p + d + (r + t) := by rw [hL, Nat.add_assoc]
  have hL3 : cells.length = p + (d + (r + t)) := by rw [hL2, Nat.add_assoc]
  rw [e]
  refine ⟨⟨h0, Int.ofNat_le.mpr (by rw [Nat.add_assoc, Nat.add_assoc]; exact Nat.le_add_right ..), Int.ofNat_le.mpr h4⟩, ?_⟩
  show cells.take p ++ cells.drop (p + d + r + b) = (cells.take (p + d) ++ cells.drop (p + d + r)).take p ++ (cells.take (p + d) ++ cells.drop (p + d + r)).drop (p + d + b)
  rw [← List.drop_drop (i := b) (j := p + d), drop_len (len_take hL2), List.drop_drop, take_split (a := p) (b := d), List.append_assoc, take_len (len_take hL3)]
theorem gap_drop_take_left {cells : List Int} {gs ge x y : Int} (ok : GapOk cells gs ge) (h0 : 0 ≤ x) (h1 : x ≤ y) (h2 : y ≤ gs) :
    (cells.drop x.toNat).take (min y.toNat cells.length - x.toNat) = ((gapText cells gs ge).drop x.toNat).take (y - x).toNat := by
  obtain ⟨g, r, t, rfl, rfl, hL⟩ := gapOk_nat ok
  obtain ⟨p, rfl⟩ := Int.eq_ofNat_of_zero_le h0
  obtain ⟨d, hd⟩ := Int.le.dest h1
  subst hd
  obtain ⟨u, rfl⟩ := Nat.le.dest (show p + d ≤ g by omega)
  have e : ((p : Int) + (d : Int) - (p : Int)).toNat = d := by clear hL h0 h1 h2 ok; omega
  have hL2 : cells.length = p + d + (u + r + t) := by rw [hL]; simp only [Nat.add_assoc]
  have hL3 : cells.length = p + (d + (u + r + t)) := by rw [hL2, Nat.add_assoc]
  rw [e]
  show (cells.drop p).take (min (p + d) cells.length - p) = ((cells.take (p + d + u) ++ cells.drop (p + d + u + r)).drop p).take d
  rw [hL2, Nat.min_eq_left (Nat.le_add_right ..), Nat.add_sub_cancel_left, Nat.add_assoc p d u, take_split (a := p) (b := d + u), List.append_assoc, drop_len (len_take hL3), take_split (a := d) (b := u), List.append_assoc, take_len (len_take (len_drop hL3))]
theorem gap_drop_take_right {cells : List Int} {gs ge x y : Int} (ok : GapOk cells gs ge) (h0 : gs ≤ x) (h1 : x ≤ y) (h2 : y + (ge - gs) ≤ cells.length) :
    (cells.drop (x + (ge - gs)).toNat).take (min (y + (ge - gs)).toNat cells.length - (x + (ge - gs)).toNat) = ((gapText cells gs ge).drop x.toNat).take (y - x).toNat := by
  obtain ⟨g, r, t, rfl, rfl, hL⟩ := gapOk_nat ok
  obtain ⟨p, hp⟩ := Int.le.dest h0
  subst hp
  obtain ⟨d, hd⟩ := Int.le.dest h1
  subst hd
  have e : ((g : Int) + (p : Int) + (d : Int) - ((g : Int) + (p : Int))).toNat = d := by clear hL h0 h1 h2 ok; omega
  have e1 : ((g : Int) + (p : Int) + (((g + r : Nat) : Int) - (g : Int))).toNat = g + r + p := by clear hL h0 h1 h2 ok e; omega
  have e2 : ((g : Int) + (p : Int) + (d : Int) + (((g + r : Nat) : Int) - (g : Int))).toNat = g + r + p + d := by clear hL h0 h1 h2 ok e e1; omega
  have h4 : g + r + p + d ≤ cells.length := by clear hL ok h0 h1 e e1 e2; omega
  have hL2 : cells.length = g + (r + t) := by rw [hL, Nat.add_assoc]
  rw [e, e1, e2, Nat.min_eq_left h4, Nat.add_sub_cancel_left]
  show _ = ((cells.take g ++ cells.drop (g + r)).drop (g + p)).take d
  rw [← List.drop_drop (i := p) (j := g), drop_len (len_take hL2), List.drop_drop]
theorem gap_drop_take_mid {cells : List Int} {gs ge x y : Int} (ok : GapOk cells gs ge) (h0 : 0 ≤ x) (h1 : x ≤ gs) (h1' : gs ≤ y) (h2 : y + (ge - gs) ≤ cells.length) :
    (cells.drop x.toNat).take (min gs.toNat cells.length - x.toNat) ++ (cells.drop ge.toNat).take (min (y + (ge - gs)).toNat cells.length - ge.toNat) = ((gapText cells gs ge).drop x.toNat).take (y - x).toNat := by
  obtain ⟨g, r, t, rfl, rfl, hL⟩ := gapOk_nat ok
  obtain ⟨p, rfl⟩ := Int.eq_ofNat_of_zero_le h0
  obtain ⟨d, rfl⟩ := Nat.le.dest (Int.ofNat_le.mp h1)
  obtain ⟨b, hb⟩ := Int.le.dest h1'
  subst hb
  have e : (((p + d : Nat) : Int) + (b : Int) - (p : Int)).toNat = d + b := by clear hL h0 h1 h2 ok; omega
  have e2 : (((p + d : Nat) : Int) + (b : Int) + (((p + d + r : Nat) : Int) - ((p + d : Nat) : Int))).toNat = p + d + r + b := by clear hL h0 h1 h2 ok e; omega
  have h4 : p + d + r + b ≤ cells.length := by clear hL ok h0 h1 e e2; omega
  have hL2 : cells.length = p + d + (r + t) := by rw [hL, Nat.add_assoc]
  have hL3 : cells.length = p + (d + (r + t)) := by rw [hL2, Nat.add_assoc]
  rw [e, e2]
  show (cells.drop p).take (min (p + d) cells.length - p) ++ (cells.drop (p + d + r)).take (min (p + d + r + b) cells.length - (p + d + r)) = ((cells.take (p + d) ++ cells.drop (p + d + r)).drop p).take (d + b)
  rw [Nat.min_eq_left h4, Nat.add_sub_cancel_left, hL2, Nat.min_eq_left (Nat.le_add_right ..), Nat.add_sub_cancel_left, take_split (a := p) (b := d), List.append_assoc, drop_len (len_take hL3)]
  rw [List.take_append, len_take (len_drop hL3), List.take_of_length_le (l := (cells.drop p).take d) (by rw [len_take (len_drop hL3)]; exact Nat.le_add_right ..), Nat.add_sub_cancel_left]
end Mine
end
section
open PySem PySem.W PySem.Spec PySem.Calls PyProof.Rows
namespace Mine
structure GT where
  (a0 a1 a2 a3 a4 : Tok)
abbrev ent (P : Params) (x : Str) (t : Tok) (v : Value) : DictEntry := ⟨PyData.keyHash P x, .str x t, v⟩
noncomputable def gapD (P : Params) (γ : GT) (Cs : Addr) (gs ge : Value) : List DictEntry :=
  [ent P (PySem.Str.ofString "room") γ.a0 (.int 8 γ.a1), ent P (PySem.Str.ofString "cells") γ.a2 (.ref Cs), ent P (PySem.Str.ofString "gap_start") γ.a3 gs, ent P (PySem.Str.ofString "gap_end") γ.a4 ge]
structure BT where
  (k0 k1 k2 k3 k4 k5 k6 k7 k8 k9 k10 k11 k12 k13 k14 k15 k16 k17 k18 k19 c0 c1 c2 c3 : Tok)
structure LT where
  (k0 k1 k2 k3 : Tok)
structure MT where
  (k0 : Tok)
noncomputable def bufD (P : Params) (β : BT) (G M Ls : Addr) (pt zv ti ci : Value) : List DictEntry :=
  [ent P (PySem.Str.ofString "number") β.k0 (.int 1 β.c0), ent P (PySem.Str.ofString "name") β.k1 (.str (PySem.Str.ofString "text") β.c1), ent P (PySem.Str.ofString "text") β.k2 (.ref G), ent P (PySem.Str.ofString "markers") β.k3 (.ref M),
   ent P (PySem.Str.ofString "point") β.k4 pt, ent P (PySem.Str.ofString "begv") β.k5 (.int 1 β.c2), ent P (PySem.Str.ofString "zv") β.k6 zv, ent P (PySem.Str.ofString "mark") β.k7 .none,
   ent P (PySem.Str.ofString "is_live") β.k8 (.bool true), ent P (PySem.Str.ofString "is_read_only") β.k9 (.bool false), ent P (PySem.Str.ofString "ticks") β.k10 ti, ent P (PySem.Str.ofString "codes_ticks") β.k11 ci,
   ent P (PySem.Str.ofString "saved_ticks") β.k12 (.int 1 β.c3), ent P (PySem.Str.ofString "listeners") β.k13 (.ref Ls), ent P (PySem.Str.ofString "undo") β.k14 .none, ent P (PySem.Str.ofString "props") β.k15 .none,
   ent P (PySem.Str.ofString "overlays") β.k16 .none, ent P (PySem.Str.ofString "locals") β.k17 .none, ent P (PySem.Str.ofString "syntax") β.k18 .none, ent P (PySem.Str.ofString "file") β.k19 .none]
noncomputable def logD (P : Params) (δ : LT) (Rw : Addr) (bv ev gr : Value) : List DictEntry :=
  [ent P (PySem.Str.ofString "rows") δ.k0 (.ref Rw), ent P (PySem.Str.ofString "begin") δ.k1 bv, ent P (PySem.Str.ofString "end") δ.k2 ev, ent P (PySem.Str.ofString "growth") δ.k3 gr]
noncomputable def mkD (P : Params) (μ : MT) (R : Addr) : List DictEntry := [ent P (PySem.Str.ofString "rows") μ.k0 (.ref R)]
abbrev tup3 (x y o : Int) (a b c : Tok) : Obj := { cls := .type "tuple", data := .seq #[.int x a, .int y b, .int o c] }
def StV (st : Option (Int × Int)) (bv ev : Value) : Prop := (st = none ∧ bv = .none ∧ ev = .none) ∨ ∃ b e tb te, st = some (b, e) ∧ bv = .int b tb ∧ ev = .int e te
noncomputable def stNext (st : Option (Int × Int)) (x y o : Int) : Option (Int × Int) := match st with
  | none => some (x, y)
  | some (b, e) => some (if x < b then x else b, if e ≥ x + o then e + (y - x - o) else y)
theorem rep_text {T R ms : List Int} {a : Nat} (h : a ≤ T.length) : (T.take a ++ R).take a ++ ms ++ (T.take a ++ R).drop a = T.take a ++ ms ++ R := by
  have e : (T.take a).length = a := by rw [List.length_take]; omega
  rw [List.take_append_of_le_length (by omega), List.take_take, Nat.min_self, List.drop_append, List.drop_of_length_le (l := T.take a) (by omega), e, Nat.sub_self, List.drop_zero, List.nil_append]
abbrev tup2 (x y : Int) (a b : Tok) : Obj := { cls := .type "tuple", data := .seq #[.int x a, .int y b] }
theorem cut_len {T : List Int} {a b : Int} (h1 : 1 ≤ a) (h2 : a ≤ b) (h3 : b - 1 ≤ T.length) : ((T.drop (a - 1).toNat).take (b - a).toNat).length = (b - a).toNat := by
  rw [List.length_take, List.length_drop]; omega
theorem cut_le {T : List Int} {a b : Int} {n : Nat} (h : b - a ≤ n) : ((T.drop (a - 1).toNat).take (b - a).toNat).length ≤ n := by
  rw [List.length_take]; exact Nat.le_trans (Nat.min_le_left ..) (Int.toNat_le.mpr h)
theorem cut3_len {T : List Int} {a b c d : Int} (h1 : 1 ≤ a) (h2 : a ≤ b) (h3 : b ≤ c) (h4 : c ≤ d) (h5 : d - 1 ≤ T.length) : (((T.drop (c - 1).toNat).take (d - c).toNat ++ (T.drop (b - 1).toNat).take (c - b).toNat ++ (T.drop (a - 1).toNat).take (b - a).toNat).length : Int) = d - a := by
  rw [List.length_append, List.length_append, cut_len, cut_len, cut_len] <;> omega
end Mine
end
section
open PySem PySem.W PySem.Spec PySem.Calls PyProof.Rows
namespace Mine
noncomputable def ep {α : Type} (i : Nonempty α) (P : α → Prop) : α := @Classical.epsilon α i fun x => ¬ P x
theorem hk1 {α : Type} [i : Nonempty α] {P : α → Prop} (h : P (ep i P)) (x : α) : P x := Classical.byContradiction fun n => @Classical.epsilon_spec α (fun x => ¬ P x) ⟨x, n⟩ h
noncomputable def hkl {α : Type} : α → List α → Nat → α
  | a, _, 0 => a
  | a, [], _ + 1 => a
  | _, b :: l, n + 1 => hkl b l n
noncomputable def nPar : Params := { strHash := fun _ => 0, shareClass := fun _ => 0, mergeTok := fun _ => 0, idOf := fun _ => 0, idOfShared := fun _ _ => 0, followText := fun _ => true, idOfImm := fun _ => 0 }
def U : Type := (Nat → Nat) × (Nat → Int) × (Nat → Value) × (Nat → (List Value)) × (Nat → (List Int)) × (Nat → (Str → Option Value)) × (Nat → Program) × (Nat → World) × (Nat → (Value → Shared → Prop)) × (Nat → Str) × (Nat → Shared) × (Nat → Obj) × (Nat → (List (Addr × Obj))) × (Nat → Heap) × (Nat → PySem.Around) × (Nat → (Option (Int × Int))) × (Nat → GT) × (Nat → BT) × (Nat → LT) × (Nat → MT) × (Nat → Scope) × (Nat → (Option (List Code))) × (Nat → (List Str)) × (Nat → (List Env)) × (Nat → (ExcName → Option Value)) × (Nat → (List (Str × Addr))) × (Nat → Bool) × (Nat → (Option Addr)) × (Nat → (List Stmt)) × (Nat → (List (Int × Int × Int))) × (Nat → (Flow → Shared → Prop)) × (Nat → (Array (Option Value))) × (Nat → Arguments)
noncomputable def u0 : U := (fun _ => (0), fun _ => (0), fun _ => (.none), fun _ => ([]), fun _ => ([]), fun _ => (fun _ => .none), fun _ => default, fun _ => (⟨fun _ _ => 0, nPar⟩), fun _ => (fun _ _ => True), fun _ => default, fun _ => ({}), fun _ => default, fun _ => ([]), fun _ => default, fun _ => ({}), fun _ => (.none), fun _ => (⟨0,0,0,0,0⟩), fun _ => (⟨0,0,0,0,0,0,0,0,0,0,0,0,0,0,0,0,0,0,0,0,0,0,0,0⟩), fun _ => (⟨0,0,0,0⟩), fun _ => (⟨0⟩), fun _ => default, fun _ => (.none), fun _ => ([]), fun _ => ([]), fun _ => (fun _ => .none), fun _ => ([]), fun _ => (true), fun _ => (.none), fun _ => ([]), fun _ => ([]), fun _ => (fun _ _ => True), fun _ => (#[]), fun _ => default)
noncomputable def uN (v : U) : Nat → Nat := v.1
noncomputable def uI (v : U) : Nat → Int := v.2.1
noncomputable def uV (v : U) : Nat → Value := v.2.2.1
noncomputable def uVs (v : U) : Nat → (List Value) := v.2.2.2.1
noncomputable def uIs (v : U) : Nat → (List Int) := v.2.2.2.2.1
noncomputable def uM (v : U) : Nat → (Str → Option Value) := v.2.2.2.2.2.1
noncomputable def uPr (v : U) : Nat → Program := v.2.2.2.2.2.2.1
noncomputable def uW (v : U) : Nat → World := v.2.2.2.2.2.2.2.1
noncomputable def uQ (v : U) : Nat → (Value → Shared → Prop) := v.2.2.2.2.2.2.2.2.1
noncomputable def uS (v : U) : Nat → Str := v.2.2.2.2.2.2.2.2.2.1
noncomputable def uSh (v : U) : Nat → Shared := v.2.2.2.2.2.2.2.2.2.2.1
noncomputable def uO (v : U) : Nat → Obj := v.2.2.2.2.2.2.2.2.2.2.2.1
noncomputable def uL (v : U) : Nat → (List (Addr × Obj)) := v.2.2.2.2.2.2.2.2.2.2.2.2.1
noncomputable def uH (v : U) : Nat → Heap := v.2.2.2.2.2.2.2.2.2.2.2.2.2.1
noncomputable def uA (v : U) : Nat → PySem.Around := v.2.2.2.2.2.2.2.2.2.2.2.2.2.2.1
noncomputable def uSt (v : U) : Nat → (Option (Int × Int)) := v.2.2.2.2.2.2.2.2.2.2.2.2.2.2.2.1
noncomputable def uGT (v : U) : Nat → GT := v.2.2.2.2.2.2.2.2.2.2.2.2.2.2.2.2.1
noncomputable def uBT (v : U) : Nat → BT := v.2.2.2.2.2.2.2.2.2.2.2.2.2.2.2.2.2.1
noncomputable def uLT (v : U) : Nat → LT := v.2.2.2.2.2.2.2.2.2.2.2.2.2.2.2.2.2.2.1
noncomputable def uMT (v : U) : Nat → MT := v.2.2.2.2.2.2.2.2.2.2.2.2.2.2.2.2.2.2.2.1
noncomputable def uSc (v : U) : Nat → Scope := v.2.2.2.2.2.2.2.2.2.2.2.2.2.2.2.2.2.2.2.2.1
noncomputable def uCs (v : U) : Nat → (Option (List Code)) := v.2.2.2.2.2.2.2.2.2.2.2.2.2.2.2.2.2.2.2.2.2.1
noncomputable def uSs (v : U) : Nat → (List Str) := v.2.2.2.2.2.2.2.2.2.2.2.2.2.2.2.2.2.2.2.2.2.2.1
noncomputable def uEs (v : U) : Nat → (List Env) := v.2.2.2.2.2.2.2.2.2.2.2.2.2.2.2.2.2.2.2.2.2.2.2.1
noncomputable def uX (v : U) : Nat → (ExcName → Option Value) := v.2.2.2.2.2.2.2.2.2.2.2.2.2.2.2.2.2.2.2.2.2.2.2.2.1
noncomputable def uCl (v : U) : Nat → (List (Str × Addr)) := v.2.2.2.2.2.2.2.2.2.2.2.2.2.2.2.2.2.2.2.2.2.2.2.2.2.1
noncomputable def uB (v : U) : Nat → Bool := v.2.2.2.2.2.2.2.2.2.2.2.2.2.2.2.2.2.2.2.2.2.2.2.2.2.2.1
noncomputable def uOA (v : U) : Nat → (Option Addr) := v.2.2.2.2.2.2.2.2.2.2.2.2.2.2.2.2.2.2.2.2.2.2.2.2.2.2.2.1
noncomputable def uSm (v : U) : Nat → (List Stmt) := v.2.2.2.2.2.2.2.2.2.2.2.2.2.2.2.2.2.2.2.2.2.2.2.2.2.2.2.2.1
noncomputable def uRs (v : U) : Nat → (List (Int × Int × Int)) := v.2.2.2.2.2.2.2.2.2.2.2.2.2.2.2.2.2.2.2.2.2.2.2.2.2.2.2.2.2.1
noncomputable def uF (v : U) : Nat → (Flow → Shared → Prop) := v.2.2.2.2.2.2.2.2.2.2.2.2.2.2.2.2.2.2.2.2.2.2.2.2.2.2.2.2.2.2.1
noncomputable def uOs (v : U) : Nat → (Array (Option Value)) := v.2.2.2.2.2.2.2.2.2.2.2.2.2.2.2.2.2.2.2.2.2.2.2.2.2.2.2.2.2.2.2.1
noncomputable def uAr (v : U) : Nat → Arguments := v.2.2.2.2.2.2.2.2.2.2.2.2.2.2.2.2.2.2.2.2.2.2.2.2.2.2.2.2.2.2.2.2
theorem nU : Nonempty U := ⟨u0⟩
theorem hkU {P : U → Prop} (h : P (ep nU P)) (v : U) : P v := hk1 (i := nU) h v
theorem foldQE {M : Model} {A : Around} {α : Type} {c : Sem α} {Q : α → Shared → Prop} {E : Value → Shared → Prop} {s : Shared} (h : ∀ q, q = Q → ∀ e, e = E → wpAny M A c q e s) : wpAny M A c Q E s := h _ rfl _ rfl
theorem unf2 {α β : Type} {q Q : α → β → Prop} (h : q = Q) {v : α} {s : β} (k : Q v s) : q v s := h ▸ k
theorem po_unf {M : Model} {A : Around} {env : Env} {e E : Value → Shared → Prop} (h : e = E) (k : PassesOwn M A env E) : PassesOwn M A env e := h ▸ k
end Mine
end
section
namespace Mine
def spread1 (l : List (Option Int)) (r : Int × Int × Int) : List (Option Int) :=
  l.take (r.1 - 1).toNat ++ List.replicate (r.2.1 - r.1).toNat none ++ l.drop (r.1 - 1 + r.2.2).toNat
def spreadAll (l : List (Option Int)) (rows : List (Int × Int × Int)) : List (Option Int) := rows.foldl spread1 l
theorem spreadAll_snoc (l : List (Option Int)) (rows : List (Int × Int × Int)) (r : Int × Int × Int) : spreadAll l (rows ++ [r]) = spread1 (spreadAll l rows) r := by
  simp [spreadAll]
/-- the newer text agrees with the elder one where the rows say so -/
def Agree (T E : List Int) (left : List (Option Int)) : Prop :=
  left.length = T.length ∧ ∀ (i : Nat) (k t : Int), left[i]? = some (some k) → T[i]? = some t → 0 ≤ k ∧ E[k.toNat]? = some t
theorem agree_edit {T E xs : List Int} {left : List (Option Int)} {lo hi : Int} (h : Agree T E left) (_h1 : 1 ≤ lo) (h2 : lo ≤ hi) (h3 : hi - 1 ≤ T.length) :
    Agree (T.take (lo - 1).toNat ++ xs ++ T.drop (hi - 1).toNat) E (spread1 left (lo, lo + (xs.length : Int), hi - lo)) := by
  obtain ⟨hl, ha⟩ := h
  have e1 : (lo + (xs.length : Int) - lo).toNat = xs.length := by omega
  have e2 : (lo - 1 + (hi - lo)).toNat = (hi - 1).toNat := by omega
  unfold spread1
  dsimp only
  rw [e1, e2]
  refine ⟨by simp only [List.length_append, List.length_take, List.length_drop, List.length_replicate, hl], ?_⟩
  intro i k t hk ht
  have lt1 : (T.take (lo - 1).toNat).length = (lo - 1).toNat := by rw [List.length_take]; omega
  have lt2 : (left.take (lo - 1).toNat).length = (lo - 1).toNat := by rw [List.length_take]; omega
  rw [List.append_assoc] at hk ht
  by_cases c1 : i < (lo - 1).toNat
  · rw [List.getElem?_append_left (by omega), List.getElem?_take_of_lt c1] at hk ht
    exact ha i k t hk ht
  · rw [List.getElem?_append_right (by omega), lt1] at ht
    rw [List.getElem?_append_right (by omega), lt2] at hk
    by_cases c2 : i - (lo - 1).toNat < xs.length
    · rw [List.getElem?_append_left (by rw [List.length_replicate]; omega), List.getElem?_replicate] at hk
      rw [if_pos c2] at hk
      cases hk
    · rw [List.getElem?_append_right (by rw [List.length_replicate]; omega), List.length_replicate, List.getElem?_drop] at hk
      rw [List.getElem?_append_right (by omega), List.getElem?_drop] at ht
      exact ha _ k t hk ht
theorem agree_self (T : List Int) : Agree T T ((PySem.W.rangeKs 0 T.length).map some) := by
  refine ⟨by rw [List.length_map, PySem.W.rangeKs_length], ?_⟩
  intro i k t hk ht
  unfold PySem.W.rangeKs at hk
  rw [List.map_map, List.getElem?_map] at hk
  cases hr : (List.range T.length)[i]? with
  | none => rw [hr] at hk; cases hk
  | some j =>
    rw [hr] at hk
    have hj : j = i := by
      rcases Nat.lt_or_ge i T.length with c | c
      · rw [List.getElem?_range c] at hr; exact (Option.some.inj hr).symm
      · rw [List.getElem?_eq_none (by rw [List.length_range]; exact c)] at hr; cases hr
    subst hj
    have e : (0 : Int) + (j : Int) = k := by simpa using hk
    subst e
    refine ⟨by omega, ?_⟩
    rw [show ((0 : Int) + (j : Int)).toNat = j by omega]
    exact ht
/-- what the log's stretch says of the two texts -/
def Stretch (T E : List Int) (st : Option (Int × Int)) (g : Int) : Prop :=
  g = (T.length : Int) - E.length ∧ match st with
  | none => T = E
  | some (b, e) => 1 ≤ b ∧ b ≤ e ∧ e ≤ T.length + 1 ∧ 0 ≤ e - b - g ∧ T.take (b - 1).toNat = E.take (b - 1).toNat ∧ T.drop (e - 1).toNat = E.drop (e - 1 - g).toNat
theorem stretch_self (T : List Int) : Stretch T T none 0 := ⟨by omega, rfl⟩
theorem cut_take {T X Y : List Int} {p k : Nat} (h : p ≤ T.length) (hk : k ≤ p) : (T.take p ++ X ++ Y).take k = T.take k := by
  rw [List.append_assoc, List.take_append_of_le_length (by rw [List.length_take, Nat.min_eq_left h]; exact hk), List.take_take, Nat.min_eq_left hk]
theorem cut_drop {T X Y : List Int} {p k : Nat} (h : p ≤ T.length) : (T.take p ++ X ++ Y).drop (p + X.length + k) = Y.drop k := by
  have e : (T.take p ++ X).length = p + X.length := by rw [List.length_append, List.length_take, Nat.min_eq_left h]
  rw [← e, ← List.drop_drop, List.drop_left]
theorem int1 (p : Nat) : ((p : Int) + 1 - 1).toNat = p := by rw [Int.add_sub_cancel]; rfl
theorem stretch_edit {T E xs : List Int} {st : Option (Int × Int)} {g lo hi : Int} (h : Stretch T E st g) (h1 : 1 ≤ lo) (h2 : lo ≤ hi) (h3 : hi - 1 ≤ T.length) :
    Stretch (T.take (lo - 1).toNat ++ xs ++ T.drop (hi - 1).toNat) E (stNext st lo (lo + (xs.length : Int)) (hi - lo)) (g + (lo + (xs.length : Int) - lo - (hi - lo))) := by
  obtain ⟨p, hp⟩ : ∃ p : Nat, lo = (p : Int) + 1 := ⟨(lo - 1).toNat, by omega⟩
  obtain ⟨o, ho⟩ : ∃ o : Nat, hi = ((p + o : Nat) : Int) + 1 := ⟨(hi - lo).toNat, by omega⟩
  obtain ⟨t, ht⟩ : ∃ t : Nat, T.length = p + o + t := ⟨T.length - (p + o), by omega⟩
  subst hp ho
  clear h1 h2 h3
  have hpT : p ≤ T.length := by rw [ht, Nat.add_assoc]; exact Nat.le_add_right ..
  have e0 : (p : Int) + 1 + (xs.length : Int) - ((p : Int) + 1) - (((p + o : Nat) : Int) + 1 - ((p : Int) + 1)) = (xs.length : Int) - o := by clear h ht hpT; omega
  have eo : ((p + o : Nat) : Int) + 1 - ((p : Int) + 1) = (o : Int) := by clear h ht hpT e0; omega
  have hl : (T.take p ++ xs ++ T.drop (p + o)).length = p + xs.length + t := by
    rw [List.length_append, List.length_append, List.length_take, Nat.min_eq_left hpT, List.length_drop, ht, Nat.add_sub_cancel_left]
  rw [e0, eo, int1, int1]
  obtain ⟨hg, hs⟩ := h
  refine ⟨by rw [hl, hg, ht]; clear hs hg e0 eo hl hpT ht; omega, ?_⟩
  cases st with
  | none =>
    have hs' : T = E := hs
    subst hs'
    have hg0 : g = 0 := by rw [hg]; exact Int.sub_self _
    subst hg0
    show 1 ≤ (p : Int) + 1 ∧ (p : Int) + 1 ≤ (p : Int) + 1 + (xs.length : Int) ∧ _ ∧ _ ∧ _ ∧ _
    have e2 : ((p : Int) + 1 + (xs.length : Int) - 1).toNat = p + xs.length := by clear hs hg e0 eo hl ht hpT; omega
    have e3 : ((p : Int) + 1 + (xs.length : Int) - 1 - (0 + ((xs.length : Int) - o))).toNat = p + o := by clear hs hg e0 eo hl ht e2 hpT; omega
    refine ⟨by clear hs hg e0 eo hl ht e2 e3 hpT; omega, by clear hs hg e0 eo hl ht e2 e3 hpT; omega, by rw [hl]; clear hs hg e0 eo hl ht e2 e3 hpT; omega, by clear hs hg e0 eo hl ht e2 e3 hpT; omega, ?_, ?_⟩
    · rw [int1]; exact cut_take hpT (Nat.le_refl _)
    · rw [e2, e3]; exact cut_drop (k := 0) hpT
  | some be =>
    obtain ⟨b, e⟩ := be
    obtain ⟨s1, s2, s3, s4, s5, s6⟩ : 1 ≤ b ∧ b ≤ e ∧ e ≤ T.length + 1 ∧ 0 ≤ e - b - g ∧ T.take (b - 1).toNat = E.take (b - 1).toNat ∧ T.drop (e - 1).toNat = E.drop (e - 1 - g).toNat := hs
    obtain ⟨β, hβ⟩ : ∃ β : Nat, b = (β : Int) + 1 := ⟨(b - 1).toNat, by clear ht hl e0 eo s5 s6 hg; omega⟩
    obtain ⟨d, hd⟩ : ∃ d : Nat, e = ((β + d : Nat) : Int) + 1 := ⟨(e - b).toNat, by clear ht hl e0 eo s5 s6 hg; omega⟩
    subst hβ hd
    rw [int1] at s5 s6
    show 1 ≤ (if (p : Int) + 1 < (β : Int) + 1 then (p : Int) + 1 else (β : Int) + 1) ∧ (if (p : Int) + 1 < (β : Int) + 1 then (p : Int) + 1 else (β : Int) + 1) ≤ (if ((β + d : Nat) : Int) + 1 ≥ (p : Int) + 1 + (o : Int) then ((β + d : Nat) : Int) + 1 + ((p : Int) + 1 + (xs.length : Int) - ((p : Int) + 1) - (o : Int)) else (p : Int) + 1 + (xs.length : Int)) ∧ _ ∧ _ ∧ _ ∧ _
    obtain ⟨q, hq, hq1, hq2⟩ : ∃ q : Nat, (if (p : Int) + 1 < (β : Int) + 1 then (p : Int) + 1 else (β : Int) + 1) = (q : Int) + 1 ∧ q ≤ p ∧ q ≤ β := by
      split
      · exact ⟨p, rfl, Nat.le_refl _, by clear ht hl e0 eo s5 s6 s1 s2 s3 s4 hg; omega⟩
      · exact ⟨β, rfl, by clear ht hl e0 eo s5 s6 s1 s2 s3 s4 hg; omega, Nat.le_refl _⟩
    rw [hq]
    have htk : (T.take p ++ xs ++ T.drop (p + o)).take ((q : Int) + 1 - 1).toNat = E.take ((q : Int) + 1 - 1).toNat := by
      rw [int1, cut_take hpT hq1]
      have := congrArg (fun l => l.take q) s5
      simp only [List.take_take] at this
      rw [Nat.min_eq_left hq2] at this
      exact this
    clear s1 s5 hq
    by_cases c : ((β + d : Nat) : Int) + 1 ≥ (p : Int) + 1 + (o : Int)
    · rw [if_pos c]
      obtain ⟨u, hu⟩ : ∃ u : Nat, β + d = p + o + u := ⟨β + d - (p + o), by clear ht hl e0 eo s6 s2 s3 s4 htk hg; omega⟩
      have e2 : (((β + d : Nat) : Int) + 1 + ((p : Int) + 1 + (xs.length : Int) - ((p : Int) + 1) - (o : Int)) - 1).toNat = p + xs.length + u := by clear ht hl e0 eo s6 s2 s3 s4 htk hg c; omega
      have e3 : ((β + d : Nat) : Int) + 1 + ((p : Int) + 1 + (xs.length : Int) - ((p : Int) + 1) - (o : Int)) - 1 - (g + ((xs.length : Int) - o)) = ((β + d : Nat) : Int) + 1 - 1 - g := by clear ht hl e0 eo s6 s2 s3 s4 htk hg c e2; omega
      refine ⟨by clear ht hl e0 eo s6 s2 s3 s4 htk hg c e2 e3; omega, by clear ht hl e0 eo s6 s3 s4 htk hg c e2 e3; omega, by rw [hl]; rw [ht] at s3; clear ht hl e0 eo s6 s4 htk hg c e2 e3; omega, by clear ht hl e0 eo s6 s2 s3 htk hg c e2 e3; omega, htk, ?_⟩
      rw [e2, e3, ← s6, hu, cut_drop hpT, List.drop_drop]
    · rw [if_neg c]
      obtain ⟨u, hu⟩ : ∃ u : Nat, p + o = β + d + u := ⟨p + o - (β + d), by clear ht hl e0 eo s6 s2 s3 s4 htk hg; omega⟩
      have e2 : ((p : Int) + 1 + (xs.length : Int) - 1).toNat = p + xs.length := by clear ht hl e0 eo s6 s2 s3 s4 htk hg c; omega
      have e3 : ((p : Int) + 1 + (xs.length : Int) - 1 - (g + ((xs.length : Int) - o))).toNat = (((β + d : Nat) : Int) + 1 - 1 - g).toNat + u := by clear ht hl e0 eo s6 s2 s3 htk hg c e2; omega
      refine ⟨by clear ht hl e0 eo s6 s2 s3 s4 htk hg c e2 e3; omega, by clear ht hl e0 eo s6 s2 s3 s4 htk hg c e2 e3 hu; omega, by rw [hl]; clear ht hl e0 eo s6 s2 s3 s4 htk hg c e2 e3 hu; omega, by clear ht hl e0 eo s6 s2 s3 htk hg c e2 e3; omega, htk, ?_⟩
      have h0 := cut_drop (T := T) (X := xs) (Y := T.drop (p + o)) (p := p) (k := 0) hpT
      rw [Nat.add_zero, List.drop_zero] at h0
      have h5 : E.drop ((((β + d : Nat) : Int) + 1 - 1 - g).toNat + u) = T.drop (β + d + u) := by rw [← List.drop_drop, ← s6, List.drop_drop]
      rw [e2, e3, h5, h0, hu]
end Mine
end
section
open PySem PySem.W PySem.Spec PySem.Calls PyProof.Rows
namespace Mine
def spreadV1 (l : List Value) (r : Int × Int × Int) : List Value :=
  l.take (r.1 - 1).toNat ++ List.replicate (r.2.1 - r.1).toNat .none ++ l.drop (r.1 - 1 + r.2.2).toNat
def spreadV (l : List Value) (rows : List (Int × Int × Int)) : List Value := rows.foldl spreadV1 l
/-- the log's rows, each a tuple of the ledger -/
inductive RowsAre (news : List (Addr × Obj)) : List Value → List (Int × Int × Int) → Prop
  | nil : RowsAre news [] []
  | cons {q : Addr} {x y o : Int} {a b c : Tok} {rv : List Value} {rows : List (Int × Int × Int)} : (q, tup3 x y o a b c) ∈ news → RowsAre news rv rows → RowsAre news (.ref q :: rv) ((x, y, o) :: rows)
def RowOk (r : Int × Int × Int) : Prop := 1 ≤ r.1 ∧ r.1 ≤ r.2.1 ∧ 0 ≤ r.2.2 ∧ r.2.1 ≤ 1000 ∧ r.2.2 ≤ 1000
/-- the lists stay small, whatever is left of the rows -/
def SzOk (n k : Nat) : Prop := (n + 1000) * 2 ^ k ≤ 128000
theorem szOk_le {n k : Nat} (h : SzOk n k) : n ≤ 127000 := by
  have h2 : 1 ≤ 2 ^ k := Nat.one_le_two_pow
  have h3 : n + 1000 ≤ (n + 1000) * 2 ^ k := Nat.le_mul_of_pos_right _ h2
  have h4 := Nat.le_trans h3 h
  omega
theorem szOk_step {n n' k : Nat} (h : SzOk n (k + 1)) (h' : n' ≤ 2 * n + 1000) : SzOk n' k := by
  unfold SzOk at *
  have e : (n + 1000) * 2 ^ (k + 1) = (2 * n + 2000) * 2 ^ k := by rw [Nat.pow_succ, Nat.mul_comm (2 ^ k) 2, ← Nat.mul_assoc, show (n + 1000) * 2 = 2 * n + 2000 by omega]
  have := Nat.mul_le_mul_right (2 ^ k) (show n' + 1000 ≤ 2 * n + 2000 by omega)
  omega
theorem spreadV1_len {l : List Value} {x y o : Int} (h : RowOk (x, y, o)) : (spreadV1 l (x, y, o)).length ≤ 2 * l.length + 1000 := by
  obtain ⟨h1, h2, h3, h4, h5⟩ := h
  unfold spreadV1
  rw [List.length_append, List.length_append, List.length_take, List.length_drop, List.length_replicate]
  dsimp only at *
  omega
/-- a loop over listed items by a word over what is left of them, the frame and the ledger -/
theorem rest_induct {prog : Program} {w : World} {A : Around} {E : Value → Shared → Prop} {h₀ : Heap} {env : Env} {target : PySem.Expr} {body : List Stmt} {Q : Flow → Shared → Prop} {s : Shared} {ws : List (Addr × String)} {keep : List (Addr × Obj)}
    (J : List Itm → (Str → Option Value) → List (Addr × Obj) → Prop)
    (nil : ∀ m news, J [] m news → ∀ h tk, Fr h₀ env.locals h m → News h₀ env.locals h news → Q .next { s with heap := h, toks := tk })
    (cons : ∀ a r m news, J (a :: r) m news → ∀ v h tk, a.Is v h → Fr h₀ env.locals h m → AllObj ws (fun its => News h₀ env.locals h (its ++ news) →
      wpAny (model prog w) A (assign target env v) (fun _ s₂ => wpAny (model prog w) A (execs body env) (UnrPostW h₀ env.locals { s with heap := h, toks := tk } its (fun m' n' => SubL keep n' ∧ J r m' n') Q) E s₂) E { s with heap := h, toks := tk })) :
    ∀ xs m news, J xs m news → ItemsRest prog w A E h₀ env target body Q s ws keep xs m news := by
  intro xs
  induction xs with
  | nil => intro m news hJ; exact nil m news hJ
  | cons a r ih =>
    intro m news hJ v h tk hv F
    have key : ∀ (ws' : List (Addr × String)) (k k' : List (Addr × Obj) → Prop), (∀ its, k its → k' its) → AllObj ws' k → AllObj ws' k' := by
      intro ws'
      induction ws' with
      | nil => intro k k' hk x; exact hk [] x
      | cons w r ih' => intro k k' hk x o ho; exact ih' _ _ (fun its y => hk _ y) (x o ho)
    refine key ws _ _ (fun its x N => ?_) (cons a r m news hJ v h tk hv F)
    refine wpAny_mono (x N) (fun _ s₂ p => wpAny_mono p (fun f s₃ q => ?_) fun _ _ e => e) fun _ _ e => e
    cases f with
    | ret v => exact q
    | brk => exact q
    | next =>
      obtain ⟨h', tk', m', news', e, F', N', hn, hs, hj⟩ := q
      exact ⟨h', tk', m', news', e, F', N', hn, hs, ih m' news' hj⟩
    | cont =>
      obtain ⟨h', tk', m', news', e, F', N', hn, hs, hj⟩ := q
      exact ⟨h', tk', m', news', e, F', N', hn, hs, ih m' news' hj⟩
section
variable {prog : Program} {w : World} {A : Around} {E : Value → Shared → Prop} {s : Shared} {h₀ : Heap} {L l b : Addr} {m : Str → Option Value} {news : List (Addr × Obj)} {value slice : PySem.Expr} {vs us : List Value} {x : Int} {v : Value} {n k : Nat} {t : Tok} {Q : Value → Shared → Prop}
theorem cut_upto (F : Fr h₀ L s.heap m) (N : News h₀ L s.heap news) (hl : (l, listOf vs.toArray n) ∈ news) (h0 : 0 ≤ x) (hz : vs.length ≤ 10000000)
    (h : ∀ D h', Fr h₀ L h' m → News h₀ L h' ((D, listOf (vs.take x.toNat).toArray 0) :: news) → (∀ p ∈ news, p.1 < D) → Q (.ref D) { s with heap := h' })
    (hs : subscripted slice false (.ref l) (.ref s.heap.objs.size) = operate [.ref s.heap.objs.size, .ref l] (getItem (.ref l) (.ref s.heap.objs.size))) (ht : ∀ r, letTemporaryGo value (.ref l) r = pure ()) :
    wpAny (model prog w) A (subscriptTail value slice (.ref l) (.ref s.heap.objs.size)) Q E { s with heap := s.heap.push { cls := .type "slice", data := .fields #[.none, .int x t, .none] } } := by
  refine kmk_slice_lit F N (News.isList N hl) .none (.int x t) ?_ h hs ht (by rw [PySem.sizeLine_eq]; simp only [List.size_toArray]; omega)
  have e : sliceBounds none (some x) none vs.toArray.size = (((0 : Nat) : Int), ((min x.toNat vs.toArray.size : Nat) : Int), 1) := by
    simp only [sliceBounds, Option.getD_none, show (1 : Int) > 0 by decide, if_true, if_neg (show ¬ (x < 0) by omega)]
    congr 1
    congr 1
    omega
  rw [kmk_pick_nat _ e]
  show (vs.drop 0).take (min x.toNat vs.toArray.size - 0) = _
  rw [List.drop_zero, Nat.sub_zero, List.size_toArray, kmk_take_min]
theorem cut_from (F : Fr h₀ L s.heap m) (N : News h₀ L s.heap news) (hl : (l, listOf vs.toArray n) ∈ news) (h0 : 0 ≤ x) (hz : vs.length ≤ 10000000)
    (h : ∀ D h', Fr h₀ L h' m → News h₀ L h' ((D, listOf (vs.drop x.toNat).toArray 0) :: news) → (∀ p ∈ news, p.1 < D) → Q (.ref D) { s with heap := h' })
    (hs : subscripted slice false (.ref l) (.ref s.heap.objs.size) = operate [.ref s.heap.objs.size, .ref l] (getItem (.ref l) (.ref s.heap.objs.size))) (ht : ∀ r, letTemporaryGo value (.ref l) r = pure ()) :
    wpAny (model prog w) A (subscriptTail value slice (.ref l) (.ref s.heap.objs.size)) Q E { s with heap := s.heap.push { cls := .type "slice", data := .fields #[.int x t, .none, .none] } } := by
  refine kmk_slice_lit F N (News.isList N hl) (.int x t) .none ?_ h hs ht (by rw [PySem.sizeLine_eq]; simp only [List.size_toArray]; omega)
  have e : sliceBounds (some x) none none vs.toArray.size = (((min x.toNat vs.toArray.size : Nat) : Int), ((vs.toArray.size : Nat) : Int), 1) := by
    simp only [sliceBounds, Option.getD_none, show (1 : Int) > 0 by decide, if_true, if_neg (show ¬ (x < 0) by omega)]
    congr 1
    omega
  rw [kmk_pick_nat _ e]
  show (vs.drop (min x.toNat vs.toArray.size)).take (vs.toArray.size - min x.toNat vs.toArray.size) = _
  rw [List.size_toArray, kmk_drop_min, List.take_of_length_le (by rw [List.length_drop]; omega)]
theorem mul_one (F : Fr h₀ L s.heap m) (N : News h₀ L s.heap news) (hl : (l, listOf #[v] k) ∈ news) (h0 : 0 ≤ x) (h1 : x ≤ 10000)
    (h : ∀ D h', Fr h₀ L h' m → News h₀ L h' ((D, listOf (List.replicate x.toNat v).toArray 0) :: news) → (∀ p ∈ news, p.1 < D) → Q (.ref D) { s with heap := h' }) : wpAny (model prog w) A (binaryOp .Mult (.ref l) (.int x t)) Q E s := by
  refine mul_list F N (N _ hl).1 (by omega) (by omega) (by simp only [List.size_toArray, List.length_cons, List.length_nil]; omega) fun h' F' N' => ?_
  have e : List.foldl (fun x1 x2 => x1 ++ x2) #[] (List.replicate (if (#[v] : Array Value).isEmpty = true then 0 else x.toNat) #[v]) = (List.replicate x.toNat v).toArray := by
    have := listMul_foldl_if #[v] x.toNat
    rw [List.flatten_replicate_singleton] at this
    exact this
  rw [e] at N'
  exact h _ h' F' N' fun p hp => Heap.lt_size (N p hp).1
theorem add_raw (F : Fr h₀ L s.heap m) (N : News h₀ L s.heap news) (hl : (l, listOf vs.toArray n) ∈ news) (hb : (b, listOf us.toArray k) ∈ news) (hz : vs.length + us.length ≤ 10000000)
    (h : ∀ D h', Fr h₀ L h' m → News h₀ L h' ((D, listOf (vs ++ us).toArray 0) :: news) → (∀ p ∈ news, p.1 < D) → Q (.ref D) { s with heap := h' }) : wpAny (model prog w) A (binaryOp .Add (.ref l) (.ref b)) Q E s :=
  add_arrays F N (News.isList N hl) (News.isList N hb) (hsz := by rw [PySem.sizeLine_eq]; simp only [List.size_toArray]; omega) fun h' F' N' => h _ h' F' N' fun p hp => Heap.lt_size (N p hp).1
end
theorem skip2 {α : Type} {a b c : α} {l : List α} : ∀ p ∈ a :: l, p ∈ a :: b :: c :: l := fun p hp => by
  rcases List.mem_cons.mp hp with e | e
  · rw [e]; exact .head _
  · exact .tail _ (.tail _ (.tail _ e))
theorem map_has {m : Str → Option Value} {x : Str} {v : Value} (h : m x = some v) : m = fun z => if z = x then some v else m z := by
  funext z
  by_cases c : z = x
  · rw [if_pos c, c]; exact h
  · rw [if_neg c]
end Mine
end
section
open PySem PySem.W PySem.Spec PySem.Calls PyProof.Rows
namespace Mine
/-- values that are ints or None -/
inductive VAre : List Value → List (Option Int) → Prop
  | nil : VAre [] []
  | non {vs : List Value} {os : List (Option Int)} : VAre vs os → VAre (.none :: vs) (none :: os)
  | int {vs : List Value} {os : List (Option Int)} {k : Int} {t : Tok} : VAre vs os → VAre (.int k t :: vs) (some k :: os)
theorem VAre.length {vs : List Value} {os : List (Option Int)} (h : VAre vs os) : vs.length = os.length := by
  induction h with
  | nil => rfl
  | non _ ih => rw [List.length_cons, List.length_cons, ih]
  | int _ ih => rw [List.length_cons, List.length_cons, ih]
theorem VAre.take {vs : List Value} {os : List (Option Int)} (h : VAre vs os) : ∀ n, VAre (vs.take n) (os.take n) := by
  induction h with
  | nil => intro n; rw [List.take_nil, List.take_nil]; exact .nil
  | non _ ih => intro n; cases n with
    | zero => exact .nil
    | succ n => exact .non (ih n)
  | int _ ih => intro n; cases n with
    | zero => exact .nil
    | succ n => exact .int (ih n)
theorem VAre.drop {vs : List Value} {os : List (Option Int)} (h : VAre vs os) : ∀ n, VAre (vs.drop n) (os.drop n) := by
  induction h with
  | nil => intro n; rw [List.drop_nil, List.drop_nil]; exact .nil
  | non h ih => intro n; cases n with
    | zero => exact .non h
    | succ n => exact ih n
  | int h ih => intro n; cases n with
    | zero => exact .int h
    | succ n => exact ih n
theorem VAre.append {vs us : List Value} {os ps : List (Option Int)} (h : VAre vs os) (h2 : VAre us ps) : VAre (vs ++ us) (os ++ ps) := by
  induction h with
  | nil => exact h2
  | non _ ih => exact .non ih
  | int _ ih => exact .int ih
theorem VAre.nones : ∀ n : Nat, VAre (List.replicate n .none) (List.replicate n none)
  | 0 => .nil
  | n + 1 => .non (VAre.nones n)
theorem VAre.ints {vs : List Value} {ns : List Int} (h : IntsAre vs ns) : VAre vs (ns.map some) := by
  induction h with
  | nil => exact .nil
  | cons n t _ ih => exact .int ih
theorem VAre.get {vs : List Value} {os : List (Option Int)} (h : VAre vs os) : ∀ {i : Nat} {v : Value}, vs[i]? = some v → v = .none ∨ ∃ k t, os[i]? = some (some k) ∧ v = .int k t := by
  induction h with
  | nil => intro i v e; cases e
  | non _ ih =>
    intro i v e
    cases i with
    | zero => exact .inl (Option.some.inj e).symm
    | succ i => exact ih e
  | int _ ih =>
    intro i v e
    cases i with
    | zero => exact .inr ⟨_, _, rfl, (Option.some.inj e).symm⟩
    | succ i => exact ih e
theorem spread_vare (rows : List (Int × Int × Int)) : ∀ {vs : List Value} {os : List (Option Int)}, VAre vs os → VAre (spreadV vs rows) (spreadAll os rows) := by
  induction rows with
  | nil => intro vs os h; exact h
  | cons r rows ih => intro vs os h; exact ih (((h.take _).append (.nones _)).append (h.drop _))
theorem rowsAre_len {news : List (Addr × Obj)} {rv : List Value} {rows : List (Int × Int × Int)} (h : RowsAre news rv rows) : rv.length = rows.length := by
  induction h with
  | nil => rfl
  | cons _ _ ih => rw [List.length_cons, List.length_cons, ih]
theorem rowsAre_mono {news news' : List (Addr × Obj)} {rv : List Value} {rows : List (Int × Int × Int)} (h : RowsAre news rv rows) (hs : ∀ p ∈ news, p ∈ news') : RowsAre news' rv rows := by
  induction h with
  | nil => exact .nil
  | cons hm _ ih => exact .cons (hs _ hm) ih
theorem rowsAre_snoc {news : List (Addr × Obj)} {rv : List Value} {rows : List (Int × Int × Int)} {q : Addr} {x y o : Int} {a b c : Tok} (h : RowsAre news rv rows) (hq : (q, tup3 x y o a b c) ∈ news) : RowsAre news (rv ++ [.ref q]) (rows ++ [(x, y, o)]) := by
  induction h with
  | nil => exact .cons hq .nil
  | cons hm _ ih => exact .cons hm ih
/-- the test of the comprehension: where the spread keeps a place, both signs are the same -/
theorem zip_same {T E : List Int} {left : List (Option Int)} {tv lv : List Value} (hT : IntsAre tv T) (hl : VAre lv left) (ha : Agree T E left) {i : Nat} {x y : Value} (hx : tv[i]? = some x) (hy : lv[i]? = some y) :
    ∃ t tt, x = .int t tt ∧ (y = .none ∨ ∃ k tk, y = .int k tk ∧ 0 ≤ k ∧ E[k.toNat]? = some t) := by
  obtain ⟨hlen, ha⟩ := ha
  have hi : i < T.length := by
    rw [← hT.length]
    rcases Nat.lt_or_ge i tv.length with c | c
    · exact c
    · rw [List.getElem?_eq_none c] at hx; cases hx
  obtain ⟨tt, ht⟩ := hT.get i T[i] (List.getElem?_eq_getElem hi)
  rw [ht] at hx
  have e := (Option.some.inj hx).symm
  refine ⟨T[i], tt, e, ?_⟩
  rcases hl.get hy with e | ⟨k, tk, hk, e⟩
  · exact .inl e
  · exact .inr ⟨k, tk, e, ha i k T[i] hk (List.getElem?_eq_getElem hi)⟩
end Mine
end
section
open PySem PySem.W PySem.Spec PySem.Calls PyProof.Rows PyProof.Rows.LCg
set_option maxRecDepth 100000
namespace Mine
/-- a comprehension over pairs whose test holds nowhere: its source, one turn's test, its end -/
def ZcSrc (prog : Program) (w : World) (A : Around) (h₀ : Heap) (L : Addr) (m : Str → Option Value) (env : Env) (c : PySem.Expr) (a b : Str) (scope : Scope) (cl : List (Str × Addr)) (Q : Value → Shared → Prop) (xv : Value) (s₁ : Shared) : Prop :=
  ∃ (I : Addr) (fp wr : List Addr) (n : Nat) (Pt : Nat → Array Value → Prop) (St : Nat → Heap → Prop) (Mid : Nat → Addr → Heap → Prop) (news : List (Addr × Obj)), xv = .ref I ∧ A.handled = none ∧ WalksU prog w A I fp wr n Pt St Mid ∧
    (∀ i vals, Pt i vals → ∃ x y, vals = #[x, y]) ∧ St 0 s₁.heap ∧ Fr h₀ L s₁.heap m ∧ News h₀ L s₁.heap news ∧ L ∉ fp ∧ (∀ b ∈ fp, b < s₁.heap.objs.size) ∧ (∀ b ∈ wr, h₀.get? b = none) ∧ (∀ p ∈ news, p.1 ∉ wr) ∧
    (∀ (i : Nat) (x y : Value) (C : Addr) (oC : Obj) (m₂ : Str → Option Value) (own : List (Addr × Obj)) (h : Heap) (tk : Nat) (E' : Value → Shared → Prop), Pt i #[x, y] → NsObj oC m₂ → m₂ a = some x → m₂ b = some y → Fr h₀ L h m → News h₀ L h ((C, oC) :: (own ++ news)) →
      wpAny (model prog w) A (isTrue c (compEnvC scope cl C env) (eval c (compEnvC scope cl C env))) (fun okb s₃ => okb = false ∧ ∃ h' tk', s₃ = { s₁ with heap := h', toks := tk' } ∧ Fr h₀ L h' m ∧ News h₀ L h' ((C, oC) :: (own ++ news))) E' { s₁ with heap := h, toks := tk }) ∧
    ∀ D h tk, Fr h₀ L h m → News h₀ L h ((D, lst []) :: news) → (∀ p ∈ news, p.1 < D) → Q (.ref D) { s₁ with heap := h, toks := tk }
section
variable {prog : Program} {w : World} {A : Around} {E : Value → Shared → Prop} {s : Shared} {h₀ : Heap} {L : Addr} {m : Str → Option Value} {env : Env}
theorem zc_ListComp {elt iter c : PySem.Expr} {a b : Str} {pa pb tp : Pos} {kk : Nat} {scope : Scope} {cl : List (Str × Addr)} {pos : Pos} {Q : Value → Shared → Prop} (_F₀ : Fr h₀ L s.heap m)
    (hclos : closureFor scope env = pure cl) (hcell : ∀ y ∈ scope.names, y.2 ≠ .cell) (hkind : scope.kind = .function)
    (hnames : ∀ y ∈ scope.names, y.2 = .local → scope.names.lookup y.1 = some .local) (hxa : scope.names.lookup a = some .local) (hxb : scope.names.lookup b = some .local) (hab : ¬ a = b)
    (h : wpAny (model prog w) A (eval iter env) (ZcSrc prog w A h₀ L m env c a b scope cl Q) E s)
    (hs : ∀ x, foldedSetIterable iter env x = pure x := by intro _; rfl) :
    wpAny (model prog w) A (eval (.ListComp elt [⟨.Tuple [.Name a pa, .Name b pb] kk tp, iter, [c], 0⟩] scope pos) env) Q E s := by
  rw [eval_ListComp]
  refine wpAny_comprehension_free (use := none) rfl hs hclos hkind hnames (wpAny_mono h (fun xv s₁ h₁ => ?_) fun _ _ e => e)
  obtain ⟨I, fp, wr, n, Pt, St, Mid, news, rfl, hh, W, hPt, hst, F, N, hLf, hfp, hwr, hnw, test, fin⟩ := h₁
  refine W.self 0 _ _ _ hst ?_
  refine wpAny_newObj_type (wpAny_newFunctionEnv hcell (by intro y hy; simp at hy) (fun h₁ hns₁ hsb₁ => ?_) hkind)
  dsimp only at hns₁ hsb₁ ⊢
  generalize hH2 : s₁.heap.push { cls := .type "list", dict := none, data := .seq ([] : List Value).toArray } = H2 at hns₁ hsb₁ ⊢
  have hC : H2.objs.size = s₁.heap.objs.size + 1 := by rw [← hH2, Heap.size_push]
  have hDC : s₁.heap.objs.size ≠ H2.objs.size := by rw [hC]; exact Nat.ne_of_lt (Nat.lt_succ_self _)
  have below : ∀ b, b < s₁.heap.objs.size → b ≠ H2.objs.size ∧ b ≠ s₁.heap.objs.size := fun b hb => ⟨by rw [hC]; exact Nat.ne_of_lt (Nat.lt_succ_of_lt hb), Nat.ne_of_lt hb⟩
  have old : ∀ b o, s₁.heap.get? b = some o → h₁.get? b = some o := fun b o e => hsb₁.extBut b o (below b (Heap.lt_size e)).1 (Heap.get?_push_of_some _ (hH2 ▸ Heap.get?_push_of_some _ e))
  have hacc : h₁.get? s₁.heap.objs.size = some (lst []) := hsb₁.extBut _ _ hDC (Heap.get?_push_of_some _ (hH2 ▸ Heap.get?_push_size _ rfl))
  have hst₁ : St 0 h₁ := W.frame _ _ _ hst fun b _ o e => old b o e
  have fresh₀ : ∀ a, s₁.heap.objs.size ≤ a → h₀.get? a = none := fun a ha => by
    cases e : h₀.get? a with
    | none => rfl
    | some o' => exact absurd (Heap.lt_size (F.keep a o' e)) (Nat.not_lt.mpr ha)
  have hD₀ : h₀.get? s₁.heap.objs.size = none := fresh₀ _ (Nat.le_refl _)
  have hC₀ : h₀.get? H2.objs.size = none := fresh₀ _ (by rw [hC]; exact Nat.le_succ _)
  have hLlt : L < s₁.heap.objs.size := F.ns.lt
  have hDL : s₁.heap.objs.size ≠ L := Ne.symm (below L hLlt).2
  have hCL : H2.objs.size ≠ L := Ne.symm (below L hLlt).1
  have hLw : L ∉ wr := fun q => hLf (W.sub _ q)
  have hDw : s₁.heap.objs.size ∉ wr := fun q => Nat.lt_irrefl _ (hfp _ (W.sub _ q))
  have hCw : H2.objs.size ∉ wr := fun q => (below _ (hfp _ (W.sub _ q))).1 rfl
  have hw₀ : ∀ b o, h₀.get? b = some o → b ∉ wr := fun b o e q => by rw [hwr b q] at e; cases e
  have hnb : ∀ p ∈ news, p.1 < s₁.heap.objs.size := fun p hp => Heap.lt_size (N p hp).1
  have loop : ∀ s₃ : Shared, s₃ = { s₁ with heap := h₁, toks := s₁.toks + ([] : List (Str × Value)).length } →
      codeAny (model prog w) A (.compLoop (.ListComp elt [⟨.Tuple [.Name a pa, .Name b pb] kk tp, iter, [c], 0⟩] scope pos) 0 (.ref I) (.ref s₁.heap.objs.size) (compEnvC scope cl H2.objs.size env))
        (compPost (model prog w) A E none Q (.ref s₁.heap.objs.size) H2.objs.size) s₃ := by
    rintro s₃ rfl
    refine kct_loop
      (fun k s' => ∃ h' tk i m', s' = { s₁ with heap := h', toks := tk } ∧ i ≤ n ∧ k = n + 1 - i ∧ St i h' ∧ Fr h₀ L h' m ∧ h'.Ns H2.objs.size m' ∧ News h₀ L h' ((s₁.heap.objs.size, lst []) :: news)) ?_ (n + 1)
      ⟨h₁, _, 0, _, rfl, Nat.zero_le _, rfl, hst₁, F.keeps old, hns₁, fun p hp => ?_⟩
    · rintro k s' ⟨h', tk, i, m', rfl, hi, rfl, hst', F', hn', N'⟩
      by_cases hlt : i < n
      · refine W.item i _ _ _ hlt hst' fun T vals h₂ tk₂ hP hT hM hk₂ => ?_
        obtain ⟨x, y, rfl⟩ := hPt i vals hP
        refine W.go _ _ _ i T _ _ _ hM fun h₃ hst₃ hk₃ => ?_
        have hT₃ : h₃.IsTuple T #[x, y] := hT.at fun o e => hk₃ T o (W.apart i T _ hM) e
        have up₃ : ∀ c o, c ∉ wr → h'.get? c = some o → h₃.get? c = some o := fun c o hc e => hk₃ c o hc (hk₂ c o hc e)
        refine kcp_assign (env := compEnvC scope cl H2.objs.size env) hh hT₃ (lookup_relabel_local hxa) (lookup_relabel_local hxb) (by simp [compEnvC, relabel, hkind]) (hn'.at' fun o e => up₃ _ o hCw e) fun h₄ tk₄ hn₄ hs₄ => ?_
        have up : ∀ c o, c ∉ wr → c ≠ H2.objs.size → h'.get? c = some o → h₄.get? c = some o := fun c o h1 h2 e => hs₄ c o h2 (up₃ c o h1 e)
        have hst₄ : St (i + 1) h₄ := W.frame _ _ _ hst₃ fun b hb o e => hs₄ b o (below b (hfp b hb)).1 e
        obtain ⟨oC, heC, hoC⟩ := ns_obj hn₄
        have F₄ : Fr h₀ L h₄ m := ⟨F'.ns.at' fun o e => up _ o hLw (Ne.symm hCL) e, fun c o e => up c o (hw₀ c o e) (fun q => by rw [q, hC₀] at e; cases e) (F'.keep c o e), F'.above⟩
        have Nown : News h₀ L h₄ (ownOf h₀ fp h₄) := news_ownOf hLf
        have N₄ : News h₀ L h₄ ((H2.objs.size, oC) :: (((s₁.heap.objs.size, lst []) :: ownOf h₀ fp h₄) ++ news)) := fun q hq => by
          rcases List.mem_cons.mp hq with rfl | hq
          · exact ⟨heC, hCL, hC₀⟩
          rcases List.mem_append.mp hq with hq | hq
          · rcases List.mem_cons.mp hq with rfl | hq
            · have z := N' _ (List.mem_cons_self ..)
              exact ⟨up _ _ hDw hDC z.1, z.2⟩
            · exact Nown q hq
          · have z := N' q (List.mem_cons_of_mem _ hq)
            exact ⟨up _ _ (hnw q hq) (below _ (hnb q hq)).1 z.1, z.2⟩
        refine wpAny_mono (test i x y H2.objs.size oC _ _ h₄ _ _ hP hoC (by simp [hab]) (by simp) F₄ N₄) (fun okb s₅ h₅ => ?_) fun _ _ e => e
        obtain ⟨rfl, h₅, tk₅, rfl, F₅, N₅⟩ := h₅
        simp only [Bool.false_eq_true, if_false]
        refine ⟨n + 1 - (i + 1), by omega, h₅, tk₅, i + 1, _, rfl, hlt, rfl, ?_, F₅, hoC.ns (N₅ _ (List.mem_cons_self ..)).1, fun q hq => ?_⟩
        · refine W.frame _ _ _ hst₄ fun b hb o e => ?_
          cases e0 : h₀.get? b with
          | some o0 =>
            have e1 := F₄.keep b o0 e0
            rw [e] at e1
            cases e1
            exact F₅.keep b o e0
          | none => exact (N₅ (b, o) (List.mem_cons_of_mem _ (List.mem_append_left _ (List.mem_cons_of_mem _ (mem_ownOf hb e0 e))))).1
        · rcases List.mem_cons.mp hq with rfl | hq
          · exact N₅ _ (List.mem_cons_of_mem _ (List.mem_append_left _ (List.mem_cons_self ..)))
          · exact N₅ _ (List.mem_cons_of_mem _ (List.mem_append_right _ hq))
      · obtain rfl : i = n := Nat.le_antisymm hi (Nat.not_lt.mp hlt)
        refine W.done _ _ _ hst' fun h₂ tk₂ hk₂ => ?_
        have F₂ : Fr h₀ L h₂ m := ⟨F'.ns.at' fun o e => hk₂ _ o hLw e, fun c o e => hk₂ c o (hw₀ c o e) (F'.keep c o e), F'.above⟩
        refine ⟨m', hn'.at' fun o e => hk₂ _ o hCw e, fun h'' hs'' => fin _ h'' _ (F₂.change hs'' hCL hC₀) (fun p hp => ?_) hnb⟩
        have z := N' p hp
        rcases List.mem_cons.mp hp with rfl | hp
        · exact ⟨hs''.extBut _ _ hDC (hk₂ _ _ hDw z.1), z.2⟩
        · exact ⟨hs''.extBut _ _ (below _ (hnb p hp)).1 (hk₂ _ _ (hnw p hp) z.1), z.2⟩
    · rcases List.mem_cons.mp hp with rfl | hp
      · exact ⟨hacc, hDL, hD₀⟩
      · exact ⟨old _ _ (N p hp).1, (N p hp).2⟩
  exact codeAny_compStart_list (loop _ rfl) (W.self 0 _ _ _ hst₁ (loop _ rfl))
end
end Mine
end
section
open PySem PySem.W PySem.Spec PySem.Calls PyProof.Rows PyProof.Rows.LCg
set_option maxRecDepth 100000
namespace Mine
/-- the test's end: it does not hold, and nothing is changed -/
def ZcT (h₀ : Heap) (L : Addr) (m : Str → Option Value) (s : Shared) (all : List (Addr × Obj)) (okb : Bool) (s₃ : Shared) : Prop :=
  okb = false ∧ ∃ h' tk', s₃ = { s with heap := h', toks := tk' } ∧ Fr h₀ L h' m ∧ News h₀ L h' all
theorem ZcT.intro {h₀ : Heap} {L : Addr} {m : Str → Option Value} {s : Shared} {all : List (Addr × Obj)} {h' : Heap} {tk' : Nat} (F : Fr h₀ L h' m) (N : News h₀ L h' all) : ZcT h₀ L m s all false { s with heap := h', toks := tk' } := ⟨rfl, _, _, rfl, F, N⟩
section
variable {prog : Program} {w : World} {A : Around} {E : Value → Shared → Prop} {s : Shared} {h₀ : Heap} {L : Addr} {m : Str → Option Value} {env : Env}
theorem zc_zip {c : PySem.Expr} {a b : Str} {scope : Scope} {cl : List (Str × Addr)} {Q : Value → Shared → Prop} {l1 l2 : Addr} {xs ys : List Value} {n1 n2 : Nat} {news : List (Addr × Obj)}
    (hh : A.handled = none) (F : Fr h₀ L s.heap m) (N : News h₀ L s.heap news) (hm1 : (l1, listOf xs.toArray n1) ∈ news) (hm2 : (l2, listOf ys.toArray n2) ∈ news)
    (test : ∀ (i : Nat) (x y : Value) (C : Addr) (oC : Obj) (m₂ : Str → Option Value) (own : List (Addr × Obj)) (h : Heap) (tk : Nat) (E' : Value → Shared → Prop), xs[i]? = some x → ys[i]? = some y → NsObj oC m₂ → m₂ a = some x → m₂ b = some y → Fr h₀ L h m → News h₀ L h ((C, oC) :: (own ++ news)) →
      wpAny (model prog w) A (isTrue c (compEnvC scope cl C env) (eval c (compEnvC scope cl C env))) (ZcT h₀ L m s ((C, oC) :: (own ++ news))) E' { s with heap := h, toks := tk })
    (fin : ∀ D h tk, Fr h₀ L h m → News h₀ L h ((D, lst []) :: news) → (∀ p ∈ news, p.1 < D) → Q (.ref D) { s with heap := h, toks := tk }) :
    wpAny (model prog w) A (call (.type "zip") [.ref l1, .ref l2]) (ZcSrc prog w A h₀ L m env c a b scope cl Q) E s := by
  have hax1 := N _ hm1
  have hax2 := N _ hm2
  have hl1 : s.heap.IsList l1 xs.toArray := PySem.IsL.isList (n := n1) hax1.1
  have hl2 : s.heap.IsList l2 ys.toArray := PySem.IsL.isList (n := n2) hax2.1
  have hlt1 : l1 < s.heap.objs.size := Heap.lt_size hax1.1
  have hlt2 : l2 < s.heap.objs.size := Heap.lt_size hax2.1
  have hLs : L < s.heap.objs.size := F.ns.lt
  have D : ZipApart (s.heap.objs.size + 4) (s.heap.objs.size + 2) (s.heap.objs.size + 3) s.heap.objs.size (s.heap.objs.size + 1) l1 l2 := ktu_apart _ _ _ hlt1 hlt2
  refine call_zip_2 hl1 hl2 fun h' hz hTI hTO hi1 hi2 hsz hk => ?_
  have fr : ∀ k : Nat, h₀.get? (s.heap.objs.size + k) = none := fun k => ktu_new F (Nat.le_add_right _ _)
  refine ⟨_, _, _, _, _, _, _, news, rfl, hh, (WalksT.zip2 hh _ _ _ _ _ _ _ D xs.toArray ys.toArray).toU, ?_, ⟨hz, hTI, ⟨_, _, hTO⟩, hi1, hi2, hl1.at fun o e => hk _ o e, hl2.at fun o e => hk _ o e⟩, F.keeps hk, N.grown hk, ?_, ?_, ?_, ?_, ?_, fin⟩
  · rintro i vals ⟨x, y, _, _, rfl⟩
    exact ⟨x, y, rfl⟩
  · intro hI'
    have hb' : L = s.heap.objs.size + 4 ∨ L = s.heap.objs.size + 2 ∨ L = s.heap.objs.size + 3 ∨ L = s.heap.objs.size ∨ L = s.heap.objs.size + 1 ∨ L = l1 ∨ L = l2 := by simpa using hI'
    rcases hb' with e | e | e | e | e | e | e
    · exact ktu_ne 4 hLs e
    · exact ktu_ne 2 hLs e
    · exact ktu_ne 3 hLs e
    · exact Nat.ne_of_lt hLs e
    · exact ktu_ne 1 hLs e
    · exact hax1.2.1 e.symm
    · exact hax2.2.1 e.symm
  · intro b hb
    have hb' : b = s.heap.objs.size + 4 ∨ b = s.heap.objs.size + 2 ∨ b = s.heap.objs.size + 3 ∨ b = s.heap.objs.size ∨ b = s.heap.objs.size + 1 ∨ b = l1 ∨ b = l2 := by simpa using hb
    show @LT.lt Nat _ b h'.objs.size
    rw [hsz]
    rcases hb' with rfl | rfl | rfl | rfl | rfl | rfl | rfl
    · exact Nat.lt_succ_self _
    · exact Nat.add_lt_add_left (by decide) _
    · exact Nat.add_lt_add_left (by decide) _
    · exact Nat.lt_add_of_pos_right (by decide)
    · exact Nat.add_lt_add_left (by decide) _
    · exact Nat.lt_of_lt_of_le hlt1 (Nat.le_add_right _ _)
    · exact Nat.lt_of_lt_of_le hlt2 (Nat.le_add_right _ _)
  · intro b hb
    have hb' : b = s.heap.objs.size + 4 ∨ b = s.heap.objs.size + 3 ∨ b = s.heap.objs.size ∨ b = s.heap.objs.size + 1 := by simpa using hb
    rcases hb' with rfl | rfl | rfl | rfl
    · exact fr 4
    · exact fr 3
    · exact fr 0
    · exact fr 1
  · intro p hp hI'
    have hb' : p.1 = s.heap.objs.size + 4 ∨ p.1 = s.heap.objs.size + 3 ∨ p.1 = s.heap.objs.size ∨ p.1 = s.heap.objs.size + 1 := by simpa using hI'
    have hlp := Heap.lt_size (N p hp).1
    rcases hb' with e | e | e | e
    · exact ktu_ne 4 hlp e
    · exact ktu_ne 3 hlp e
    · exact Nat.ne_of_lt hlp e
    · exact ktu_ne 1 hlp e
  · rintro i x y C oC m₂ own h tk E' ⟨x', y', hx, hy, e⟩ hoC ha hb F₁ N₁
    have e' : [x, y] = [x', y'] := congrArg Array.toList e
    injection e' with e1 e2
    injection e2 with e2 _
    subst e1 e2
    exact test i x y C oC m₂ own h tk E' (by simpa using hx) (by simpa using hy) hoC ha hb F₁ N₁
theorem item_known {value slice : PySem.Expr} {l : Addr} {vs : List Value} {ns : List Int} {n : Nat} {k t : Int} {u : Tok} {Q : Value → Shared → Prop} {news : List (Addr × Obj)}
    (N : News h₀ L s.heap news) (hl : (l, listOf vs.toArray n) ∈ news) (hi : IntsAre vs ns) (h0 : 0 ≤ k) (hx : ns[k.toNat]? = some t) (hz : ns.length ≤ 100000) (h : ∀ t', Q (.int t t') s)
    (hs : subscripted slice false (.ref l) (.int k u) = operate [.ref l, .int k u] (getItem (.ref l) (.int k u)) := by with_unfolding_all rfl) :
    wpAny (model prog w) A (subscriptTail value slice (.ref l) (.int k u)) Q E s := by
  have hL : s.heap.IsList l vs.toArray := PySem.IsL.isList (n := n) (N _ hl).1
  obtain ⟨tt, hv⟩ := hi.get k.toNat t hx
  have hlt : k.toNat < ns.length := by
    rcases Nat.lt_or_ge k.toNat ns.length with c | c
    · exact c
    · rw [List.getElem?_eq_none c] at hx; cases hx
  exact tail_any hL.typeIs slot_list_getitem.lookup (wpAny_getItem_list hL h0 (by omega) (by simpa using hv) (h tt)) hs
theorem len_vals {l : Addr} {vs : List Value} {n k : Nat} {Q : Value → Shared → Prop} {news : List (Addr × Obj)}
    (N : News h₀ L s.heap news) (hl : (l, listOf vs.toArray n) ∈ news) (e : vs.length = k) (hz : (k : Int) ≤ 1000000) (h : Q (.int (k : Int) (s.toks + 1)) { s with toks := s.toks + 1 + 1 }) :
    wpAny (model prog w) A (call (.builtin "len") [.ref l]) Q E s := by
  have hL : s.heap.IsList l vs.toArray := PySem.IsL.isList (n := n) (N _ hl).1
  refine len_list hL (by rw [List.size_toArray, e]; omega) ?_
  rw [List.size_toArray, e]
  exact h
theorem list_range0 {r : Addr} {n : Nat} {t₀ u₀ v₀ : Tok} {Q : Value → Shared → Prop} {news : List (Addr × Obj)} (hh : A.handled = none) (F : Fr h₀ L s.heap m) (N : News h₀ L s.heap news) (hr : IsRange s.heap r 0 (n : Int) 1 t₀ u₀ v₀) (hz : (n : Int) ≤ 100000)
    (h : ∀ D us c h' tk, Fr h₀ L h' m → News h₀ L h' ((D, listOf (List.toArray us) c) :: news) → (∀ p ∈ news, p.1 < D) → IntsAre us (rangeKs 0 n) → Q (.ref D) { s with heap := h', toks := tk }) :
    wpAny (model prog w) A (call (.type "list") [.ref r]) Q E s :=
  kll_range hh F N hr (small_one (by omega) (by omega) (by omega) (by omega)) (by have := rangeSize_nat 0 n; simpa using this) (by omega) h
end
end Mine
end
section
open PySem PySem.W PySem.Spec PySem.Calls PyProof.Rows
namespace Mine
section
variable {prog : Program} {w : World} {A : Around} {E : Value → Shared → Prop} {s : Shared} {h₀ : Heap} {L l b : Addr} {m : Str → Option Value} {news : List (Addr × Obj)} {value slice : PySem.Expr} {vs us : List Value} {ns : List Int} {x : Int} {v : Value} {n k : Nat} {t : Tok} {Q : Value → Shared → Prop}
theorem cut_upto_i (F : Fr h₀ L s.heap m) (N : News h₀ L s.heap news) (hl : (l, listOf vs.toArray n) ∈ news) (hi : IntsAre vs ns) (h0 : 0 ≤ x) (hz : ns.length ≤ 10000000)
    (h : ∀ D h', Fr h₀ L h' m → News h₀ L h' ((D, listOf (vs.take x.toNat).toArray 0) :: news) → (∀ p ∈ news, p.1 < D) → IntsAre (vs.take x.toNat) (ns.take x.toNat) → Q (.ref D) { s with heap := h' })
    (hs : subscripted slice false (.ref l) (.ref s.heap.objs.size) = operate [.ref s.heap.objs.size, .ref l] (getItem (.ref l) (.ref s.heap.objs.size))) (ht : ∀ r, letTemporaryGo value (.ref l) r = pure ()) :
    wpAny (model prog w) A (subscriptTail value slice (.ref l) (.ref s.heap.objs.size)) Q E { s with heap := s.heap.push { cls := .type "slice", data := .fields #[.none, .int x t, .none] } } :=
  cut_upto F N hl h0 (by rw [hi.length]; exact hz) (fun D h' F' N' l1 => h D h' F' N' l1 (hi.take _)) hs ht
theorem cut_from_i (F : Fr h₀ L s.heap m) (N : News h₀ L s.heap news) (hl : (l, listOf vs.toArray n) ∈ news) (hi : IntsAre vs ns) (h0 : 0 ≤ x) (hz : ns.length ≤ 10000000)
    (h : ∀ D h', Fr h₀ L h' m → News h₀ L h' ((D, listOf (vs.drop x.toNat).toArray 0) :: news) → (∀ p ∈ news, p.1 < D) → IntsAre (vs.drop x.toNat) (ns.drop x.toNat) → Q (.ref D) { s with heap := h' })
    (hs : subscripted slice false (.ref l) (.ref s.heap.objs.size) = operate [.ref s.heap.objs.size, .ref l] (getItem (.ref l) (.ref s.heap.objs.size))) (ht : ∀ r, letTemporaryGo value (.ref l) r = pure ()) :
    wpAny (model prog w) A (subscriptTail value slice (.ref l) (.ref s.heap.objs.size)) Q E { s with heap := s.heap.push { cls := .type "slice", data := .fields #[.int x t, .none, .none] } } :=
  cut_from F N hl h0 (by rw [hi.length]; exact hz) (fun D h' F' N' l1 => h D h' F' N' l1 (hi.drop _)) hs ht
end
end Mine
end
section
open PySem PySem.W PySem.Spec PySem.Calls PyProof.Rows
namespace Mine
structure Fix where
  (c D dB Bf dT G Cs dM M R Ls dG Lg : Addr)
  (γ : GT) (β : BT) (δ : LT) (μ : MT) (oR : Obj) (nls : Nat)
structure Var where
  (Rw El Lo : Addr) (dv : List Value) (ds : List Int) (nd : Nat)
  (pt zv ti ci : Int) (tp tz tt tc : Tok) (vs : List Value) (cells : List Int) (n : Nat) (gs ge : Int) (t1 t2 : Tok)
  (bv ev : Value) (gr : Int) (tg : Tok) (rv : List Value) (nr : Nat) (rows : List (Int × Int × Int)) (st : Option (Int × Int))
  (oc : Obj) (xv : List Value) (ne : Nat) (E : List Int) (lv : List Value) (nlo : Nat) (tl : List (Addr × Obj))
/-- the ledger of the law's own objects -/
noncomputable def led (P : Params) (f : Fix) (v : Var) : List (Addr × Obj) :=
  (f.c, v.oc) :: (f.D, listOf v.dv.toArray v.nd) :: (f.Bf, instObj 361 f.dB) :: (f.dB, dictOf (bufD P f.β f.G f.M f.Ls (.int v.pt v.tp) (.int v.zv v.tz) (.int v.ti v.tt) (.int v.ci v.tc)) 20) ::
  (f.G, instObj 150 f.dT) :: (f.dT, dictOf (gapD P f.γ f.Cs (.int v.gs v.t1) (.int v.ge v.t2)) 4) :: (f.Cs, listOf v.vs.toArray v.n) :: (f.M, instObj 220 f.dM) :: (f.dM, dictOf (mkD P f.μ f.R) 1) :: (f.R, f.oR) ::
  (f.Ls, listOf #[.ref f.Lg] f.nls) :: (f.Lg, instObj 59 f.dG) :: (f.dG, dictOf (logD P f.δ v.Rw v.bv v.ev (.int v.gr v.tg)) 4) :: (v.Rw, listOf v.rv.toArray v.nr) :: (v.El, listOf v.xv.toArray v.ne) :: (v.Lo, listOf v.lv.toArray v.nlo) :: v.tl
structure Ok (prog : Program) (w : World) (f : Fix) (v : Var) (k : Int) : Prop where
  adr : AdrOk f.D f.dB f.Bf f.dT f.G f.Cs f.dM f.M f.R f.Ls f.dG f.Lg v.Rw
  hcD : @LT.lt Nat _ f.c f.dB ∧ @Ne Nat f.c f.D
  hE : @LT.lt Nat _ f.Lg v.El
  hEr : @Ne Nat v.El v.Rw
  hL : @LT.lt Nat _ f.Lg v.Lo
  hLr : @Ne Nat v.Lo v.Rw
  htl : ∀ p ∈ v.tl, @LT.lt Nat _ f.Lg p.1
  htr : Off v.Rw v.tl
  hi : IntsAre v.vs v.cells
  ok : GapOk v.cells v.gs v.ge
  hcz : (v.cells.length : Int) ≤ 100 + 100 * k
  hTz : ((gapText v.cells v.gs v.ge).length : Int) ≤ 10 + 3 * k
  hzv : v.zv = (v.cells.length : Int) - (v.ge - v.gs) + 1
  hr1 : f.oR.IsDictOf (strKind prog w) []
  hr2 : (f.R == sysModules) = false
  hst : StV v.st v.bv v.ev
  hdi : IntsAre v.dv v.ds
  hdo : DeckOk v.ds
  hoc : v.oc.data = .cell (some (.ref v.El))
  hxe : IntsAre v.xv v.E
  hEz : v.E.length ≤ 100
  hlv : IntsAre v.lv (rangeKs 0 v.E.length)
  hrows : RowsAre v.tl v.rv v.rows
  hrok : ∀ r ∈ v.rows, RowOk r
  hrl : (v.rows.length : Int) ≤ k
  hag : Agree (gapText v.cells v.gs v.ge) v.E (spreadAll ((rangeKs 0 v.E.length).map some) v.rows)
  hsr : Stretch (gapText v.cells v.gs v.ge) v.E v.st v.gr
structure Vars (f : Fix) (v : Var) (m : Str → Option Value) : Prop where
  deck : m (Str.ofString "deck") = some (.ref f.D)
  buffer : m (Str.ofString "buffer") = some (.ref f.Bf)
  log : m (Str.ofString "log") = some (.ref f.Lg)
  lows : m (Str.ofString "lows") = some (.ref v.Lo)
structure IOk (I : Addr) (f : Fix) (v : Var) : Prop where
  h1 : @LT.lt Nat _ f.Lg I
  h2 : @Ne Nat v.Rw I
  h3 : @Ne Nat v.El I
  h4 : @Ne Nat v.Lo I
  h5 : Off I v.tl
theorem whole_text (T : List Int) : List.take ((T.length : Int) + 1 - 1).toNat (List.drop (1 - 1 : Int).toNat T) = T := by
  have e1 : ((T.length : Int) + 1 - 1).toNat = T.length := by omega
  have e2 : ((1 : Int) - 1).toNat = 0 := rfl
  rw [e1, e2, List.drop_zero, List.take_length]
theorem stretch_none {T E : List Int} {st : Option (Int × Int)} {g : Int} {xv : List Value} (S : Stretch T E st g) (hx : IntsAre xv E) (h : st = none) : IntsAre xv T := by
  subst h
  have e : T = E := S.2
  rw [e]; exact hx
theorem stretch_facts {T E : List Int} {st : Option (Int × Int)} {g b e : Int} (S : Stretch T E st g) (h : st = some (b, e)) :
    1 ≤ b ∧ b ≤ e ∧ e ≤ T.length + 1 ∧ e - b - (e - b - g) = (T.length : Int) - E.length ∧ 0 ≤ e - b - g ∧ T.take (b - 1).toNat = E.take (b - 1).toNat ∧ T.drop (e - 1).toNat = E.drop (b - 1 + (e - b - g)).toNat := by
  subst h
  obtain ⟨hg, s1, s2, s3, s4, s5, s6⟩ := S
  refine ⟨s1, s2, s3, by omega, s4, s5, ?_⟩
  rw [s6]
  congr 1
  omega
theorem stv_none : StV none .none .none := .inl ⟨rfl, rfl, rfl⟩
noncomputable def forBody : List Stmt → List Stmt
  | [] => []
  | .For _ _ b _ _ :: _ => b
  | _ :: r => forBody r
theorem use_lookup {K : Frag} {x : Addr} {o₁ o₂ : Obj} {P : Prop} (h1 : K.lookup x = some o₂) (h2 : K.lookup x = some o₁) (k : o₁ = o₂ → P) : P := k (Option.some.inj (h2.symm.trans h1))
theorem gt_off {a b : Addr} {l : List (Addr × Obj)} (h : ∀ p ∈ l, @LT.lt Nat _ b p.1) (hab : @LE.le Nat _ a b) : Off a l := fun p hp e => Nat.lt_irrefl _ (Nat.lt_of_le_of_lt hab (e ▸ h p hp))
def Stop (P : Prop) : Prop := P
theorem stop_of {P : Prop} (h : Stop P) : P := h
theorem map_has1 {m : Str → Option Value} {x1 : Str} {v1 : Value} (h1 : m x1 = some v1) : m = fun z => if z = x1 then some v1 else m z := by
  funext z
  by_cases c1 : z = x1
  · rw [if_pos c1, c1]; exact h1
  rw [if_neg c1]
theorem map_has4 {m : Str → Option Value} {x1 x2 x3 x4 : Str} {v1 v2 v3 v4 : Value} (h1 : m x1 = some v1) (h2 : m x2 = some v2) (h3 : m x3 = some v3) (h4 : m x4 = some v4) :
    m = fun z => if z = x1 then some v1 else if z = x2 then some v2 else if z = x3 then some v3 else if z = x4 then some v4 else m z := by
  funext z
  by_cases c1 : z = x1
  · rw [if_pos c1, c1]; exact h1
  rw [if_neg c1]
  by_cases c2 : z = x2
  · rw [if_pos c2, c2]; exact h2
  rw [if_neg c2]
  by_cases c3 : z = x3
  · rw [if_pos c3, c3]; exact h3
  rw [if_neg c3]
  by_cases c4 : z = x4
  · rw [if_pos c4, c4]; exact h4
  rw [if_neg c4]
theorem map_has5 {m : Str → Option Value} {x0 x1 x2 x3 x4 : Str} {v0 v1 v2 v3 v4 : Value} (h0 : m x0 = some v0) (h1 : m x1 = some v1) (h2 : m x2 = some v2) (h3 : m x3 = some v3) (h4 : m x4 = some v4) :
    m = fun z => if z = x0 then some v0 else if z = x1 then some v1 else if z = x2 then some v2 else if z = x3 then some v3 else if z = x4 then some v4 else m z := by
  funext z
  by_cases c0 : z = x0
  · rw [if_pos c0, c0]; exact h0
  rw [if_neg c0]
  exact congrFun (map_has4 h1 h2 h3 h4) z
end Mine
end
section
open PySem PySem.W PySem.Spec PySem.Calls PyProof.Rows
namespace Mine
set_option linter.unusedVariables false
local macro_rules | `(tactic| omega) => `(tactic| first | (law_clear; lia) | omega (config := {}))
local macro_rules | `(tactic| k_lt $h:ident) => `(tactic| (replace $h := allLt_of $h))
local macro_rules | `(tactic| ks_star) => `(tactic| focus (repeat first | exact mA0 | exact mA1 | exact mA2 | exact mA3 | exact mA4 | exact mA5 | refine mAt ?_); done)
local macro_rules | `(tactic| none_booked) => `(tactic| first | exact mA0 | exact mA1 | exact mA2 | exact mA3 | exact mA4 | exact mA5 | (refine mAt ?_; none_booked))
local macro_rules | `(tactic| k_mem) => `(tactic| none_booked)
local macro_rules | `(tactic| k_in) => `(tactic| first | with_reducible assumption | exact Frag.In.keeps (by with_reducible assumption) (Fr.keep (by with_reducible assumption)))
local macro_rules | `(tactic| k_ne) => `(tactic| (refine neN ?_; (try dsimp only); first | k_dflt (first | exact Nat.ne_of_gt (lt_at (by with_reducible assumption) (by ks_star)) | exact Nat.ne_of_lt (lt_at (by with_reducible assumption) (by ks_star))) | with_reducible (first | assumption | exact Ne.symm (by assumption) | exact Nat.ne_of_gt (by assumption) | exact Nat.ne_of_lt (by assumption)) | k_dflt (first | exact offL_r (by with_reducible assumption) (by ks_star) | exact offL_l (by with_reducible assumption) (by ks_star) | exact ne_chain (by with_reducible assumption) (by with_reducible assumption) (by ks_star) | exact ne_chain2 (by with_reducible assumption) (by with_reducible assumption) (by ks_star)) | omega))
local macro_rules | `(tactic| k_upd) => `(tactic| first | (refine' Pull.head ?a; (case a => k_all)) | (refine' Pull.tail ?a ?b; (case a => k_ne); (case b => k_upd)))
local macro_rules | `(tactic| ktr_room) => `(tactic| (refine room_of ?_; (try dsimp only [ktrTop]); regstrif_gather))
local macro_rules | `(tactic| k_room) => `(tactic| ktr_room)
local macro_rules | `(tactic| k_all) => `(tactic| first | exact Off.all (by with_reducible assumption) | exact allLt_off (by with_reducible assumption) | (refine' List.forall_mem_cons.mpr ⟨?a, ?b⟩; (case a => k_ne); (case b => k_all)) | exact allLt_off (allLt_sub (by with_reducible assumption) (fun p hp => by tb_rel)))
local macro_rules | `(tactic| tb_start) => `(tactic| first | assumption | (refine allLt_sub (by with_reducible assumption) ?_; intro p hp; tb_rel) | k_dflt (exact lt_at (by with_reducible assumption) (by k_mem)) | omega)
local macro_rules | `(tactic| ktr_rel) => `(tactic| (rename News _ _ _ _ => nN; (repeat (refine news_cons ?_ nN (by k_mem))); exact news_sub nN (fun p hp => by tb_rel)))
local macro_rules | `(tactic| tb_rel) => `(tactic| first | with_reducible assumption | (refine mAt ?_; tb_rel) | (refine List.mem_cons_of_mem _ ?_; tb_rel))
local macro_rules | `(tactic| regstrif_gather) => `(tactic| (try dsimp only [ktrTop]); first | exact Nat.le_trans (by with_reducible assumption) (Nat.le_of_ble_eq_true rfl) | exact Nat.le_trans (Nat.add_le_add_right (by with_reducible assumption) _) (Nat.le_of_ble_eq_true rfl) | omega | (rw [List.length_append]; omega) | (simp only [List.length_take, List.length_drop, List.length_append, List.length_replicate, List.length_map, rangeKs_length]; omega) | ((try simp only [depth_under_make, depth_under_kw, depth_in1, depth_deeper, depth_caller, units_in1, units_deeper, Around.mark_units, units_caller]); (try dsimp only [ktrTop]); omega))
local macro_rules | `(tactic| top_args) => `(tactic| first | exact .nil | (refine .cons (by k_upd) (by top_args)))
local macro_rules | `(tactic| cell_call) => `(tactic| ((fail_if_success with_reducible show wpAny _ _ _ _ _ _); first | with_reducible assumption | (with_reducible refine memN ?_; ks_star) | k_ne | exact (rfl : (_ : ScopeKind) = _) | k_dflt (exact lt_at (by with_reducible assumption) (by k_mem)) | ((first | (with_reducible show @LE.le Nat _ _ _) | (with_reducible show @LE.le Int _ _ _) | (with_reducible show @LT.lt Int _ _ _) | (with_reducible show @Eq Int _ _)); regstrif_gather) | assumption | ((with_reducible (intro x9; repeat intro x9)); (try (rename NewsAll _ _ _ _ _ _ => N'; (first | replace N' := na0 N' | replace N' := na1 N' | replace N' := na2 N'); replace N' := N' _ (by top_args))); (try k_sweep)) | ((fail_if_success with_reducible refine memN ?_); regstrif_gather)))
local macro_rules | `(tactic| o_head $n) => `(tactic| with_reducible show wpAny _ _ (call (Value.ref $n) _) _ _ _)
set_option hygiene false in
local macro_rules | `(tactic| walk_at "call ref") => `(tactic| (k_here; k_dflt (first | ((first | (o_head 84; apply size_spec) | (o_head 105; apply move_gap_spec) | (o_head 112; apply widen_gap_spec) | (o_head 119; apply insert_spec) | (o_head 98; apply codes_spec) | (o_head 126; apply delete_spec) | (o_head 309; apply bsize_spec) | (o_head 323; apply bcodes_spec) | (o_head 418; apply text_out_spec) | (o_head 425; apply text_in_spec) | (o_head 203; apply minserted_spec) | (o_head 210; apply mdeleted_spec) | (o_head 217; apply mreplaced_spec) | (o_head 49; apply after_spec) | (o_head 397; apply reached_spec) | (o_head 461; apply delete_ed_spec) | (o_head 487; apply draw_spec) | (o_head 475; apply transp_spec) | (o_head 506; apply edit_spec) | (o_head 494; apply spread_spec) | (o_head 56; apply taken_spec) | (o_head 390; apply writable_spec) | (o_head 404; apply ahead_spec) | (o_head 411; apply behind_spec) | (o_head 432; apply hung_out_spec) | (o_head 439; apply hung_in_spec)) <;> cell_call) | (o_head 446; apply put_any_spec <;> cell_call) | (o_head 446; apply put_in_spec <;> cell_call) | (o_head 446; apply put_nil_spec <;> cell_call) | (o_head 468; apply replace_any_spec <;> cell_call) | (o_head 468; apply replace_spec <;> cell_call) | (o_head 468; apply replace_nil_spec <;> cell_call) | (o_head 501; apply stretch_none_spec <;> cell_call) | (o_head 501; apply stretch_some_spec <;> cell_call))))
section
theorem fill_draw : (∀ P, Mine.hd.heap_1 P = Mine.hd.heap_1 P) ∧ PySem.Challenge.rw_oj0026_01 = PySem.Challenge.rw_oj0026_01 := by w_top off; k_fill; exact ⟨fun _ => rfl, rfl⟩
set_option maxRecDepth 100000 in
set_option maxHeartbeats 8000000 in
theorem draw_spec {prog : Program} {w : World} {p : Program} {loose : List Str} {mean : ExcName → Option Value} {mg mb : Str → Option Value} {dp un : Nat} {gd : Option (List Code)} {cn : Str} {cs : Scope} {a : Addr} {ccd : Value} {cl : List (Str × Addr)} {outer : List Env} {A₀ : Around} {base h₀ : Heap} {L : Addr} {m : Str → Option Value} {news : List (Addr × Obj)} {s : Shared} {Q E : Value → Shared → Prop}
  {D : Addr} {vs : List Value} {ds : List Int} {n : Nat} {many : Int} {t : Tok}
  (B : Below A₀ base outer h₀) (F : Fr h₀ L s.heap m) (X : (Mine.hd.heap_1 w.params).In h₀) (N : News h₀ L s.heap news) (T : Top p loose mean mg mb h₀) (hk : cs.kind = .function) (hdp : dp ≤ 600) (hun : un ≤ 5000)
  (hm : (D, listOf vs.toArray n) ∈ news) (hi : IntsAre vs ds) (hok : DeckOk ds) (h1 : 1 ≤ many) (h2 : many < 2^30)
  (k : ∀ r t' vs' ds' n' h' tk' , Fr h₀ L h' m → NewsAll h₀ L h' [(D, listOf vs.toArray n, listOf vs'.toArray n')] news [] → IntsAre vs' ds' → DeckOk ds' → 0 ≤ r → r < many → Q (.int r t') { s with heap := h', toks := tk' })
  : wpAny (model prog w) (ktrTop dp un gd cn cs L a ccd cl outer) (call (.ref 487) [.ref D, .int many t]) Q E s := by
  have N1 := news_foot (foot := [(D, listOf vs.toArray n)]) N (fun p hp => by rw [List.mem_singleton.mp hp]; exact hm)
  have off : Off D (restOf [D] news) := restOf_off (.head _)
  have k' : ∀ r t' vs' ds' n' h' tk' , Fr h₀ L h' m → News h₀ L h' ((D, listOf vs'.toArray n') :: restOf [D] news) → IntsAre vs' ds' → DeckOk ds' → 0 ≤ r → r < many → Q (.int r t') { s with heap := h', toks := tk' } := by
    intro r t' vs' ds' n' h' tk' F' N' hi' hok' hr hr'
    exact k r t' vs' ds' n' h' tk' F' (fun news' U => news_back (fresh := []) U N') hi' hok' hr hr'
  change News h₀ L s.heap ((D, listOf vs.toArray n) :: restOf [D] news) at N1
  generalize restOf [D] news = rest at *
  clear N k hm
  refine wpAny_call ?_
  k_dflt ktr_enter
  walk1
  walk1
  (with_reducible rename Fr _ _ _ _ => F1)
  (with_reducible rename News _ _ _ _ => N2)
  refine' While_inv2 (fun n m₁ news₁ => m₁ = _ ∧ ∃ vs' ds' n', news₁ = (D, listOf vs'.toArray n') :: rest ∧ IntsAre vs' ds' ∧ DeckOk ds' ∧ n = ds'.length) F1 N2 ⟨rfl, vs, ds, n, rfl, hi, hok, rfl⟩ ?turn (by passes_own)
  rintro n1 m1 news1 h1' tk1 F2 N3 ⟨rfl, vs1, ds1, n2, rfl, hi1, hok1, rfl⟩
  cases hi1 with
  | nil =>
    (repeat' (first | (with_reducible (((with_reducible show wpAny _ _ (call (Value.builtin _) [Value.ref _, Value.int _ _]) _ _ _); k_dflt (refine' pop0 (by k_asm) (by k_asm) (by k_upd) (by assumption) ?_; k_whole); intro h' F' N'; (try k_sweep)))) | (k_unfold; (try dsimp only)) | (k_end; kc_close) | walk1 | (dsimp only; walk1) | (leave1; walk_say "STEP leave1"; (try dsimp only)) | fail "no step"))
    exact k' _ _ _ _ _ _ _ (by assumption) (news_t2 (by assumption)) .nil hok1 (by decide) (by omega)
  | cons i t1 hr =>
    rename_i vs2 ns2
    have hlen : vs2.length < 1000 := by
      have e1 := hr.length
      have e2 := hok1.1
      simp only [List.length_cons] at e2
      omega
    have hb := hok1.2 i (.head _)
    have hok2 : DeckOk ns2 := ⟨Nat.le_of_succ_le hok1.1, fun d hd => hok1.2 d (.tail _ hd)⟩
    have hq : 0 ≤ i.fdiv many ∧ i.fdiv many < 10 ^ 30 := by
      rw [Int.fdiv_eq_ediv_of_nonneg _ (by omega)]
      have := Int.ediv_le_self many hb.1
      exact ⟨Int.ediv_nonneg hb.1 (by omega), by omega⟩
    have hok3 : DeckOk (i.fdiv many :: ns2) := ⟨hok1.1, fun d hd => by
      rcases List.mem_cons.mp hd with e | e
      · rw [e]; exact hq
      · exact hok2.2 d e⟩
    (repeat' (first | (with_reducible (((with_reducible show wpAny _ _ (call (Value.builtin _) [Value.ref _, Value.int _ _]) _ _ _); k_dflt (refine' pop0 (by k_asm) (by k_asm) (by k_upd) (by assumption) ?_; k_whole); intro h' F' N'; (try k_sweep)))) | (k_unfold; (try dsimp only)) | (k_end; kc_close) | walk1 | (dsimp only; walk1) | (leave1; walk_say "STEP leave1"; (try dsimp only)) | fail "no step"))
    all_goals try exact absurd (by assumption : decide (_ = []) = true) (by simp)
    · exact ⟨_, _, _, _, ns2.length, rfl, by assumption, news_t1 (by assumption), by simp, rfl, vs2, ns2, n2 + 1, rfl, hr, hok2, rfl⟩
    · exact k' _ _ _ _ _ _ _ (by assumption) (news_t2 (by assumption)) (.cons _ _ hr) hok3 (Int.fmod_nonneg_of_pos _ (by omega)) (Int.fmod_lt_of_pos _ (by omega))
end
section
section
set_option maxRecDepth 100000 in
set_option maxHeartbeats 8000000 in
theorem move_gap_specU (v : U) : (fun (prog : Program) (w : World) (p : Program) (loose : List Str) (mean : ExcName → Option Value) (mg : Str → Option Value) (mb : Str → Option Value) (dp : Nat) (un : Nat) (gd : Option (List Code)) (cn : Str) (cs : Scope) (a : Addr) (ccd : Value) (cl : List (Str × Addr)) (outer : List Env) (A₀ : Around) (base : Heap) (h₀ : Heap) (L : Addr) (m : Str → Option Value) (news : List (Addr × Obj)) (s : Shared) (Q : Value → Shared → Prop) (E : Value → Shared → Prop) (γ : GT) (G : Addr) (dT : Addr) (Cs : Addr) (vs : List Value) (cells : List Int) (n : Nat) (gs : Int) (ge : Int) (t1 : Tok) (t2 : Tok) (at_ : Int) (t : Tok) => ∀ (B : Below A₀ base outer h₀) (F : Fr h₀ L s.heap m) (X : (Mine.hd.heap_1 w.params).In h₀) (N : News h₀ L s.heap news) (T : Top p loose mean mg mb h₀) (hk : cs.kind = .function) (hdp : dp ≤ 600) (hun : un ≤ 5000) (hG : (G, instObj 150 dT) ∈ news) (hD : (dT, dictOf (gapD w.params γ Cs (.int gs t1) (.int ge t2)) 4) ∈ news) (hC : (Cs, listOf vs.toArray n) ∈ news) (ne_dT_G : @Ne Nat dT G) (ne_dT_Cs : @Ne Nat dT Cs) (ne_Cs_G : @Ne Nat Cs G) (hi : IntsAre vs cells) (ok : GapOk cells gs ge) (hz : cells.length ≤ 900000) (ha0 : 0 ≤ at_) (ha1 : at_ + (ge - gs) ≤ cells.length) (k : ∀ t1' t2' ge' (vs' : List Value) (cells' : List Int) n' h' tk', Fr h₀ L h' m → NewsAll h₀ L h' [(dT, dictOf (gapD w.params γ Cs (.int gs t1) (.int ge t2)) 4, dictOf (gapD w.params γ Cs (.int at_ t1') (.int ge' t2')) 4), (Cs, listOf vs.toArray n, listOf vs'.toArray n')] news [] → IntsAre vs' cells' → GapOk cells' at_ ge' → gapText cells' at_ ge' = gapText cells gs ge → ge' - at_ = ge - gs → cells'.length = cells.length → Q (.none) { s with heap := h', toks := tk' }), wpAny (model prog w) (ktrTop dp un gd cn cs L a ccd cl outer) (call (.ref 105) [.ref G, .int at_ t]) Q E s) (uPr v 0) (uW v 0) (uPr v 1) (uSs v 0) (uX v 0) (uM v 0) (uM v 1) (uN v 0) (uN v 1) (uCs v 0) (uS v 0) (uSc v 0) (uN v 2) (uV v 0) (uCl v 0) (uEs v 0) (uA v 0) (uH v 0) (uH v 1) (uN v 3) (uM v 2) (uL v 0) (uSh v 0) (uQ v 0) (uQ v 1) (uGT v 0) (uN v 4) (uN v 5) (uN v 6) (uVs v 0) (uIs v 0) (uN v 7) (uI v 0) (uI v 1) (uN v 8) (uN v 9) (uI v 2) (uN v 10) := by
  revert v
  refine hkU ?_
  generalize ep _ _ = eU
  generalize uPr eU 0 = prog, uW eU 0 = w, uPr eU 1 = p, uSs eU 0 = loose, uX eU 0 = mean, uM eU 0 = mg, uM eU 1 = mb, uN eU 0 = dp, uN eU 1 = un, uCs eU 0 = gd, uS eU 0 = cn, uSc eU 0 = cs, uN eU 2 = a, uV eU 0 = ccd, uCl eU 0 = cl, uEs eU 0 = outer, uA eU 0 = A₀, uH eU 0 = base, uH eU 1 = h₀, uN eU 3 = L, uM eU 2 = m, uL eU 0 = news, uSh eU 0 = s, uQ eU 0 = Q, uQ eU 1 = E, uGT eU 0 = γ, uN eU 4 = G, uN eU 5 = dT, uN eU 6 = Cs, uVs eU 0 = vs, uIs eU 0 = cells, uN eU 7 = n, uI eU 0 = gs, uI eU 1 = ge, uN eU 8 = t1, uN eU 9 = t2, uI eU 2 = at_, uN eU 10 = t
  clear eU
  refine fun B F X N T hk hdp hun hG hD hC ne_dT_G ne_dT_Cs ne_Cs_G hi ok hz ha0 ha1 k => ?_
  have N1 : News h₀ L s.heap ((G, instObj 150 dT) :: (dT, dictOf (gapD w.params γ Cs (.int gs t1) (.int ge t2)) 4) :: (Cs, listOf vs.toArray n) :: (restOf [dT, Cs] news)) := by
    refine news_cons ?_ N hG
    refine news_cons ?_ N hD
    refine news_cons ?_ N hC
    exact news_sub N restOf_in
  have off_dT : Off dT ((restOf [dT, Cs] news)) := restOf_off (by simp)
  have off_Cs : Off Cs ((restOf [dT, Cs] news)) := restOf_off (by simp)
  have k' : ∀ t1' t2' ge' (vs' : List Value) (cells' : List Int) n' h' tk', Fr h₀ L h' m → News h₀ L h' ((dT, dictOf (gapD w.params γ Cs (.int at_ t1') (.int ge' t2')) 4) :: (Cs, listOf vs'.toArray n') :: (restOf [dT, Cs] news)) → IntsAre vs' cells' → GapOk cells' at_ ge' → gapText cells' at_ ge' = gapText cells gs ge → ge' - at_ = ge - gs → cells'.length = cells.length → Q (.none) { s with heap := h', toks := tk' } := by
    intro t1' t2' ge' vs' cells' n' h' tk' F' N'  f0 f1 f2 f3 f4
    exact k _ _ _ _ _ _ _ _ F' (fun news' U => news_back (fresh := []) U N')  f0 f1 f2 f3 f4
  generalize (restOf [dT, Cs] news) = rest at *
  clear N k hG hD hC
  refine wpAny_call ?_
  k_dflt ktr_enter
  have ok' := ok
  obtain ⟨ok0, ok1, ok2⟩ := ok'
  (repeat' (first | (with_reducible ((with_reducible show wpAny _ _ (call (Value.builtin "len") _) _ _ _); ((with_unfolding_all (refine' len_ints_fit (by is_list) (by l_ints) (by l_fit) ?_; k_whole)); (try simp only [List.length_append, List.length_cons, List.length_nil, Nat.zero_add])))) | (with_reducible ((with_reducible show wpAny _ _ (setItem (Value.ref _) (Value.ref _) _) _ _ _); (k_dflt (refine' set_slice (by k_asm) (by k_asm) (by k_mem) (by k_mem) (by k_ne) (by assumption) (by assumption) (by k_upd) (by regstrif_gather) (by regstrif_gather) (by regstrif_gather) (by regstrif_gather) ?_; k_whole); intro h' F' N' hi'; (try k_sweep)))) | (k_unfold; (try dsimp only)) | (k_end; kc_close) | walk1 | (dsimp only; walk1) | (leave1; walk_say "STEP leave1"; (try dsimp only)) | fail "no step"))
  · obtain ⟨p1, p2, p3, p4⟩ := mv_left ok ha0 (by assumption)
    exact k' _ _ _ _ _ _ _ _ (by assumption) (by ktr_rel) (by assumption) p1 p2 p3 p4
  · obtain ⟨p1, p2, p3, p4⟩ := mv_right ok (by assumption) ha1
    exact k' _ _ _ _ _ _ _ _ (by assumption) (by ktr_rel) (by assumption) p1 p2 p3 p4
theorem move_gap_spec {prog : Program} {w : World} {p : Program} {loose : List Str} {mean : ExcName → Option Value} {mg : Str → Option Value} {mb : Str → Option Value} {dp : Nat} {un : Nat} {gd : Option (List Code)} {cn : Str} {cs : Scope} {a : Addr} {ccd : Value} {cl : List (Str × Addr)} {outer : List Env} {A₀ : Around} {base : Heap} {h₀ : Heap} {L : Addr} {m : Str → Option Value} {news : List (Addr × Obj)} {s : Shared} {Q : Value → Shared → Prop} {E : Value → Shared → Prop} {γ : GT} {G : Addr} {dT : Addr} {Cs : Addr} {vs : List Value} {cells : List Int} {n : Nat} {gs : Int} {ge : Int} {t1 : Tok} {t2 : Tok} {at_ : Int} {t : Tok} (B : Below A₀ base outer h₀) (F : Fr h₀ L s.heap m) (X : (Mine.hd.heap_1 w.params).In h₀) (N : News h₀ L s.heap news) (T : Top p loose mean mg mb h₀) (hk : cs.kind = .function) (hdp : dp ≤ 600) (hun : un ≤ 5000) (hG : (G, instObj 150 dT) ∈ news) (hD : (dT, dictOf (gapD w.params γ Cs (.int gs t1) (.int ge t2)) 4) ∈ news) (hC : (Cs, listOf vs.toArray n) ∈ news) (ne_dT_G : @Ne Nat dT G) (ne_dT_Cs : @Ne Nat dT Cs) (ne_Cs_G : @Ne Nat Cs G) (hi : IntsAre vs cells) (ok : GapOk cells gs ge) (hz : cells.length ≤ 900000) (ha0 : 0 ≤ at_) (ha1 : at_ + (ge - gs) ≤ cells.length) (k : ∀ t1' t2' ge' (vs' : List Value) (cells' : List Int) n' h' tk', Fr h₀ L h' m → NewsAll h₀ L h' [(dT, dictOf (gapD w.params γ Cs (.int gs t1) (.int ge t2)) 4, dictOf (gapD w.params γ Cs (.int at_ t1') (.int ge' t2')) 4), (Cs, listOf vs.toArray n, listOf vs'.toArray n')] news [] → IntsAre vs' cells' → GapOk cells' at_ ge' → gapText cells' at_ ge' = gapText cells gs ge → ge' - at_ = ge - gs → cells'.length = cells.length → Q (.none) { s with heap := h', toks := tk' }) : wpAny (model prog w) (ktrTop dp un gd cn cs L a ccd cl outer) (call (.ref 105) [.ref G, .int at_ t]) Q E s := move_gap_specU (hkl dp [un, a, L, G, dT, Cs, n, t1, t2, t], hkl gs [ge, at_], hkl ccd [], hkl vs [], hkl cells [], hkl mg [mb, m], hkl prog [p], hkl w [], hkl Q [E], hkl cn [], hkl s [], uO u0, hkl news [], hkl base [h₀], hkl A₀ [], uSt u0, hkl γ [], uBT u0, uLT u0, uMT u0, hkl cs [], hkl gd [], hkl loose [], hkl outer [], hkl mean [], hkl cl [], uB u0, uOA u0, uSm u0, uRs u0, uF u0, uOs u0, uAr u0) B F X N T hk hdp hun hG hD hC ne_dT_G ne_dT_Cs ne_Cs_G hi ok hz ha0 ha1 k
set_option maxRecDepth 100000 in
set_option maxHeartbeats 8000000 in
theorem widen_gap_specU (v : U) : (fun (prog : Program) (w : World) (p : Program) (loose : List Str) (mean : ExcName → Option Value) (mg : Str → Option Value) (mb : Str → Option Value) (dp : Nat) (un : Nat) (gd : Option (List Code)) (cn : Str) (cs : Scope) (a : Addr) (ccd : Value) (cl : List (Str × Addr)) (outer : List Env) (A₀ : Around) (base : Heap) (h₀ : Heap) (L : Addr) (m : Str → Option Value) (news : List (Addr × Obj)) (s : Shared) (Q : Value → Shared → Prop) (E : Value → Shared → Prop) (γ : GT) (G : Addr) (dT : Addr) (Cs : Addr) (vs : List Value) (cells : List Int) (n : Nat) (gs : Int) (ge : Int) (t1 : Tok) (t2 : Tok) (wd : Int) (t : Tok) => ∀ (B : Below A₀ base outer h₀) (F : Fr h₀ L s.heap m) (X : (Mine.hd.heap_1 w.params).In h₀) (N : News h₀ L s.heap news) (T : Top p loose mean mg mb h₀) (hk : cs.kind = .function) (hdp : dp ≤ 600) (hun : un ≤ 5000) (hG : (G, instObj 150 dT) ∈ news) (hD : (dT, dictOf (gapD w.params γ Cs (.int gs t1) (.int ge t2)) 4) ∈ news) (hC : (Cs, listOf vs.toArray n) ∈ news) (ne_dT_G : @Ne Nat dT G) (ne_dT_Cs : @Ne Nat dT Cs) (ne_Cs_G : @Ne Nat Cs G) (hi : IntsAre vs cells) (ok : GapOk cells gs ge) (hz : cells.length ≤ 800000) (ha0 : 0 ≤ wd) (ha1 : wd ≤ 1000) (k : ∀ t1' t2' ge' (vs' : List Value) (cells' : List Int) n' h' tk', Fr h₀ L h' m → NewsAll h₀ L h' [(dT, dictOf (gapD w.params γ Cs (.int gs t1) (.int ge t2)) 4, dictOf (gapD w.params γ Cs (.int gs t1') (.int ge' t2')) 4), (Cs, listOf vs.toArray n, listOf vs'.toArray n')] news [] → IntsAre vs' cells' → GapOk cells' gs ge' → gapText cells' gs ge' = gapText cells gs ge → wd ≤ ge' - gs → (cells'.length : Int) ≤ cells.length + wd + 8 → (cells'.length : Int) - (ge' - gs) = cells.length - (ge - gs) → Q (.none) { s with heap := h', toks := tk' }), wpAny (model prog w) (ktrTop dp un gd cn cs L a ccd cl outer) (call (.ref 112) [.ref G, .int wd t]) Q E s) (uPr v 0) (uW v 0) (uPr v 1) (uSs v 0) (uX v 0) (uM v 0) (uM v 1) (uN v 0) (uN v 1) (uCs v 0) (uS v 0) (uSc v 0) (uN v 2) (uV v 0) (uCl v 0) (uEs v 0) (uA v 0) (uH v 0) (uH v 1) (uN v 3) (uM v 2) (uL v 0) (uSh v 0) (uQ v 0) (uQ v 1) (uGT v 0) (uN v 4) (uN v 5) (uN v 6) (uVs v 0) (uIs v 0) (uN v 7) (uI v 0) (uI v 1) (uN v 8) (uN v 9) (uI v 2) (uN v 10) := by
  revert v
  refine hkU ?_
  generalize ep _ _ = eU
  generalize uPr eU 0 = prog, uW eU 0 = w, uPr eU 1 = p, uSs eU 0 = loose, uX eU 0 = mean, uM eU 0 = mg, uM eU 1 = mb, uN eU 0 = dp, uN eU 1 = un, uCs eU 0 = gd, uS eU 0 = cn, uSc eU 0 = cs, uN eU 2 = a, uV eU 0 = ccd, uCl eU 0 = cl, uEs eU 0 = outer, uA eU 0 = A₀, uH eU 0 = base, uH eU 1 = h₀, uN eU 3 = L, uM eU 2 = m, uL eU 0 = news, uSh eU 0 = s, uQ eU 0 = Q, uQ eU 1 = E, uGT eU 0 = γ, uN eU 4 = G, uN eU 5 = dT, uN eU 6 = Cs, uVs eU 0 = vs, uIs eU 0 = cells, uN eU 7 = n, uI eU 0 = gs, uI eU 1 = ge, uN eU 8 = t1, uN eU 9 = t2, uI eU 2 = wd, uN eU 10 = t
  clear eU
  refine fun B F X N T hk hdp hun hG hD hC ne_dT_G ne_dT_Cs ne_Cs_G hi ok hz ha0 ha1 k => ?_
  have N1 : News h₀ L s.heap ((G, instObj 150 dT) :: (dT, dictOf (gapD w.params γ Cs (.int gs t1) (.int ge t2)) 4) :: (Cs, listOf vs.toArray n) :: (restOf [dT, Cs] news)) := by
    refine news_cons ?_ N hG
    refine news_cons ?_ N hD
    refine news_cons ?_ N hC
    exact news_sub N restOf_in
  have off_dT : Off dT ((restOf [dT, Cs] news)) := restOf_off (by simp)
  have off_Cs : Off Cs ((restOf [dT, Cs] news)) := restOf_off (by simp)
  have k' : ∀ t1' t2' ge' (vs' : List Value) (cells' : List Int) n' h' tk', Fr h₀ L h' m → News h₀ L h' ((dT, dictOf (gapD w.params γ Cs (.int gs t1') (.int ge' t2')) 4) :: (Cs, listOf vs'.toArray n') :: (restOf [dT, Cs] news)) → IntsAre vs' cells' → GapOk cells' gs ge' → gapText cells' gs ge' = gapText cells gs ge → wd ≤ ge' - gs → (cells'.length : Int) ≤ cells.length + wd + 8 → (cells'.length : Int) - (ge' - gs) = cells.length - (ge - gs) → Q (.none) { s with heap := h', toks := tk' } := by
    intro t1' t2' ge' vs' cells' n' h' tk' F' N'  f0 f1 f2 f3 f4 f5
    exact k _ _ _ _ _ _ _ _ F' (fun news' U => news_back (fresh := []) U N')  f0 f1 f2 f3 f4 f5
  generalize (restOf [dT, Cs] news) = rest at *
  clear N k hG hD hC
  refine wpAny_call ?_
  k_dflt ktr_enter
  have ok' := ok
  obtain ⟨ok0, ok1, ok2⟩ := ok'
  (repeat' (first | (with_reducible ((with_reducible show wpAny _ _ (call (Value.builtin "len") _) _ _ _); ((with_unfolding_all (refine' len_ints_fit (by is_list) (by l_ints) (by l_fit) ?_; k_whole)); (try simp only [List.length_append, List.length_cons, List.length_nil, Nat.zero_add])))) | (with_reducible ((with_reducible show wpAny _ _ (setItem (Value.ref _) (Value.ref _) _) _ _ _); (k_dflt (refine' set_slice (by k_asm) (by k_asm) (by k_mem) (by k_mem) (by k_ne) (by assumption) (by assumption) (by k_upd) (by regstrif_gather) (by regstrif_gather) (by regstrif_gather) (by regstrif_gather) ?_; k_whole); intro h' F' N' hi'; (try k_sweep)))) | (k_unfold; (try dsimp only)) | (k_end; kc_close) | walk1 | (dsimp only; walk1) | (leave1; walk_say "STEP leave1"; (try dsimp only)) | fail "no step"))
  · have hzl : (((List.replicate (wd - (ge - gs) + 8).toNat [(0 : Int)]).flatten).length : Int) = wd - (ge - gs) + 8 := by simp; omega
    obtain ⟨p1, p2, p3⟩ := widen_text (zs := (List.replicate (wd - (ge - gs) + 8).toNat [(0 : Int)]).flatten) ok
    rw [hzl, ← Int.add_assoc] at p1 p2
    exact k' _ _ _ _ _ _ _ _ (by assumption) (by ktr_rel) (by assumption) p1 p2 (by omega) (by rw [p3]; omega) (by rw [p3]; omega)
  · exact k' _ _ _ _ _ _ _ _ (by assumption) (by ktr_rel) hi ok rfl (by omega) (by omega) rfl
theorem widen_gap_spec {prog : Program} {w : World} {p : Program} {loose : List Str} {mean : ExcName → Option Value} {mg : Str → Option Value} {mb : Str → Option Value} {dp : Nat} {un : Nat} {gd : Option (List Code)} {cn : Str} {cs : Scope} {a : Addr} {ccd : Value} {cl : List (Str × Addr)} {outer : List Env} {A₀ : Around} {base : Heap} {h₀ : Heap} {L : Addr} {m : Str → Option Value} {news : List (Addr × Obj)} {s : Shared} {Q : Value → Shared → Prop} {E : Value → Shared → Prop} {γ : GT} {G : Addr} {dT : Addr} {Cs : Addr} {vs : List Value} {cells : List Int} {n : Nat} {gs : Int} {ge : Int} {t1 : Tok} {t2 : Tok} {wd : Int} {t : Tok} (B : Below A₀ base outer h₀) (F : Fr h₀ L s.heap m) (X : (Mine.hd.heap_1 w.params).In h₀) (N : News h₀ L s.heap news) (T : Top p loose mean mg mb h₀) (hk : cs.kind = .function) (hdp : dp ≤ 600) (hun : un ≤ 5000) (hG : (G, instObj 150 dT) ∈ news) (hD : (dT, dictOf (gapD w.params γ Cs (.int gs t1) (.int ge t2)) 4) ∈ news) (hC : (Cs, listOf vs.toArray n) ∈ news) (ne_dT_G : @Ne Nat dT G) (ne_dT_Cs : @Ne Nat dT Cs) (ne_Cs_G : @Ne Nat Cs G) (hi : IntsAre vs cells) (ok : GapOk cells gs ge) (hz : cells.length ≤ 800000) (ha0 : 0 ≤ wd) (ha1 : wd ≤ 1000) (k : ∀ t1' t2' ge' (vs' : List Value) (cells' : List Int) n' h' tk', Fr h₀ L h' m → NewsAll h₀ L h' [(dT, dictOf (gapD w.params γ Cs (.int gs t1) (.int ge t2)) 4, dictOf (gapD w.params γ Cs (.int gs t1') (.int ge' t2')) 4), (Cs, listOf vs.toArray n, listOf vs'.toArray n')] news [] → IntsAre vs' cells' → GapOk cells' gs ge' → gapText cells' gs ge' = gapText cells gs ge → wd ≤ ge' - gs → (cells'.length : Int) ≤ cells.length + wd + 8 → (cells'.length : Int) - (ge' - gs) = cells.length - (ge - gs) → Q (.none) { s with heap := h', toks := tk' }) : wpAny (model prog w) (ktrTop dp un gd cn cs L a ccd cl outer) (call (.ref 112) [.ref G, .int wd t]) Q E s := widen_gap_specU (hkl dp [un, a, L, G, dT, Cs, n, t1, t2, t], hkl gs [ge, wd], hkl ccd [], hkl vs [], hkl cells [], hkl mg [mb, m], hkl prog [p], hkl w [], hkl Q [E], hkl cn [], hkl s [], uO u0, hkl news [], hkl base [h₀], hkl A₀ [], uSt u0, hkl γ [], uBT u0, uLT u0, uMT u0, hkl cs [], hkl gd [], hkl loose [], hkl outer [], hkl mean [], hkl cl [], uB u0, uOA u0, uSm u0, uRs u0, uF u0, uOs u0, uAr u0) B F X N T hk hdp hun hG hD hC ne_dT_G ne_dT_Cs ne_Cs_G hi ok hz ha0 ha1 k
set_option maxRecDepth 100000 in
set_option maxHeartbeats 8000000 in
theorem insert_specU (v : U) : (fun (prog : Program) (w : World) (p : Program) (loose : List Str) (mean : ExcName → Option Value) (mg : Str → Option Value) (mb : Str → Option Value) (dp : Nat) (un : Nat) (gd : Option (List Code)) (cn : Str) (cs : Scope) (a : Addr) (ccd : Value) (cl : List (Str × Addr)) (outer : List Env) (A₀ : Around) (base : Heap) (h₀ : Heap) (L : Addr) (m : Str → Option Value) (news : List (Addr × Obj)) (s : Shared) (Q : Value → Shared → Prop) (E : Value → Shared → Prop) (γ : GT) (G : Addr) (dT : Addr) (Cs : Addr) (vs : List Value) (cells : List Int) (n : Nat) (gs : Int) (ge : Int) (t1 : Tok) (t2 : Tok) (at_ : Int) (t : Tok) (Lc : Addr) (us : List Value) (ms : List Int) (nl : Nat) => ∀ (B : Below A₀ base outer h₀) (F : Fr h₀ L s.heap m) (X : (Mine.hd.heap_1 w.params).In h₀) (N : News h₀ L s.heap news) (T : Top p loose mean mg mb h₀) (hk : cs.kind = .function) (hdp : dp ≤ 590) (hun : un ≤ 4900) (hG : (G, instObj 150 dT) ∈ news) (hL : (Lc, listOf us.toArray nl) ∈ news) (hD : (dT, dictOf (gapD w.params γ Cs (.int gs t1) (.int ge t2)) 4) ∈ news) (hC : (Cs, listOf vs.toArray n) ∈ news) (ne_dT_G : @Ne Nat dT G) (ne_dT_Lc : @Ne Nat dT Lc) (ne_dT_Cs : @Ne Nat dT Cs) (ne_Cs_G : @Ne Nat Cs G) (ne_Cs_Lc : @Ne Nat Cs Lc) (hi : IntsAre vs cells) (ok : GapOk cells gs ge) (hi2 : IntsAre us ms) (hz : cells.length ≤ 700000) (hz2 : ms.length ≤ 1000) (ha0 : 0 ≤ at_) (ha1 : at_ + (ge - gs) ≤ cells.length) (k : ∀ t1' t2' gs' ge' (vs' : List Value) (cells' : List Int) n' h' tk', Fr h₀ L h' m → NewsAll h₀ L h' [(dT, dictOf (gapD w.params γ Cs (.int gs t1) (.int ge t2)) 4, dictOf (gapD w.params γ Cs (.int gs' t1') (.int ge' t2')) 4), (Cs, listOf vs.toArray n, listOf vs'.toArray n')] news [] → IntsAre vs' cells' → GapOk cells' gs' ge' → gapText cells' gs' ge' = (gapText cells gs ge).take at_.toNat ++ ms ++ (gapText cells gs ge).drop at_.toNat → (cells'.length : Int) ≤ cells.length + ms.length + 8 → (cells'.length : Int) - (ge' - gs') = cells.length - (ge - gs) + ms.length → Q (.none) { s with heap := h', toks := tk' }), wpAny (model prog w) (ktrTop dp un gd cn cs L a ccd cl outer) (call (.ref 119) [.ref G, .int at_ t, .ref Lc]) Q E s) (uPr v 0) (uW v 0) (uPr v 1) (uSs v 0) (uX v 0) (uM v 0) (uM v 1) (uN v 0) (uN v 1) (uCs v 0) (uS v 0) (uSc v 0) (uN v 2) (uV v 0) (uCl v 0) (uEs v 0) (uA v 0) (uH v 0) (uH v 1) (uN v 3) (uM v 2) (uL v 0) (uSh v 0) (uQ v 0) (uQ v 1) (uGT v 0) (uN v 4) (uN v 5) (uN v 6) (uVs v 0) (uIs v 0) (uN v 7) (uI v 0) (uI v 1) (uN v 8) (uN v 9) (uI v 2) (uN v 10) (uN v 11) (uVs v 1) (uIs v 1) (uN v 12) := by
  revert v
  refine hkU ?_
  generalize ep _ _ = eU
  generalize uPr eU 0 = prog, uW eU 0 = w, uPr eU 1 = p, uSs eU 0 = loose, uX eU 0 = mean, uM eU 0 = mg, uM eU 1 = mb, uN eU 0 = dp, uN eU 1 = un, uCs eU 0 = gd, uS eU 0 = cn, uSc eU 0 = cs, uN eU 2 = a, uV eU 0 = ccd, uCl eU 0 = cl, uEs eU 0 = outer, uA eU 0 = A₀, uH eU 0 = base, uH eU 1 = h₀, uN eU 3 = L, uM eU 2 = m, uL eU 0 = news, uSh eU 0 = s, uQ eU 0 = Q, uQ eU 1 = E, uGT eU 0 = γ, uN eU 4 = G, uN eU 5 = dT, uN eU 6 = Cs, uVs eU 0 = vs, uIs eU 0 = cells, uN eU 7 = n, uI eU 0 = gs, uI eU 1 = ge, uN eU 8 = t1, uN eU 9 = t2, uI eU 2 = at_, uN eU 10 = t, uN eU 11 = Lc, uVs eU 1 = us, uIs eU 1 = ms, uN eU 12 = nl
  clear eU
  refine fun B F X N T hk hdp hun hG hL hD hC ne_dT_G ne_dT_Lc ne_dT_Cs ne_Cs_G ne_Cs_Lc hi ok hi2 hz hz2 ha0 ha1 k => ?_
  have N1 : News h₀ L s.heap ((G, instObj 150 dT) :: (Lc, listOf us.toArray nl) :: (dT, dictOf (gapD w.params γ Cs (.int gs t1) (.int ge t2)) 4) :: (Cs, listOf vs.toArray n) :: (restOf [dT, Cs] news)) := by
    refine news_cons ?_ N hG
    refine news_cons ?_ N hL
    refine news_cons ?_ N hD
    refine news_cons ?_ N hC
    exact news_sub N restOf_in
  have off_dT : Off dT ((restOf [dT, Cs] news)) := restOf_off (by simp)
  have off_Cs : Off Cs ((restOf [dT, Cs] news)) := restOf_off (by simp)
  have k' : ∀ t1' t2' gs' ge' (vs' : List Value) (cells' : List Int) n' h' tk', Fr h₀ L h' m → News h₀ L h' ((dT, dictOf (gapD w.params γ Cs (.int gs' t1') (.int ge' t2')) 4) :: (Cs, listOf vs'.toArray n') :: (restOf [dT, Cs] news)) → IntsAre vs' cells' → GapOk cells' gs' ge' → gapText cells' gs' ge' = (gapText cells gs ge).take at_.toNat ++ ms ++ (gapText cells gs ge).drop at_.toNat → (cells'.length : Int) ≤ cells.length + ms.length + 8 → (cells'.length : Int) - (ge' - gs') = cells.length - (ge - gs) + ms.length → Q (.none) { s with heap := h', toks := tk' } := by
    intro t1' t2' gs' ge' vs' cells' n' h' tk' F' N'  f0 f1 f2 f3 f4
    exact k _ _ _ _ _ _ _ _ _ F' (fun news' U => news_back (fresh := []) U N')  f0 f1 f2 f3 f4
  generalize (restOf [dT, Cs] news) = rest at *
  clear N k hG hL hD hC
  refine wpAny_call ?_
  k_dflt ktr_enter
  have ok' := ok
  obtain ⟨ok0, ok1, ok2⟩ := ok'
  have hlen := hi2.length
  (repeat' (first | (with_reducible ((with_reducible show wpAny _ _ (call (Value.builtin "len") _) _ _ _); ((with_unfolding_all (refine' len_ints_fit (by is_list) (by l_ints) (by l_fit) ?_; k_whole)); (try simp only [List.length_append, List.length_cons, List.length_nil, Nat.zero_add])))) | (with_reducible ((with_reducible show wpAny _ _ (setItem (Value.ref _) (Value.ref _) _) _ _ _); (k_dflt (refine' set_slice (by k_asm) (by k_asm) (by k_mem) (by k_mem) (by k_ne) (by assumption) (by assumption) (by k_upd) (by regstrif_gather) (by regstrif_gather) (by regstrif_gather) (by regstrif_gather) ?_; k_whole); intro h' F' N' hi'; (try k_sweep)))) | (k_unfold; (try dsimp only)) | (k_end; kc_close) | walk1 | (dsimp only; walk1) | (leave1; walk_say "STEP leave1"; (try dsimp only)) | fail "no step"))
  obtain ⟨p1, p2, p3⟩ := ins_text (ms := ms) (by assumption : GapOk _ at_ _) (by omega)
  rw [(by assumption : gapText _ at_ _ = _), (by assumption : gapText _ gs _ = gapText cells gs ge)] at p2
  exact k' _ _ _ _ _ _ _ _ _ (by assumption) (by ktr_rel) (by assumption) p1 p2 (by rw [p3]; omega) (by rw [p3]; omega)
theorem insert_spec {prog : Program} {w : World} {p : Program} {loose : List Str} {mean : ExcName → Option Value} {mg : Str → Option Value} {mb : Str → Option Value} {dp : Nat} {un : Nat} {gd : Option (List Code)} {cn : Str} {cs : Scope} {a : Addr} {ccd : Value} {cl : List (Str × Addr)} {outer : List Env} {A₀ : Around} {base : Heap} {h₀ : Heap} {L : Addr} {m : Str → Option Value} {news : List (Addr × Obj)} {s : Shared} {Q : Value → Shared → Prop} {E : Value → Shared → Prop} {γ : GT} {G : Addr} {dT : Addr} {Cs : Addr} {vs : List Value} {cells : List Int} {n : Nat} {gs : Int} {ge : Int} {t1 : Tok} {t2 : Tok} {at_ : Int} {t : Tok} {Lc : Addr} {us : List Value} {ms : List Int} {nl : Nat} (B : Below A₀ base outer h₀) (F : Fr h₀ L s.heap m) (X : (Mine.hd.heap_1 w.params).In h₀) (N : News h₀ L s.heap news) (T : Top p loose mean mg mb h₀) (hk : cs.kind = .function) (hdp : dp ≤ 590) (hun : un ≤ 4900) (hG : (G, instObj 150 dT) ∈ news) (hL : (Lc, listOf us.toArray nl) ∈ news) (hD : (dT, dictOf (gapD w.params γ Cs (.int gs t1) (.int ge t2)) 4) ∈ news) (hC : (Cs, listOf vs.toArray n) ∈ news) (ne_dT_G : @Ne Nat dT G) (ne_dT_Lc : @Ne Nat dT Lc) (ne_dT_Cs : @Ne Nat dT Cs) (ne_Cs_G : @Ne Nat Cs G) (ne_Cs_Lc : @Ne Nat Cs Lc) (hi : IntsAre vs cells) (ok : GapOk cells gs ge) (hi2 : IntsAre us ms) (hz : cells.length ≤ 700000) (hz2 : ms.length ≤ 1000) (ha0 : 0 ≤ at_) (ha1 : at_ + (ge - gs) ≤ cells.length) (k : ∀ t1' t2' gs' ge' (vs' : List Value) (cells' : List Int) n' h' tk', Fr h₀ L h' m → NewsAll h₀ L h' [(dT, dictOf (gapD w.params γ Cs (.int gs t1) (.int ge t2)) 4, dictOf (gapD w.params γ Cs (.int gs' t1') (.int ge' t2')) 4), (Cs, listOf vs.toArray n, listOf vs'.toArray n')] news [] → IntsAre vs' cells' → GapOk cells' gs' ge' → gapText cells' gs' ge' = (gapText cells gs ge).take at_.toNat ++ ms ++ (gapText cells gs ge).drop at_.toNat → (cells'.length : Int) ≤ cells.length + ms.length + 8 → (cells'.length : Int) - (ge' - gs') = cells.length - (ge - gs) + ms.length → Q (.none) { s with heap := h', toks := tk' }) : wpAny (model prog w) (ktrTop dp un gd cn cs L a ccd cl outer) (call (.ref 119) [.ref G, .int at_ t, .ref Lc]) Q E s := insert_specU (hkl dp [un, a, L, G, dT, Cs, n, t1, t2, t, Lc, nl], hkl gs [ge, at_], hkl ccd [], hkl vs [us], hkl cells [ms], hkl mg [mb, m], hkl prog [p], hkl w [], hkl Q [E], hkl cn [], hkl s [], uO u0, hkl news [], hkl base [h₀], hkl A₀ [], uSt u0, hkl γ [], uBT u0, uLT u0, uMT u0, hkl cs [], hkl gd [], hkl loose [], hkl outer [], hkl mean [], hkl cl [], uB u0, uOA u0, uSm u0, uRs u0, uF u0, uOs u0, uAr u0) B F X N T hk hdp hun hG hL hD hC ne_dT_G ne_dT_Lc ne_dT_Cs ne_Cs_G ne_Cs_Lc hi ok hi2 hz hz2 ha0 ha1 k
set_option maxRecDepth 100000 in
set_option maxHeartbeats 8000000 in
theorem codes_specU (v : U) : (fun (prog : Program) (w : World) (p : Program) (loose : List Str) (mean : ExcName → Option Value) (mg : Str → Option Value) (mb : Str → Option Value) (dp : Nat) (un : Nat) (gd : Option (List Code)) (cn : Str) (cs : Scope) (a : Addr) (ccd : Value) (cl : List (Str × Addr)) (outer : List Env) (A₀ : Around) (base : Heap) (h₀ : Heap) (L : Addr) (m : Str → Option Value) (news : List (Addr × Obj)) (s : Shared) (Q : Value → Shared → Prop) (E : Value → Shared → Prop) (γ : GT) (G : Addr) (dT : Addr) (Cs : Addr) (vs : List Value) (cells : List Int) (n : Nat) (gs : Int) (ge : Int) (t1 : Tok) (t2 : Tok) (x : Int) (y : Int) (tx : Tok) (ty : Tok) => ∀ (B : Below A₀ base outer h₀) (F : Fr h₀ L s.heap m) (X : (Mine.hd.heap_1 w.params).In h₀) (N : News h₀ L s.heap news) (T : Top p loose mean mg mb h₀) (hk : cs.kind = .function) (hdp : dp ≤ 600) (hun : un ≤ 5000) (hG : (G, instObj 150 dT) ∈ news) (hD : (dT, dictOf (gapD w.params γ Cs (.int gs t1) (.int ge t2)) 4) ∈ news) (hC : (Cs, listOf vs.toArray n) ∈ news) (hi : IntsAre vs cells) (ok : GapOk cells gs ge) (hz : cells.length ≤ 900000) (ha0 : 0 ≤ x) (ha1 : x ≤ y) (ha2 : y + (ge - gs) ≤ cells.length) (k : ∀ q (ws : List Value) n' h' tk', Fr h₀ L h' m → News h₀ L h' ((q, listOf ws.toArray n') :: news) → AllLt q news → IntsAre ws (((gapText cells gs ge).drop x.toNat).take (y - x).toNat) → Q (.ref q) { s with heap := h', toks := tk' }), wpAny (model prog w) (ktrTop dp un gd cn cs L a ccd cl outer) (call (.ref 98) [.ref G, .int x tx, .int y ty]) Q E s) (uPr v 0) (uW v 0) (uPr v 1) (uSs v 0) (uX v 0) (uM v 0) (uM v 1) (uN v 0) (uN v 1) (uCs v 0) (uS v 0) (uSc v 0) (uN v 2) (uV v 0) (uCl v 0) (uEs v 0) (uA v 0) (uH v 0) (uH v 1) (uN v 3) (uM v 2) (uL v 0) (uSh v 0) (uQ v 0) (uQ v 1) (uGT v 0) (uN v 4) (uN v 5) (uN v 6) (uVs v 0) (uIs v 0) (uN v 7) (uI v 0) (uI v 1) (uN v 8) (uN v 9) (uI v 2) (uI v 3) (uN v 10) (uN v 11) := by
  revert v
  refine hkU ?_
  generalize ep _ _ = eU
  generalize uPr eU 0 = prog, uW eU 0 = w, uPr eU 1 = p, uSs eU 0 = loose, uX eU 0 = mean, uM eU 0 = mg, uM eU 1 = mb, uN eU 0 = dp, uN eU 1 = un, uCs eU 0 = gd, uS eU 0 = cn, uSc eU 0 = cs, uN eU 2 = a, uV eU 0 = ccd, uCl eU 0 = cl, uEs eU 0 = outer, uA eU 0 = A₀, uH eU 0 = base, uH eU 1 = h₀, uN eU 3 = L, uM eU 2 = m, uL eU 0 = news, uSh eU 0 = s, uQ eU 0 = Q, uQ eU 1 = E, uGT eU 0 = γ, uN eU 4 = G, uN eU 5 = dT, uN eU 6 = Cs, uVs eU 0 = vs, uIs eU 0 = cells, uN eU 7 = n, uI eU 0 = gs, uI eU 1 = ge, uN eU 8 = t1, uN eU 9 = t2, uI eU 2 = x, uI eU 3 = y, uN eU 10 = tx, uN eU 11 = ty
  clear eU
  refine fun B F X N T hk hdp hun hG hD hC hi ok hz ha0 ha1 ha2 k => ?_
  have N1 : News h₀ L s.heap ((G, instObj 150 dT) :: (dT, dictOf (gapD w.params γ Cs (.int gs t1) (.int ge t2)) 4) :: (Cs, listOf vs.toArray n) :: news) := by
    refine news_cons ?_ N hG
    refine news_cons ?_ N hD
    refine news_cons ?_ N hC
    exact N
  have k' := k
  clear N k hG hD hC
  refine wpAny_call ?_
  k_dflt ktr_enter
  have ok' := ok
  obtain ⟨ok0, ok1, ok2⟩ := ok'
  (repeat' (first | (with_reducible ((with_reducible show wpAny _ _ (call (Value.builtin "len") _) _ _ _); ((with_unfolding_all (refine' len_ints_fit (by is_list) (by l_ints) (by l_fit) ?_; k_whole)); (try simp only [List.length_append, List.length_cons, List.length_nil, Nat.zero_add])))) | (with_reducible ((with_reducible show wpAny _ _ (setItem (Value.ref _) (Value.ref _) _) _ _ _); (k_dflt (refine' set_slice (by k_asm) (by k_asm) (by k_mem) (by k_mem) (by k_ne) (by assumption) (by assumption) (by k_upd) (by regstrif_gather) (by regstrif_gather) (by regstrif_gather) (by regstrif_gather) ?_; k_whole); intro h' F' N' hi'; (try k_sweep)))) | (k_unfold; (try dsimp only)) | (k_end; kc_close) | walk1 | (dsimp only; walk1) | (leave1; walk_say "STEP leave1"; (try dsimp only)) | fail "no step"))
  · exact k' _ _ _ _ _ (by assumption) (by ktr_rel) (by tb_start) (by rw [← gap_drop_take_left ok ha0 ha1 (by assumption)]; assumption)
  · exact k' _ _ _ _ _ (by assumption) (by ktr_rel) (by tb_start) (by rw [← gap_drop_take_right ok (by assumption) ha1 ha2]; assumption)
  · exact k' _ _ _ _ _ (by assumption) (by ktr_rel) (by tb_start) (by rw [← gap_drop_take_mid ok ha0 (by omega) (by omega) ha2]; assumption)
theorem codes_spec {prog : Program} {w : World} {p : Program} {loose : List Str} {mean : ExcName → Option Value} {mg : Str → Option Value} {mb : Str → Option Value} {dp : Nat} {un : Nat} {gd : Option (List Code)} {cn : Str} {cs : Scope} {a : Addr} {ccd : Value} {cl : List (Str × Addr)} {outer : List Env} {A₀ : Around} {base : Heap} {h₀ : Heap} {L : Addr} {m : Str → Option Value} {news : List (Addr × Obj)} {s : Shared} {Q : Value → Shared → Prop} {E : Value → Shared → Prop} {γ : GT} {G : Addr} {dT : Addr} {Cs : Addr} {vs : List Value} {cells : List Int} {n : Nat} {gs : Int} {ge : Int} {t1 : Tok} {t2 : Tok} {x : Int} {y : Int} {tx : Tok} {ty : Tok} (B : Below A₀ base outer h₀) (F : Fr h₀ L s.heap m) (X : (Mine.hd.heap_1 w.params).In h₀) (N : News h₀ L s.heap news) (T : Top p loose mean mg mb h₀) (hk : cs.kind = .function) (hdp : dp ≤ 600) (hun : un ≤ 5000) (hG : (G, instObj 150 dT) ∈ news) (hD : (dT, dictOf (gapD w.params γ Cs (.int gs t1) (.int ge t2)) 4) ∈ news) (hC : (Cs, listOf vs.toArray n) ∈ news) (hi : IntsAre vs cells) (ok : GapOk cells gs ge) (hz : cells.length ≤ 900000) (ha0 : 0 ≤ x) (ha1 : x ≤ y) (ha2 : y + (ge - gs) ≤ cells.length) (k : ∀ q (ws : List Value) n' h' tk', Fr h₀ L h' m → News h₀ L h' ((q, listOf ws.toArray n') :: news) → AllLt q news → IntsAre ws (((gapText cells gs ge).drop x.toNat).take (y - x).toNat) → Q (.ref q) { s with heap := h', toks := tk' }) : wpAny (model prog w) (ktrTop dp un gd cn cs L a ccd cl outer) (call (.ref 98) [.ref G, .int x tx, .int y ty]) Q E s := codes_specU (hkl dp [un, a, L, G, dT, Cs, n, t1, t2, tx, ty], hkl gs [ge, x, y], hkl ccd [], hkl vs [], hkl cells [], hkl mg [mb, m], hkl prog [p], hkl w [], hkl Q [E], hkl cn [], hkl s [], uO u0, hkl news [], hkl base [h₀], hkl A₀ [], uSt u0, hkl γ [], uBT u0, uLT u0, uMT u0, hkl cs [], hkl gd [], hkl loose [], hkl outer [], hkl mean [], hkl cl [], uB u0, uOA u0, uSm u0, uRs u0, uF u0, uOs u0, uAr u0) B F X N T hk hdp hun hG hD hC hi ok hz ha0 ha1 ha2 k
set_option maxRecDepth 100000 in
set_option maxHeartbeats 8000000 in
theorem delete_specU (v : U) : (fun (prog : Program) (w : World) (p : Program) (loose : List Str) (mean : ExcName → Option Value) (mg : Str → Option Value) (mb : Str → Option Value) (dp : Nat) (un : Nat) (gd : Option (List Code)) (cn : Str) (cs : Scope) (a : Addr) (ccd : Value) (cl : List (Str × Addr)) (outer : List Env) (A₀ : Around) (base : Heap) (h₀ : Heap) (L : Addr) (m : Str → Option Value) (news : List (Addr × Obj)) (s : Shared) (Q : Value → Shared → Prop) (E : Value → Shared → Prop) (γ : GT) (G : Addr) (dT : Addr) (Cs : Addr) (vs : List Value) (cells : List Int) (n : Nat) (gs : Int) (ge : Int) (t1 : Tok) (t2 : Tok) (x : Int) (y : Int) (tx : Tok) (ty : Tok) => ∀ (B : Below A₀ base outer h₀) (F : Fr h₀ L s.heap m) (X : (Mine.hd.heap_1 w.params).In h₀) (N : News h₀ L s.heap news) (T : Top p loose mean mg mb h₀) (hk : cs.kind = .function) (hdp : dp ≤ 590) (hun : un ≤ 4900) (hG : (G, instObj 150 dT) ∈ news) (hD : (dT, dictOf (gapD w.params γ Cs (.int gs t1) (.int ge t2)) 4) ∈ news) (hC : (Cs, listOf vs.toArray n) ∈ news) (ne_dT_G : @Ne Nat dT G) (ne_dT_Cs : @Ne Nat dT Cs) (ne_Cs_G : @Ne Nat Cs G) (hi : IntsAre vs cells) (ok : GapOk cells gs ge) (hz : cells.length ≤ 800000) (ha0 : 0 ≤ x) (ha1 : x ≤ y) (ha2 : y + (ge - gs) ≤ cells.length) (k : ∀ q (ws : List Value) n2' t1' t2' ge' (vs' : List Value) (cells' : List Int) n' h' tk', Fr h₀ L h' m → NewsAll h₀ L h' [(dT, dictOf (gapD w.params γ Cs (.int gs t1) (.int ge t2)) 4, dictOf (gapD w.params γ Cs (.int x t1') (.int ge' t2')) 4), (Cs, listOf vs.toArray n, listOf vs'.toArray n')] news [(q, listOf ws.toArray n2')] → AllLt q news → IntsAre ws (((gapText cells gs ge).drop x.toNat).take (y - x).toNat) → IntsAre vs' cells' → GapOk cells' x ge' → gapText cells' x ge' = (gapText cells gs ge).take x.toNat ++ (gapText cells gs ge).drop y.toNat → cells'.length = cells.length → (cells'.length : Int) - (ge' - x) = cells.length - (ge - gs) - (y - x) → Q (.ref q) { s with heap := h', toks := tk' }), wpAny (model prog w) (ktrTop dp un gd cn cs L a ccd cl outer) (call (.ref 126) [.ref G, .int x tx, .int y ty]) Q E s) (uPr v 0) (uW v 0) (uPr v 1) (uSs v 0) (uX v 0) (uM v 0) (uM v 1) (uN v 0) (uN v 1) (uCs v 0) (uS v 0) (uSc v 0) (uN v 2) (uV v 0) (uCl v 0) (uEs v 0) (uA v 0) (uH v 0) (uH v 1) (uN v 3) (uM v 2) (uL v 0) (uSh v 0) (uQ v 0) (uQ v 1) (uGT v 0) (uN v 4) (uN v 5) (uN v 6) (uVs v 0) (uIs v 0) (uN v 7) (uI v 0) (uI v 1) (uN v 8) (uN v 9) (uI v 2) (uI v 3) (uN v 10) (uN v 11) := by
  revert v
  refine hkU ?_
  generalize ep _ _ = eU
  generalize uPr eU 0 = prog, uW eU 0 = w, uPr eU 1 = p, uSs eU 0 = loose, uX eU 0 = mean, uM eU 0 = mg, uM eU 1 = mb, uN eU 0 = dp, uN eU 1 = un, uCs eU 0 = gd, uS eU 0 = cn, uSc eU 0 = cs, uN eU 2 = a, uV eU 0 = ccd, uCl eU 0 = cl, uEs eU 0 = outer, uA eU 0 = A₀, uH eU 0 = base, uH eU 1 = h₀, uN eU 3 = L, uM eU 2 = m, uL eU 0 = news, uSh eU 0 = s, uQ eU 0 = Q, uQ eU 1 = E, uGT eU 0 = γ, uN eU 4 = G, uN eU 5 = dT, uN eU 6 = Cs, uVs eU 0 = vs, uIs eU 0 = cells, uN eU 7 = n, uI eU 0 = gs, uI eU 1 = ge, uN eU 8 = t1, uN eU 9 = t2, uI eU 2 = x, uI eU 3 = y, uN eU 10 = tx, uN eU 11 = ty
  clear eU
  refine fun B F X N T hk hdp hun hG hD hC ne_dT_G ne_dT_Cs ne_Cs_G hi ok hz ha0 ha1 ha2 k => ?_
  have N1 : News h₀ L s.heap ((G, instObj 150 dT) :: (dT, dictOf (gapD w.params γ Cs (.int gs t1) (.int ge t2)) 4) :: (Cs, listOf vs.toArray n) :: (restOf [dT, Cs] news)) := by
    refine news_cons ?_ N hG
    refine news_cons ?_ N hD
    refine news_cons ?_ N hC
    exact news_sub N restOf_in
  have off_dT : Off dT ((restOf [dT, Cs] news)) := restOf_off (by simp)
  have off_Cs : Off Cs ((restOf [dT, Cs] news)) := restOf_off (by simp)
  have k' : ∀ q (ws : List Value) n2' t1' t2' ge' (vs' : List Value) (cells' : List Int) n' h' tk', Fr h₀ L h' m → News h₀ L h' ((q, listOf ws.toArray n2') :: (dT, dictOf (gapD w.params γ Cs (.int x t1') (.int ge' t2')) 4) :: (Cs, listOf vs'.toArray n') :: (restOf [dT, Cs] news)) → @LT.lt Nat _ dT q → @LT.lt Nat _ Cs q → AllLt q ((restOf [dT, Cs] news)) → IntsAre ws (((gapText cells gs ge).drop x.toNat).take (y - x).toNat) → IntsAre vs' cells' → GapOk cells' x ge' → gapText cells' x ge' = (gapText cells gs ge).take x.toNat ++ (gapText cells gs ge).drop y.toNat → cells'.length = cells.length → (cells'.length : Int) - (ge' - x) = cells.length - (ge - gs) - (y - x) → Q (.ref q) { s with heap := h', toks := tk' } := by
    intro q ws n2' t1' t2' ge' vs' cells' n' h' tk' F' N' l0_0 l0_1 lr0 f0 f1 f2 f3 f4 f5
    exact k _ _ _ _ _ _ _ _ _ _ _ F' (fun news' U => news_back (fresh := [(q, listOf ws.toArray n2')]) U N') (lt_back (foot := [dT, Cs]) (fun b hb => by simp only [List.mem_cons, List.not_mem_nil, or_false] at hb; rcases hb with rfl | rfl <;> assumption) lr0) f0 f1 f2 f3 f4 f5
  generalize (restOf [dT, Cs] news) = rest at *
  clear N k hG hD hC
  refine wpAny_call ?_
  k_dflt ktr_enter
  have ok' := ok
  obtain ⟨ok0, ok1, ok2⟩ := ok'
  (repeat' (first | (with_reducible ((with_reducible show wpAny _ _ (call (Value.builtin "len") _) _ _ _); ((with_unfolding_all (refine' len_ints_fit (by is_list) (by l_ints) (by l_fit) ?_; k_whole)); (try simp only [List.length_append, List.length_cons, List.length_nil, Nat.zero_add])))) | (with_reducible ((with_reducible show wpAny _ _ (setItem (Value.ref _) (Value.ref _) _) _ _ _); (k_dflt (refine' set_slice (by k_asm) (by k_asm) (by k_mem) (by k_mem) (by k_ne) (by assumption) (by assumption) (by k_upd) (by regstrif_gather) (by regstrif_gather) (by regstrif_gather) (by regstrif_gather) ?_; k_whole); intro h' F' N' hi'; (try k_sweep)))) | (k_unfold; (try dsimp only)) | (k_end; kc_close) | walk1 | (dsimp only; walk1) | (leave1; walk_say "STEP leave1"; (try dsimp only)) | fail "no step"))
  · obtain ⟨p1, p2⟩ := del_text (by assumption : GapOk _ y _) ha0 ha1 (Int.le_refl y) (by omega)
    rename gapText _ y _ = gapText cells gs ge => e2
    rw [e2] at p2
    exact k' _ _ _ _ _ _ _ _ _ _ _ (by assumption) (by ktr_rel) (by tb_start) (by tb_start) (by tb_start) (by assumption) (by assumption) p1 p2 (by omega) (by omega)
  · obtain ⟨p1, p2⟩ := del_text (by assumption : GapOk _ x _) ha0 (Int.le_refl x) ha1 (by omega)
    rename gapText _ x _ = gapText cells gs ge => e2
    rw [e2] at p2
    exact k' _ _ _ _ _ _ _ _ _ _ _ (by assumption) (by ktr_rel) (by tb_start) (by tb_start) (by tb_start) (by assumption) (by assumption) p1 p2 (by omega) (by omega)
  · obtain ⟨p1, p2⟩ := del_text ok ha0 (by omega) (by omega) ha2
    exact k' _ _ _ _ _ _ _ _ _ _ _ (by assumption) (by ktr_rel) (by tb_start) (by tb_start) (by tb_start) (by assumption) hi p1 p2 rfl (by omega)
theorem delete_spec {prog : Program} {w : World} {p : Program} {loose : List Str} {mean : ExcName → Option Value} {mg : Str → Option Value} {mb : Str → Option Value} {dp : Nat} {un : Nat} {gd : Option (List Code)} {cn : Str} {cs : Scope} {a : Addr} {ccd : Value} {cl : List (Str × Addr)} {outer : List Env} {A₀ : Around} {base : Heap} {h₀ : Heap} {L : Addr} {m : Str → Option Value} {news : List (Addr × Obj)} {s : Shared} {Q : Value → Shared → Prop} {E : Value → Shared → Prop} {γ : GT} {G : Addr} {dT : Addr} {Cs : Addr} {vs : List Value} {cells : List Int} {n : Nat} {gs : Int} {ge : Int} {t1 : Tok} {t2 : Tok} {x : Int} {y : Int} {tx : Tok} {ty : Tok} (B : Below A₀ base outer h₀) (F : Fr h₀ L s.heap m) (X : (Mine.hd.heap_1 w.params).In h₀) (N : News h₀ L s.heap news) (T : Top p loose mean mg mb h₀) (hk : cs.kind = .function) (hdp : dp ≤ 590) (hun : un ≤ 4900) (hG : (G, instObj 150 dT) ∈ news) (hD : (dT, dictOf (gapD w.params γ Cs (.int gs t1) (.int ge t2)) 4) ∈ news) (hC : (Cs, listOf vs.toArray n) ∈ news) (ne_dT_G : @Ne Nat dT G) (ne_dT_Cs : @Ne Nat dT Cs) (ne_Cs_G : @Ne Nat Cs G) (hi : IntsAre vs cells) (ok : GapOk cells gs ge) (hz : cells.length ≤ 800000) (ha0 : 0 ≤ x) (ha1 : x ≤ y) (ha2 : y + (ge - gs) ≤ cells.length) (k : ∀ q (ws : List Value) n2' t1' t2' ge' (vs' : List Value) (cells' : List Int) n' h' tk', Fr h₀ L h' m → NewsAll h₀ L h' [(dT, dictOf (gapD w.params γ Cs (.int gs t1) (.int ge t2)) 4, dictOf (gapD w.params γ Cs (.int x t1') (.int ge' t2')) 4), (Cs, listOf vs.toArray n, listOf vs'.toArray n')] news [(q, listOf ws.toArray n2')] → AllLt q news → IntsAre ws (((gapText cells gs ge).drop x.toNat).take (y - x).toNat) → IntsAre vs' cells' → GapOk cells' x ge' → gapText cells' x ge' = (gapText cells gs ge).take x.toNat ++ (gapText cells gs ge).drop y.toNat → cells'.length = cells.length → (cells'.length : Int) - (ge' - x) = cells.length - (ge - gs) - (y - x) → Q (.ref q) { s with heap := h', toks := tk' }) : wpAny (model prog w) (ktrTop dp un gd cn cs L a ccd cl outer) (call (.ref 126) [.ref G, .int x tx, .int y ty]) Q E s := delete_specU (hkl dp [un, a, L, G, dT, Cs, n, t1, t2, tx, ty], hkl gs [ge, x, y], hkl ccd [], hkl vs [], hkl cells [], hkl mg [mb, m], hkl prog [p], hkl w [], hkl Q [E], hkl cn [], hkl s [], uO u0, hkl news [], hkl base [h₀], hkl A₀ [], uSt u0, hkl γ [], uBT u0, uLT u0, uMT u0, hkl cs [], hkl gd [], hkl loose [], hkl outer [], hkl mean [], hkl cl [], uB u0, uOA u0, uSm u0, uRs u0, uF u0, uOs u0, uAr u0) B F X N T hk hdp hun hG hD hC ne_dT_G ne_dT_Cs ne_Cs_G hi ok hz ha0 ha1 ha2 k
set_option maxRecDepth 100000 in
set_option maxHeartbeats 8000000 in
theorem size_specU (v : U) : (fun (prog : Program) (w : World) (p : Program) (loose : List Str) (mean : ExcName → Option Value) (mg : Str → Option Value) (mb : Str → Option Value) (dp : Nat) (un : Nat) (gd : Option (List Code)) (cn : Str) (cs : Scope) (a : Addr) (ccd : Value) (cl : List (Str × Addr)) (outer : List Env) (A₀ : Around) (base : Heap) (h₀ : Heap) (L : Addr) (m : Str → Option Value) (news : List (Addr × Obj)) (s : Shared) (Q : Value → Shared → Prop) (E : Value → Shared → Prop) (γ : GT) (G : Addr) (dT : Addr) (Cs : Addr) (vs : List Value) (cells : List Int) (n : Nat) (gs : Int) (ge : Int) (t1 : Tok) (t2 : Tok) => ∀ (B : Below A₀ base outer h₀) (F : Fr h₀ L s.heap m) (X : (Mine.hd.heap_1 w.params).In h₀) (N : News h₀ L s.heap news) (T : Top p loose mean mg mb h₀) (hk : cs.kind = .function) (hdp : dp ≤ 600) (hun : un ≤ 5000) (hG : (G, instObj 150 dT) ∈ news) (hD : (dT, dictOf (gapD w.params γ Cs (.int gs t1) (.int ge t2)) 4) ∈ news) (hC : (Cs, listOf vs.toArray n) ∈ news) (hi : IntsAre vs cells) (ok : GapOk cells gs ge) (hz : cells.length ≤ 900000) (k : ∀ t' h' tk', Fr h₀ L h' m → News h₀ L h' (news) → Q (.int ((gapText cells gs ge).length : Int) t') { s with heap := h', toks := tk' }), wpAny (model prog w) (ktrTop dp un gd cn cs L a ccd cl outer) (call (.ref 84) [.ref G]) Q E s) (uPr v 0) (uW v 0) (uPr v 1) (uSs v 0) (uX v 0) (uM v 0) (uM v 1) (uN v 0) (uN v 1) (uCs v 0) (uS v 0) (uSc v 0) (uN v 2) (uV v 0) (uCl v 0) (uEs v 0) (uA v 0) (uH v 0) (uH v 1) (uN v 3) (uM v 2) (uL v 0) (uSh v 0) (uQ v 0) (uQ v 1) (uGT v 0) (uN v 4) (uN v 5) (uN v 6) (uVs v 0) (uIs v 0) (uN v 7) (uI v 0) (uI v 1) (uN v 8) (uN v 9) := by
  revert v
  refine hkU ?_
  generalize ep _ _ = eU
  generalize uPr eU 0 = prog, uW eU 0 = w, uPr eU 1 = p, uSs eU 0 = loose, uX eU 0 = mean, uM eU 0 = mg, uM eU 1 = mb, uN eU 0 = dp, uN eU 1 = un, uCs eU 0 = gd, uS eU 0 = cn, uSc eU 0 = cs, uN eU 2 = a, uV eU 0 = ccd, uCl eU 0 = cl, uEs eU 0 = outer, uA eU 0 = A₀, uH eU 0 = base, uH eU 1 = h₀, uN eU 3 = L, uM eU 2 = m, uL eU 0 = news, uSh eU 0 = s, uQ eU 0 = Q, uQ eU 1 = E, uGT eU 0 = γ, uN eU 4 = G, uN eU 5 = dT, uN eU 6 = Cs, uVs eU 0 = vs, uIs eU 0 = cells, uN eU 7 = n, uI eU 0 = gs, uI eU 1 = ge, uN eU 8 = t1, uN eU 9 = t2
  clear eU
  refine fun B F X N T hk hdp hun hG hD hC hi ok hz k => ?_
  have N1 : News h₀ L s.heap ((G, instObj 150 dT) :: (dT, dictOf (gapD w.params γ Cs (.int gs t1) (.int ge t2)) 4) :: (Cs, listOf vs.toArray n) :: news) := by
    refine news_cons ?_ N hG
    refine news_cons ?_ N hD
    refine news_cons ?_ N hC
    exact N
  have k' := k
  clear N k hG hD hC
  refine wpAny_call ?_
  k_dflt ktr_enter
  have ok' := ok
  obtain ⟨ok0, ok1, ok2⟩ := ok'
  (repeat' (first | (with_reducible ((with_reducible show wpAny _ _ (call (Value.builtin "len") _) _ _ _); ((with_unfolding_all (refine' len_ints_fit (by is_list) (by l_ints) (by l_fit) ?_; k_whole)); (try simp only [List.length_append, List.length_cons, List.length_nil, Nat.zero_add])))) | (with_reducible ((with_reducible show wpAny _ _ (setItem (Value.ref _) (Value.ref _) _) _ _ _); (k_dflt (refine' set_slice (by k_asm) (by k_asm) (by k_mem) (by k_mem) (by k_ne) (by assumption) (by assumption) (by k_upd) (by regstrif_gather) (by regstrif_gather) (by regstrif_gather) (by regstrif_gather) ?_; k_whole); intro h' F' N' hi'; (try k_sweep)))) | (k_unfold; (try dsimp only)) | (k_end; kc_close) | walk1 | (dsimp only; walk1) | (leave1; walk_say "STEP leave1"; (try dsimp only)) | fail "no step"))
  have e : (cells.length : Int) - ge + gs = ((gapText cells gs ge).length : Int) := by rw [gapText_len ok]; omega
  rw [e]
  exact k' _ _ _ (by assumption) (by ktr_rel)
theorem size_spec {prog : Program} {w : World} {p : Program} {loose : List Str} {mean : ExcName → Option Value} {mg : Str → Option Value} {mb : Str → Option Value} {dp : Nat} {un : Nat} {gd : Option (List Code)} {cn : Str} {cs : Scope} {a : Addr} {ccd : Value} {cl : List (Str × Addr)} {outer : List Env} {A₀ : Around} {base : Heap} {h₀ : Heap} {L : Addr} {m : Str → Option Value} {news : List (Addr × Obj)} {s : Shared} {Q : Value → Shared → Prop} {E : Value → Shared → Prop} {γ : GT} {G : Addr} {dT : Addr} {Cs : Addr} {vs : List Value} {cells : List Int} {n : Nat} {gs : Int} {ge : Int} {t1 : Tok} {t2 : Tok} (B : Below A₀ base outer h₀) (F : Fr h₀ L s.heap m) (X : (Mine.hd.heap_1 w.params).In h₀) (N : News h₀ L s.heap news) (T : Top p loose mean mg mb h₀) (hk : cs.kind = .function) (hdp : dp ≤ 600) (hun : un ≤ 5000) (hG : (G, instObj 150 dT) ∈ news) (hD : (dT, dictOf (gapD w.params γ Cs (.int gs t1) (.int ge t2)) 4) ∈ news) (hC : (Cs, listOf vs.toArray n) ∈ news) (hi : IntsAre vs cells) (ok : GapOk cells gs ge) (hz : cells.length ≤ 900000) (k : ∀ t' h' tk', Fr h₀ L h' m → News h₀ L h' (news) → Q (.int ((gapText cells gs ge).length : Int) t') { s with heap := h', toks := tk' }) : wpAny (model prog w) (ktrTop dp un gd cn cs L a ccd cl outer) (call (.ref 84) [.ref G]) Q E s := size_specU (hkl dp [un, a, L, G, dT, Cs, n, t1, t2], hkl gs [ge], hkl ccd [], hkl vs [], hkl cells [], hkl mg [mb, m], hkl prog [p], hkl w [], hkl Q [E], hkl cn [], hkl s [], uO u0, hkl news [], hkl base [h₀], hkl A₀ [], uSt u0, hkl γ [], uBT u0, uLT u0, uMT u0, hkl cs [], hkl gd [], hkl loose [], hkl outer [], hkl mean [], hkl cl [], uB u0, uOA u0, uSm u0, uRs u0, uF u0, uOs u0, uAr u0) B F X N T hk hdp hun hG hD hC hi ok hz k
end
end
section
section
set_option maxRecDepth 100000 in
set_option maxHeartbeats 8000000 in
theorem bsize_specU (v : U) : (fun (prog : Program) (w : World) (p : Program) (loose : List Str) (mean : ExcName → Option Value) (mg : Str → Option Value) (mb : Str → Option Value) (dp : Nat) (un : Nat) (gd : Option (List Code)) (cn : Str) (cs : Scope) (a : Addr) (ccd : Value) (cl : List (Str × Addr)) (outer : List Env) (A₀ : Around) (base : Heap) (h₀ : Heap) (L : Addr) (m : Str → Option Value) (news : List (Addr × Obj)) (s : Shared) (Q : Value → Shared → Prop) (E : Value → Shared → Prop) (D : Addr) (dB : Addr) (Bf : Addr) (dT : Addr) (G : Addr) (Cs : Addr) (dM : Addr) (M : Addr) (R : Addr) (Ls : Addr) (dG : Addr) (Lg : Addr) (Rw : Addr) (γ : GT) (vs : List Value) (cells : List Int) (n : Nat) (gs : Int) (ge : Int) (t1 : Tok) (t2 : Tok) (β : BT) (pt : Int) (zv : Int) (ti : Int) (ci : Int) (tp : Tok) (tz : Tok) (tt : Tok) (tc : Tok) => ∀ (B : Below A₀ base outer h₀) (F : Fr h₀ L s.heap m) (X : (Mine.hd.heap_1 w.params).In h₀) (N : News h₀ L s.heap news) (T : Top p loose mean mg mb h₀) (hk : cs.kind = .function) (hdp : dp ≤ 590) (hun : un ≤ 4900) (mB : (Bf, instObj 361 dB) ∈ news) (mdB : (dB, dictOf (bufD w.params β G M Ls (.int pt tp) (.int zv tz) (.int ti tt) (.int ci tc)) 20) ∈ news) (mG : (G, instObj 150 dT) ∈ news) (mdT : (dT, dictOf (gapD w.params γ Cs (.int gs t1) (.int ge t2)) 4) ∈ news) (mCs : (Cs, listOf vs.toArray n) ∈ news) (adr : AdrOk D dB Bf dT G Cs dM M R Ls dG Lg Rw) (hi : IntsAre vs cells) (ok : GapOk cells gs ge) (hz : cells.length ≤ 900000) (k : ∀ t' h' tk', Fr h₀ L h' m → News h₀ L h' (news) → Q (.int ((gapText cells gs ge).length : Int) t') { s with heap := h', toks := tk' }), wpAny (model prog w) (ktrTop dp un gd cn cs L a ccd cl outer) (call (.ref 309) [.ref Bf]) Q E s) (uPr v 0) (uW v 0) (uPr v 1) (uSs v 0) (uX v 0) (uM v 0) (uM v 1) (uN v 0) (uN v 1) (uCs v 0) (uS v 0) (uSc v 0) (uN v 2) (uV v 0) (uCl v 0) (uEs v 0) (uA v 0) (uH v 0) (uH v 1) (uN v 3) (uM v 2) (uL v 0) (uSh v 0) (uQ v 0) (uQ v 1) (uN v 4) (uN v 5) (uN v 6) (uN v 7) (uN v 8) (uN v 9) (uN v 10) (uN v 11) (uN v 12) (uN v 13) (uN v 14) (uN v 15) (uN v 16) (uGT v 0) (uVs v 0) (uIs v 0) (uN v 17) (uI v 0) (uI v 1) (uN v 18) (uN v 19) (uBT v 0) (uI v 2) (uI v 3) (uI v 4) (uI v 5) (uN v 20) (uN v 21) (uN v 22) (uN v 23) := by
  revert v
  refine hkU ?_
  generalize ep _ _ = eU
  generalize uPr eU 0 = prog, uW eU 0 = w, uPr eU 1 = p, uSs eU 0 = loose, uX eU 0 = mean, uM eU 0 = mg, uM eU 1 = mb, uN eU 0 = dp, uN eU 1 = un, uCs eU 0 = gd, uS eU 0 = cn, uSc eU 0 = cs, uN eU 2 = a, uV eU 0 = ccd, uCl eU 0 = cl, uEs eU 0 = outer, uA eU 0 = A₀, uH eU 0 = base, uH eU 1 = h₀, uN eU 3 = L, uM eU 2 = m, uL eU 0 = news, uSh eU 0 = s, uQ eU 0 = Q, uQ eU 1 = E, uN eU 4 = D, uN eU 5 = dB, uN eU 6 = Bf, uN eU 7 = dT, uN eU 8 = G, uN eU 9 = Cs, uN eU 10 = dM, uN eU 11 = M, uN eU 12 = R, uN eU 13 = Ls, uN eU 14 = dG, uN eU 15 = Lg, uN eU 16 = Rw, uGT eU 0 = γ, uVs eU 0 = vs, uIs eU 0 = cells, uN eU 17 = n, uI eU 0 = gs, uI eU 1 = ge, uN eU 18 = t1, uN eU 19 = t2, uBT eU 0 = β, uI eU 2 = pt, uI eU 3 = zv, uI eU 4 = ti, uI eU 5 = ci, uN eU 20 = tp, uN eU 21 = tz, uN eU 22 = tt, uN eU 23 = tc
  clear eU
  refine fun B F X N T hk hdp hun mB mdB mG mdT mCs adr hi ok hz k => ?_
  have N1 : News h₀ L s.heap ((Bf, instObj 361 dB) :: (dB, dictOf (bufD w.params β G M Ls (.int pt tp) (.int zv tz) (.int ti tt) (.int ci tc)) 20) :: (G, instObj 150 dT) :: (dT, dictOf (gapD w.params γ Cs (.int gs t1) (.int ge t2)) 4) :: (Cs, listOf vs.toArray n) :: news) := by
    refine news_cons ?_ N mB
    refine news_cons ?_ N mdB
    refine news_cons ?_ N mG
    refine news_cons ?_ N mdT
    refine news_cons ?_ N mCs
    exact N
  have k' := k
  clear N k mB mdB mG mdT mCs
  refine wpAny_call ?_
  k_dflt ktr_enter
  have ok' := ok
  have adr' := adr
  obtain ⟨ok0, ok1, ok2⟩ := ok'
  obtain ⟨ad0, ad1, ad2, ad3, ad4, ad5, ad6, ad7, ad8, ad9, ad10, ad11⟩ := adr'
  obtain ⟨al0, al1, al2, al3, al4, al5, al6, al7, al8, al9, al10, al11⟩ := adr_lts adr
  (repeat' (first | (with_reducible (((with_reducible show wpAny _ _ (pyIter (Value.ref _)) (fun it s₂ => LoopAtV _ _ _ _ _ _ _ _ _ it s₂) _ _); (rename Fr _ _ _ _ => lF'); (rename News _ _ _ _ => lN'); (with_unfolding_all refine' iter_listUnr (by rfl) lF' lN' (by k_mem) (by exact rfl) (by exact rfl) ?_); clear lF'; intro i' l1; (try k_lt l1)))) | (with_reducible (((with_reducible show wpAny _ _ (call (Value.builtin "sorted") [Value.ref _]) _ _ _); k_dflt (refine' sorted_nil rfl (by k_asm) (by k_asm) (by k_mem) (by assumption) (by assumption) (by exact .nil) ?_); intro B' h' tk' F' N' l1; (try k_lt l1); (try k_sweep)))) | (k_unfold; (try dsimp only)) | (k_end; kc_close) | walk1 | (dsimp only; walk1) | (leave1; walk_say "STEP leave1"; (try dsimp only)) | fail "no step"))
  exact k' _ _ _ (by assumption) (by ktr_rel)
theorem bsize_spec {prog : Program} {w : World} {p : Program} {loose : List Str} {mean : ExcName → Option Value} {mg : Str → Option Value} {mb : Str → Option Value} {dp : Nat} {un : Nat} {gd : Option (List Code)} {cn : Str} {cs : Scope} {a : Addr} {ccd : Value} {cl : List (Str × Addr)} {outer : List Env} {A₀ : Around} {base : Heap} {h₀ : Heap} {L : Addr} {m : Str → Option Value} {news : List (Addr × Obj)} {s : Shared} {Q : Value → Shared → Prop} {E : Value → Shared → Prop} {D : Addr} {dB : Addr} {Bf : Addr} {dT : Addr} {G : Addr} {Cs : Addr} {dM : Addr} {M : Addr} {R : Addr} {Ls : Addr} {dG : Addr} {Lg : Addr} {Rw : Addr} {γ : GT} {vs : List Value} {cells : List Int} {n : Nat} {gs : Int} {ge : Int} {t1 : Tok} {t2 : Tok} {β : BT} {pt : Int} {zv : Int} {ti : Int} {ci : Int} {tp : Tok} {tz : Tok} {tt : Tok} {tc : Tok} (B : Below A₀ base outer h₀) (F : Fr h₀ L s.heap m) (X : (Mine.hd.heap_1 w.params).In h₀) (N : News h₀ L s.heap news) (T : Top p loose mean mg mb h₀) (hk : cs.kind = .function) (hdp : dp ≤ 590) (hun : un ≤ 4900) (mB : (Bf, instObj 361 dB) ∈ news) (mdB : (dB, dictOf (bufD w.params β G M Ls (.int pt tp) (.int zv tz) (.int ti tt) (.int ci tc)) 20) ∈ news) (mG : (G, instObj 150 dT) ∈ news) (mdT : (dT, dictOf (gapD w.params γ Cs (.int gs t1) (.int ge t2)) 4) ∈ news) (mCs : (Cs, listOf vs.toArray n) ∈ news) (adr : AdrOk D dB Bf dT G Cs dM M R Ls dG Lg Rw) (hi : IntsAre vs cells) (ok : GapOk cells gs ge) (hz : cells.length ≤ 900000) (k : ∀ t' h' tk', Fr h₀ L h' m → News h₀ L h' (news) → Q (.int ((gapText cells gs ge).length : Int) t') { s with heap := h', toks := tk' }) : wpAny (model prog w) (ktrTop dp un gd cn cs L a ccd cl outer) (call (.ref 309) [.ref Bf]) Q E s := bsize_specU (hkl dp [un, a, L, D, dB, Bf, dT, G, Cs, dM, M, R, Ls, dG, Lg, Rw, n, t1, t2, tp, tz, tt, tc], hkl gs [ge, pt, zv, ti, ci], hkl ccd [], hkl vs [], hkl cells [], hkl mg [mb, m], hkl prog [p], hkl w [], hkl Q [E], hkl cn [], hkl s [], uO u0, hkl news [], hkl base [h₀], hkl A₀ [], uSt u0, hkl γ [], hkl β [], uLT u0, uMT u0, hkl cs [], hkl gd [], hkl loose [], hkl outer [], hkl mean [], hkl cl [], uB u0, uOA u0, uSm u0, uRs u0, uF u0, uOs u0, uAr u0) B F X N T hk hdp hun mB mdB mG mdT mCs adr hi ok hz k
set_option maxRecDepth 100000 in
set_option maxHeartbeats 8000000 in
theorem bcodes_specU (v : U) : (fun (prog : Program) (w : World) (p : Program) (loose : List Str) (mean : ExcName → Option Value) (mg : Str → Option Value) (mb : Str → Option Value) (dp : Nat) (un : Nat) (gd : Option (List Code)) (cn : Str) (cs : Scope) (a : Addr) (ccd : Value) (cl : List (Str × Addr)) (outer : List Env) (A₀ : Around) (base : Heap) (h₀ : Heap) (L : Addr) (m : Str → Option Value) (news : List (Addr × Obj)) (s : Shared) (Q : Value → Shared → Prop) (E : Value → Shared → Prop) (D : Addr) (dB : Addr) (Bf : Addr) (dT : Addr) (G : Addr) (Cs : Addr) (dM : Addr) (M : Addr) (R : Addr) (Ls : Addr) (dG : Addr) (Lg : Addr) (Rw : Addr) (γ : GT) (vs : List Value) (cells : List Int) (n : Nat) (gs : Int) (ge : Int) (t1 : Tok) (t2 : Tok) (β : BT) (pt : Int) (zv : Int) (ti : Int) (ci : Int) (tp : Tok) (tz : Tok) (tt : Tok) (tc : Tok) (x : Int) (y : Int) (tx : Tok) (ty : Tok) => ∀ (B : Below A₀ base outer h₀) (F : Fr h₀ L s.heap m) (X : (Mine.hd.heap_1 w.params).In h₀) (N : News h₀ L s.heap news) (T : Top p loose mean mg mb h₀) (hk : cs.kind = .function) (hdp : dp ≤ 590) (hun : un ≤ 4900) (mB : (Bf, instObj 361 dB) ∈ news) (mdB : (dB, dictOf (bufD w.params β G M Ls (.int pt tp) (.int zv tz) (.int ti tt) (.int ci tc)) 20) ∈ news) (mG : (G, instObj 150 dT) ∈ news) (mdT : (dT, dictOf (gapD w.params γ Cs (.int gs t1) (.int ge t2)) 4) ∈ news) (mCs : (Cs, listOf vs.toArray n) ∈ news) (adr : AdrOk D dB Bf dT G Cs dM M R Ls dG Lg Rw) (hi : IntsAre vs cells) (ok : GapOk cells gs ge) (hz : cells.length ≤ 900000) (ha0 : 1 ≤ x) (ha1 : x ≤ y) (ha2 : y - 1 + (ge - gs) ≤ cells.length) (k : ∀ q (ws : List Value) n' h' tk', Fr h₀ L h' m → News h₀ L h' ((q, listOf ws.toArray n') :: news) → AllLt q news → IntsAre ws (((gapText cells gs ge).drop (x - 1).toNat).take (y - x).toNat) → Q (.ref q) { s with heap := h', toks := tk' }), wpAny (model prog w) (ktrTop dp un gd cn cs L a ccd cl outer) (call (.ref 323) [.ref Bf, .int x tx, .int y ty]) Q E s) (uPr v 0) (uW v 0) (uPr v 1) (uSs v 0) (uX v 0) (uM v 0) (uM v 1) (uN v 0) (uN v 1) (uCs v 0) (uS v 0) (uSc v 0) (uN v 2) (uV v 0) (uCl v 0) (uEs v 0) (uA v 0) (uH v 0) (uH v 1) (uN v 3) (uM v 2) (uL v 0) (uSh v 0) (uQ v 0) (uQ v 1) (uN v 4) (uN v 5) (uN v 6) (uN v 7) (uN v 8) (uN v 9) (uN v 10) (uN v 11) (uN v 12) (uN v 13) (uN v 14) (uN v 15) (uN v 16) (uGT v 0) (uVs v 0) (uIs v 0) (uN v 17) (uI v 0) (uI v 1) (uN v 18) (uN v 19) (uBT v 0) (uI v 2) (uI v 3) (uI v 4) (uI v 5) (uN v 20) (uN v 21) (uN v 22) (uN v 23) (uI v 6) (uI v 7) (uN v 24) (uN v 25) := by
  revert v
  refine hkU ?_
  generalize ep _ _ = eU
  generalize uPr eU 0 = prog, uW eU 0 = w, uPr eU 1 = p, uSs eU 0 = loose, uX eU 0 = mean, uM eU 0 = mg, uM eU 1 = mb, uN eU 0 = dp, uN eU 1 = un, uCs eU 0 = gd, uS eU 0 = cn, uSc eU 0 = cs, uN eU 2 = a, uV eU 0 = ccd, uCl eU 0 = cl, uEs eU 0 = outer, uA eU 0 = A₀, uH eU 0 = base, uH eU 1 = h₀, uN eU 3 = L, uM eU 2 = m, uL eU 0 = news, uSh eU 0 = s, uQ eU 0 = Q, uQ eU 1 = E, uN eU 4 = D, uN eU 5 = dB, uN eU 6 = Bf, uN eU 7 = dT, uN eU 8 = G, uN eU 9 = Cs, uN eU 10 = dM, uN eU 11 = M, uN eU 12 = R, uN eU 13 = Ls, uN eU 14 = dG, uN eU 15 = Lg, uN eU 16 = Rw, uGT eU 0 = γ, uVs eU 0 = vs, uIs eU 0 = cells, uN eU 17 = n, uI eU 0 = gs, uI eU 1 = ge, uN eU 18 = t1, uN eU 19 = t2, uBT eU 0 = β, uI eU 2 = pt, uI eU 3 = zv, uI eU 4 = ti, uI eU 5 = ci, uN eU 20 = tp, uN eU 21 = tz, uN eU 22 = tt, uN eU 23 = tc, uI eU 6 = x, uI eU 7 = y, uN eU 24 = tx, uN eU 25 = ty
  clear eU
  refine fun B F X N T hk hdp hun mB mdB mG mdT mCs adr hi ok hz ha0 ha1 ha2 k => ?_
  have N1 : News h₀ L s.heap ((Bf, instObj 361 dB) :: (dB, dictOf (bufD w.params β G M Ls (.int pt tp) (.int zv tz) (.int ti tt) (.int ci tc)) 20) :: (G, instObj 150 dT) :: (dT, dictOf (gapD w.params γ Cs (.int gs t1) (.int ge t2)) 4) :: (Cs, listOf vs.toArray n) :: news) := by
    refine news_cons ?_ N mB
    refine news_cons ?_ N mdB
    refine news_cons ?_ N mG
    refine news_cons ?_ N mdT
    refine news_cons ?_ N mCs
    exact N
  have k' := k
  clear N k mB mdB mG mdT mCs
  refine wpAny_call ?_
  k_dflt ktr_enter
  have ok' := ok
  have adr' := adr
  obtain ⟨ok0, ok1, ok2⟩ := ok'
  obtain ⟨ad0, ad1, ad2, ad3, ad4, ad5, ad6, ad7, ad8, ad9, ad10, ad11⟩ := adr'
  obtain ⟨al0, al1, al2, al3, al4, al5, al6, al7, al8, al9, al10, al11⟩ := adr_lts adr
  (repeat' (first | (with_reducible (((with_reducible show wpAny _ _ (pyIter (Value.ref _)) (fun it s₂ => LoopAtV _ _ _ _ _ _ _ _ _ it s₂) _ _); (rename Fr _ _ _ _ => lF'); (rename News _ _ _ _ => lN'); (with_unfolding_all refine' iter_listUnr (by rfl) lF' lN' (by k_mem) (by exact rfl) (by exact rfl) ?_); clear lF'; intro i' l1; (try k_lt l1)))) | (with_reducible (((with_reducible show wpAny _ _ (call (Value.builtin "sorted") [Value.ref _]) _ _ _); k_dflt (refine' sorted_nil rfl (by k_asm) (by k_asm) (by k_mem) (by assumption) (by assumption) (by exact .nil) ?_); intro B' h' tk' F' N' l1; (try k_lt l1); (try k_sweep)))) | (k_unfold; (try dsimp only)) | (k_end; kc_close) | walk1 | (dsimp only; walk1) | (leave1; walk_say "STEP leave1"; (try dsimp only)) | fail "no step"))
  have e : (y - 1 - (x - 1)).toNat = (y - x).toNat := by omega
  rename IntsAre _ _ => hw
  rw [e] at hw
  exact k' _ _ _ _ _ (by assumption) (by ktr_rel) (by tb_start) hw
theorem bcodes_spec {prog : Program} {w : World} {p : Program} {loose : List Str} {mean : ExcName → Option Value} {mg : Str → Option Value} {mb : Str → Option Value} {dp : Nat} {un : Nat} {gd : Option (List Code)} {cn : Str} {cs : Scope} {a : Addr} {ccd : Value} {cl : List (Str × Addr)} {outer : List Env} {A₀ : Around} {base : Heap} {h₀ : Heap} {L : Addr} {m : Str → Option Value} {news : List (Addr × Obj)} {s : Shared} {Q : Value → Shared → Prop} {E : Value → Shared → Prop} {D : Addr} {dB : Addr} {Bf : Addr} {dT : Addr} {G : Addr} {Cs : Addr} {dM : Addr} {M : Addr} {R : Addr} {Ls : Addr} {dG : Addr} {Lg : Addr} {Rw : Addr} {γ : GT} {vs : List Value} {cells : List Int} {n : Nat} {gs : Int} {ge : Int} {t1 : Tok} {t2 : Tok} {β : BT} {pt : Int} {zv : Int} {ti : Int} {ci : Int} {tp : Tok} {tz : Tok} {tt : Tok} {tc : Tok} {x : Int} {y : Int} {tx : Tok} {ty : Tok} (B : Below A₀ base outer h₀) (F : Fr h₀ L s.heap m) (X : (Mine.hd.heap_1 w.params).In h₀) (N : News h₀ L s.heap news) (T : Top p loose mean mg mb h₀) (hk : cs.kind = .function) (hdp : dp ≤ 590) (hun : un ≤ 4900) (mB : (Bf, instObj 361 dB) ∈ news) (mdB : (dB, dictOf (bufD w.params β G M Ls (.int pt tp) (.int zv tz) (.int ti tt) (.int ci tc)) 20) ∈ news) (mG : (G, instObj 150 dT) ∈ news) (mdT : (dT, dictOf (gapD w.params γ Cs (.int gs t1) (.int ge t2)) 4) ∈ news) (mCs : (Cs, listOf vs.toArray n) ∈ news) (adr : AdrOk D dB Bf dT G Cs dM M R Ls dG Lg Rw) (hi : IntsAre vs cells) (ok : GapOk cells gs ge) (hz : cells.length ≤ 900000) (ha0 : 1 ≤ x) (ha1 : x ≤ y) (ha2 : y - 1 + (ge - gs) ≤ cells.length) (k : ∀ q (ws : List Value) n' h' tk', Fr h₀ L h' m → News h₀ L h' ((q, listOf ws.toArray n') :: news) → AllLt q news → IntsAre ws (((gapText cells gs ge).drop (x - 1).toNat).take (y - x).toNat) → Q (.ref q) { s with heap := h', toks := tk' }) : wpAny (model prog w) (ktrTop dp un gd cn cs L a ccd cl outer) (call (.ref 323) [.ref Bf, .int x tx, .int y ty]) Q E s := bcodes_specU (hkl dp [un, a, L, D, dB, Bf, dT, G, Cs, dM, M, R, Ls, dG, Lg, Rw, n, t1, t2, tp, tz, tt, tc, tx, ty], hkl gs [ge, pt, zv, ti, ci, x, y], hkl ccd [], hkl vs [], hkl cells [], hkl mg [mb, m], hkl prog [p], hkl w [], hkl Q [E], hkl cn [], hkl s [], uO u0, hkl news [], hkl base [h₀], hkl A₀ [], uSt u0, hkl γ [], hkl β [], uLT u0, uMT u0, hkl cs [], hkl gd [], hkl loose [], hkl outer [], hkl mean [], hkl cl [], uB u0, uOA u0, uSm u0, uRs u0, uF u0, uOs u0, uAr u0) B F X N T hk hdp hun mB mdB mG mdT mCs adr hi ok hz ha0 ha1 ha2 k
set_option maxRecDepth 100000 in
set_option maxHeartbeats 8000000 in
theorem text_out_specU (v : U) : (fun (prog : Program) (w : World) (p : Program) (loose : List Str) (mean : ExcName → Option Value) (mg : Str → Option Value) (mb : Str → Option Value) (dp : Nat) (un : Nat) (gd : Option (List Code)) (cn : Str) (cs : Scope) (a : Addr) (ccd : Value) (cl : List (Str × Addr)) (outer : List Env) (A₀ : Around) (base : Heap) (h₀ : Heap) (L : Addr) (m : Str → Option Value) (news : List (Addr × Obj)) (s : Shared) (Q : Value → Shared → Prop) (E : Value → Shared → Prop) (D : Addr) (dB : Addr) (Bf : Addr) (dT : Addr) (G : Addr) (Cs : Addr) (dM : Addr) (M : Addr) (R : Addr) (Ls : Addr) (dG : Addr) (Lg : Addr) (Rw : Addr) (γ : GT) (vs : List Value) (cells : List Int) (n : Nat) (gs : Int) (ge : Int) (t1 : Tok) (t2 : Tok) (β : BT) (pt : Int) (zv : Int) (ti : Int) (ci : Int) (tp : Tok) (tz : Tok) (tt : Tok) (tc : Tok) (x : Int) (y : Int) (tx : Tok) (ty : Tok) => ∀ (B : Below A₀ base outer h₀) (F : Fr h₀ L s.heap m) (X : (Mine.hd.heap_1 w.params).In h₀) (N : News h₀ L s.heap news) (T : Top p loose mean mg mb h₀) (hk : cs.kind = .function) (hdp : dp ≤ 580) (hun : un ≤ 4800) (mB : (Bf, instObj 361 dB) ∈ news) (mG : (G, instObj 150 dT) ∈ news) (mdB : (dB, dictOf (bufD w.params β G M Ls (.int pt tp) (.int zv tz) (.int ti tt) (.int ci tc)) 20) ∈ news) (mdT : (dT, dictOf (gapD w.params γ Cs (.int gs t1) (.int ge t2)) 4) ∈ news) (mCs : (Cs, listOf vs.toArray n) ∈ news) (adr : AdrOk D dB Bf dT G Cs dM M R Ls dG Lg Rw) (hi : IntsAre vs cells) (ok : GapOk cells gs ge) (hz : cells.length ≤ 800000) (ha0 : 1 ≤ x) (ha1 : x ≤ y) (ha2 : y - 1 + (ge - gs) ≤ cells.length) (k : ∀ q (ws : List Value) n2' pt' tp' tz' t1' t2' ge' (vs' : List Value) (cells' : List Int) n' h' tk', Fr h₀ L h' m → NewsAll h₀ L h' [(dB, dictOf (bufD w.params β G M Ls (.int pt tp) (.int zv tz) (.int ti tt) (.int ci tc)) 20, dictOf (bufD w.params β G M Ls (.int pt' tp') (.int (zv - (y - x)) tz') (.int ti tt) (.int ci tc)) 20), (dT, dictOf (gapD w.params γ Cs (.int gs t1) (.int ge t2)) 4, dictOf (gapD w.params γ Cs (.int (x - 1) t1') (.int ge' t2')) 4), (Cs, listOf vs.toArray n, listOf vs'.toArray n')] news [(q, listOf ws.toArray n2')] → AllLt q news → IntsAre vs' cells' → GapOk cells' (x - 1) ge' → gapText cells' (x - 1) ge' = (gapText cells gs ge).take (x - 1).toNat ++ (gapText cells gs ge).drop (y - 1).toNat → cells'.length = cells.length → (cells'.length : Int) - (ge' - (x - 1)) = cells.length - (ge - gs) - (y - x) → Q (.ref q) { s with heap := h', toks := tk' }), wpAny (model prog w) (ktrTop dp un gd cn cs L a ccd cl outer) (call (.ref 418) [.ref Bf, .int x tx, .int y ty]) Q E s) (uPr v 0) (uW v 0) (uPr v 1) (uSs v 0) (uX v 0) (uM v 0) (uM v 1) (uN v 0) (uN v 1) (uCs v 0) (uS v 0) (uSc v 0) (uN v 2) (uV v 0) (uCl v 0) (uEs v 0) (uA v 0) (uH v 0) (uH v 1) (uN v 3) (uM v 2) (uL v 0) (uSh v 0) (uQ v 0) (uQ v 1) (uN v 4) (uN v 5) (uN v 6) (uN v 7) (uN v 8) (uN v 9) (uN v 10) (uN v 11) (uN v 12) (uN v 13) (uN v 14) (uN v 15) (uN v 16) (uGT v 0) (uVs v 0) (uIs v 0) (uN v 17) (uI v 0) (uI v 1) (uN v 18) (uN v 19) (uBT v 0) (uI v 2) (uI v 3) (uI v 4) (uI v 5) (uN v 20) (uN v 21) (uN v 22) (uN v 23) (uI v 6) (uI v 7) (uN v 24) (uN v 25) := by
  revert v
  refine hkU ?_
  generalize ep _ _ = eU
  generalize uPr eU 0 = prog, uW eU 0 = w, uPr eU 1 = p, uSs eU 0 = loose, uX eU 0 = mean, uM eU 0 = mg, uM eU 1 = mb, uN eU 0 = dp, uN eU 1 = un, uCs eU 0 = gd, uS eU 0 = cn, uSc eU 0 = cs, uN eU 2 = a, uV eU 0 = ccd, uCl eU 0 = cl, uEs eU 0 = outer, uA eU 0 = A₀, uH eU 0 = base, uH eU 1 = h₀, uN eU 3 = L, uM eU 2 = m, uL eU 0 = news, uSh eU 0 = s, uQ eU 0 = Q, uQ eU 1 = E, uN eU 4 = D, uN eU 5 = dB, uN eU 6 = Bf, uN eU 7 = dT, uN eU 8 = G, uN eU 9 = Cs, uN eU 10 = dM, uN eU 11 = M, uN eU 12 = R, uN eU 13 = Ls, uN eU 14 = dG, uN eU 15 = Lg, uN eU 16 = Rw, uGT eU 0 = γ, uVs eU 0 = vs, uIs eU 0 = cells, uN eU 17 = n, uI eU 0 = gs, uI eU 1 = ge, uN eU 18 = t1, uN eU 19 = t2, uBT eU 0 = β, uI eU 2 = pt, uI eU 3 = zv, uI eU 4 = ti, uI eU 5 = ci, uN eU 20 = tp, uN eU 21 = tz, uN eU 22 = tt, uN eU 23 = tc, uI eU 6 = x, uI eU 7 = y, uN eU 24 = tx, uN eU 25 = ty
  clear eU
  refine fun B F X N T hk hdp hun mB mG mdB mdT mCs adr hi ok hz ha0 ha1 ha2 k => ?_
  have N1 : News h₀ L s.heap ((Bf, instObj 361 dB) :: (G, instObj 150 dT) :: (dB, dictOf (bufD w.params β G M Ls (.int pt tp) (.int zv tz) (.int ti tt) (.int ci tc)) 20) :: (dT, dictOf (gapD w.params γ Cs (.int gs t1) (.int ge t2)) 4) :: (Cs, listOf vs.toArray n) :: (restOf [dB, dT, Cs] news)) := by
    refine news_cons ?_ N mB
    refine news_cons ?_ N mG
    refine news_cons ?_ N mdB
    refine news_cons ?_ N mdT
    refine news_cons ?_ N mCs
    exact news_sub N restOf_in
  have off_dB : Off dB ((restOf [dB, dT, Cs] news)) := restOf_off (by simp)
  have off_dT : Off dT ((restOf [dB, dT, Cs] news)) := restOf_off (by simp)
  have off_Cs : Off Cs ((restOf [dB, dT, Cs] news)) := restOf_off (by simp)
  have k' : ∀ q (ws : List Value) n2' pt' tp' tz' t1' t2' ge' (vs' : List Value) (cells' : List Int) n' h' tk', Fr h₀ L h' m → News h₀ L h' ((q, listOf ws.toArray n2') :: (dB, dictOf (bufD w.params β G M Ls (.int pt' tp') (.int (zv - (y - x)) tz') (.int ti tt) (.int ci tc)) 20) :: (dT, dictOf (gapD w.params γ Cs (.int (x - 1) t1') (.int ge' t2')) 4) :: (Cs, listOf vs'.toArray n') :: (restOf [dB, dT, Cs] news)) → @LT.lt Nat _ dB q → @LT.lt Nat _ dT q → @LT.lt Nat _ Cs q → AllLt q ((restOf [dB, dT, Cs] news)) → IntsAre vs' cells' → GapOk cells' (x - 1) ge' → gapText cells' (x - 1) ge' = (gapText cells gs ge).take (x - 1).toNat ++ (gapText cells gs ge).drop (y - 1).toNat → cells'.length = cells.length → (cells'.length : Int) - (ge' - (x - 1)) = cells.length - (ge - gs) - (y - x) → Q (.ref q) { s with heap := h', toks := tk' } := by
    intro q ws n2' pt' tp' tz' t1' t2' ge' vs' cells' n' h' tk' F' N' l0_0 l0_1 l0_2 lr0 f0 f1 f2 f3 f4
    exact k _ _ _ _ _ _ _ _ _ _ _ _ _ _ F' (fun news' U => news_back (fresh := [(q, listOf ws.toArray n2')]) U N') (lt_back (foot := [dB, dT, Cs]) (fun b hb => by simp only [List.mem_cons, List.not_mem_nil, or_false] at hb; rcases hb with rfl | rfl | rfl <;> assumption) lr0) f0 f1 f2 f3 f4
  generalize (restOf [dB, dT, Cs] news) = rest at *
  clear N k mB mG mdB mdT mCs
  refine wpAny_call ?_
  k_dflt ktr_enter
  have ok' := ok
  have adr' := adr
  obtain ⟨ok0, ok1, ok2⟩ := ok'
  obtain ⟨ad0, ad1, ad2, ad3, ad4, ad5, ad6, ad7, ad8, ad9, ad10, ad11⟩ := adr'
  obtain ⟨al0, al1, al2, al3, al4, al5, al6, al7, al8, al9, al10, al11⟩ := adr_lts adr
  (repeat' (first | (with_reducible (((with_reducible show wpAny _ _ (pyIter (Value.ref _)) (fun it s₂ => LoopAtV _ _ _ _ _ _ _ _ _ it s₂) _ _); (rename Fr _ _ _ _ => lF'); (rename News _ _ _ _ => lN'); (with_unfolding_all refine' iter_listUnr (by rfl) lF' lN' (by k_mem) (by exact rfl) (by exact rfl) ?_); clear lF'; intro i' l1; (try k_lt l1)))) | (with_reducible (((with_reducible show wpAny _ _ (call (Value.builtin "sorted") [Value.ref _]) _ _ _); k_dflt (refine' sorted_nil rfl (by k_asm) (by k_asm) (by k_mem) (by assumption) (by assumption) (by exact .nil) ?_); intro B' h' tk' F' N' l1; (try k_lt l1); (try k_sweep)))) | (k_unfold; (try dsimp only)) | (k_end; kc_close) | walk1 | (dsimp only; walk1) | (leave1; walk_say "STEP leave1"; (try dsimp only)) | fail "no step"))
  all_goals exact k' _ _ _ _ _ _ _ _ _ _ _ _ _ _ (by assumption) (by ktr_rel) (by tb_start) (by tb_start) (by tb_start) (by tb_start) (by assumption) (by assumption) (by assumption) (by assumption) (by omega)
theorem text_out_spec {prog : Program} {w : World} {p : Program} {loose : List Str} {mean : ExcName → Option Value} {mg : Str → Option Value} {mb : Str → Option Value} {dp : Nat} {un : Nat} {gd : Option (List Code)} {cn : Str} {cs : Scope} {a : Addr} {ccd : Value} {cl : List (Str × Addr)} {outer : List Env} {A₀ : Around} {base : Heap} {h₀ : Heap} {L : Addr} {m : Str → Option Value} {news : List (Addr × Obj)} {s : Shared} {Q : Value → Shared → Prop} {E : Value → Shared → Prop} {D : Addr} {dB : Addr} {Bf : Addr} {dT : Addr} {G : Addr} {Cs : Addr} {dM : Addr} {M : Addr} {R : Addr} {Ls : Addr} {dG : Addr} {Lg : Addr} {Rw : Addr} {γ : GT} {vs : List Value} {cells : List Int} {n : Nat} {gs : Int} {ge : Int} {t1 : Tok} {t2 : Tok} {β : BT} {pt : Int} {zv : Int} {ti : Int} {ci : Int} {tp : Tok} {tz : Tok} {tt : Tok} {tc : Tok} {x : Int} {y : Int} {tx : Tok} {ty : Tok} (B : Below A₀ base outer h₀) (F : Fr h₀ L s.heap m) (X : (Mine.hd.heap_1 w.params).In h₀) (N : News h₀ L s.heap news) (T : Top p loose mean mg mb h₀) (hk : cs.kind = .function) (hdp : dp ≤ 580) (hun : un ≤ 4800) (mB : (Bf, instObj 361 dB) ∈ news) (mG : (G, instObj 150 dT) ∈ news) (mdB : (dB, dictOf (bufD w.params β G M Ls (.int pt tp) (.int zv tz) (.int ti tt) (.int ci tc)) 20) ∈ news) (mdT : (dT, dictOf (gapD w.params γ Cs (.int gs t1) (.int ge t2)) 4) ∈ news) (mCs : (Cs, listOf vs.toArray n) ∈ news) (adr : AdrOk D dB Bf dT G Cs dM M R Ls dG Lg Rw) (hi : IntsAre vs cells) (ok : GapOk cells gs ge) (hz : cells.length ≤ 800000) (ha0 : 1 ≤ x) (ha1 : x ≤ y) (ha2 : y - 1 + (ge - gs) ≤ cells.length) (k : ∀ q (ws : List Value) n2' pt' tp' tz' t1' t2' ge' (vs' : List Value) (cells' : List Int) n' h' tk', Fr h₀ L h' m → NewsAll h₀ L h' [(dB, dictOf (bufD w.params β G M Ls (.int pt tp) (.int zv tz) (.int ti tt) (.int ci tc)) 20, dictOf (bufD w.params β G M Ls (.int pt' tp') (.int (zv - (y - x)) tz') (.int ti tt) (.int ci tc)) 20), (dT, dictOf (gapD w.params γ Cs (.int gs t1) (.int ge t2)) 4, dictOf (gapD w.params γ Cs (.int (x - 1) t1') (.int ge' t2')) 4), (Cs, listOf vs.toArray n, listOf vs'.toArray n')] news [(q, listOf ws.toArray n2')] → AllLt q news → IntsAre vs' cells' → GapOk cells' (x - 1) ge' → gapText cells' (x - 1) ge' = (gapText cells gs ge).take (x - 1).toNat ++ (gapText cells gs ge).drop (y - 1).toNat → cells'.length = cells.length → (cells'.length : Int) - (ge' - (x - 1)) = cells.length - (ge - gs) - (y - x) → Q (.ref q) { s with heap := h', toks := tk' }) : wpAny (model prog w) (ktrTop dp un gd cn cs L a ccd cl outer) (call (.ref 418) [.ref Bf, .int x tx, .int y ty]) Q E s := text_out_specU (hkl dp [un, a, L, D, dB, Bf, dT, G, Cs, dM, M, R, Ls, dG, Lg, Rw, n, t1, t2, tp, tz, tt, tc, tx, ty], hkl gs [ge, pt, zv, ti, ci, x, y], hkl ccd [], hkl vs [], hkl cells [], hkl mg [mb, m], hkl prog [p], hkl w [], hkl Q [E], hkl cn [], hkl s [], uO u0, hkl news [], hkl base [h₀], hkl A₀ [], uSt u0, hkl γ [], hkl β [], uLT u0, uMT u0, hkl cs [], hkl gd [], hkl loose [], hkl outer [], hkl mean [], hkl cl [], uB u0, uOA u0, uSm u0, uRs u0, uF u0, uOs u0, uAr u0) B F X N T hk hdp hun mB mG mdB mdT mCs adr hi ok hz ha0 ha1 ha2 k
set_option maxRecDepth 100000 in
set_option maxHeartbeats 8000000 in
theorem text_in_specU (v : U) : (fun (prog : Program) (w : World) (p : Program) (loose : List Str) (mean : ExcName → Option Value) (mg : Str → Option Value) (mb : Str → Option Value) (dp : Nat) (un : Nat) (gd : Option (List Code)) (cn : Str) (cs : Scope) (a : Addr) (ccd : Value) (cl : List (Str × Addr)) (outer : List Env) (A₀ : Around) (base : Heap) (h₀ : Heap) (L : Addr) (m : Str → Option Value) (news : List (Addr × Obj)) (s : Shared) (Q : Value → Shared → Prop) (E : Value → Shared → Prop) (D : Addr) (dB : Addr) (Bf : Addr) (dT : Addr) (G : Addr) (Cs : Addr) (dM : Addr) (M : Addr) (R : Addr) (Ls : Addr) (dG : Addr) (Lg : Addr) (Rw : Addr) (γ : GT) (vs : List Value) (cells : List Int) (n : Nat) (gs : Int) (ge : Int) (t1 : Tok) (t2 : Tok) (β : BT) (pt : Int) (zv : Int) (ti : Int) (ci : Int) (tp : Tok) (tz : Tok) (tt : Tok) (tc : Tok) (Lc : Addr) (us : List Value) (ms : List Int) (nl : Nat) (x : Int) (tx : Tok) => ∀ (B : Below A₀ base outer h₀) (F : Fr h₀ L s.heap m) (X : (Mine.hd.heap_1 w.params).In h₀) (N : News h₀ L s.heap news) (T : Top p loose mean mg mb h₀) (hk : cs.kind = .function) (hdp : dp ≤ 580) (hun : un ≤ 4800) (mB : (Bf, instObj 361 dB) ∈ news) (mG : (G, instObj 150 dT) ∈ news) (mLc : (Lc, listOf us.toArray nl) ∈ news) (mdB : (dB, dictOf (bufD w.params β G M Ls (.int pt tp) (.int zv tz) (.int ti tt) (.int ci tc)) 20) ∈ news) (mdT : (dT, dictOf (gapD w.params γ Cs (.int gs t1) (.int ge t2)) 4) ∈ news) (mCs : (Cs, listOf vs.toArray n) ∈ news) (ne_dB_Lc : @Ne Nat dB Lc) (ne_dT_Lc : @Ne Nat dT Lc) (ne_Cs_Lc : @Ne Nat Cs Lc) (adr : AdrOk D dB Bf dT G Cs dM M R Ls dG Lg Rw) (hi : IntsAre vs cells) (ok : GapOk cells gs ge) (hi2 : IntsAre us ms) (hz : cells.length ≤ 700000) (hz2 : ms.length ≤ 1000) (ha0 : 1 ≤ x) (ha1 : x - 1 + (ge - gs) ≤ cells.length) (k : ∀ pt' tp' tz' t1' t2' gs' ge' (vs' : List Value) (cells' : List Int) n' h' tk', Fr h₀ L h' m → NewsAll h₀ L h' [(dB, dictOf (bufD w.params β G M Ls (.int pt tp) (.int zv tz) (.int ti tt) (.int ci tc)) 20, dictOf (bufD w.params β G M Ls (.int pt' tp') (.int (zv + (ms.length : Int)) tz') (.int ti tt) (.int ci tc)) 20), (dT, dictOf (gapD w.params γ Cs (.int gs t1) (.int ge t2)) 4, dictOf (gapD w.params γ Cs (.int gs' t1') (.int ge' t2')) 4), (Cs, listOf vs.toArray n, listOf vs'.toArray n')] news [] → IntsAre vs' cells' → GapOk cells' gs' ge' → gapText cells' gs' ge' = (gapText cells gs ge).take (x - 1).toNat ++ ms ++ (gapText cells gs ge).drop (x - 1).toNat → (cells'.length : Int) ≤ cells.length + ms.length + 8 → (cells'.length : Int) - (ge' - gs') = cells.length - (ge - gs) + ms.length → Q (.none) { s with heap := h', toks := tk' }), wpAny (model prog w) (ktrTop dp un gd cn cs L a ccd cl outer) (call (.ref 425) [.ref Bf, .int x tx, .ref Lc]) Q E s) (uPr v 0) (uW v 0) (uPr v 1) (uSs v 0) (uX v 0) (uM v 0) (uM v 1) (uN v 0) (uN v 1) (uCs v 0) (uS v 0) (uSc v 0) (uN v 2) (uV v 0) (uCl v 0) (uEs v 0) (uA v 0) (uH v 0) (uH v 1) (uN v 3) (uM v 2) (uL v 0) (uSh v 0) (uQ v 0) (uQ v 1) (uN v 4) (uN v 5) (uN v 6) (uN v 7) (uN v 8) (uN v 9) (uN v 10) (uN v 11) (uN v 12) (uN v 13) (uN v 14) (uN v 15) (uN v 16) (uGT v 0) (uVs v 0) (uIs v 0) (uN v 17) (uI v 0) (uI v 1) (uN v 18) (uN v 19) (uBT v 0) (uI v 2) (uI v 3) (uI v 4) (uI v 5) (uN v 20) (uN v 21) (uN v 22) (uN v 23) (uN v 24) (uVs v 1) (uIs v 1) (uN v 25) (uI v 6) (uN v 26) := by
  revert v
  refine hkU ?_
  generalize ep _ _ = eU
  generalize uPr eU 0 = prog, uW eU 0 = w, uPr eU 1 = p, uSs eU 0 = loose, uX eU 0 = mean, uM eU 0 = mg, uM eU 1 = mb, uN eU 0 = dp, uN eU 1 = un, uCs eU 0 = gd, uS eU 0 = cn, uSc eU 0 = cs, uN eU 2 = a, uV eU 0 = ccd, uCl eU 0 = cl, uEs eU 0 = outer, uA eU 0 = A₀, uH eU 0 = base, uH eU 1 = h₀, uN eU 3 = L, uM eU 2 = m, uL eU 0 = news, uSh eU 0 = s, uQ eU 0 = Q, uQ eU 1 = E, uN eU 4 = D, uN eU 5 = dB, uN eU 6 = Bf, uN eU 7 = dT, uN eU 8 = G, uN eU 9 = Cs, uN eU 10 = dM, uN eU 11 = M, uN eU 12 = R, uN eU 13 = Ls, uN eU 14 = dG, uN eU 15 = Lg, uN eU 16 = Rw, uGT eU 0 = γ, uVs eU 0 = vs, uIs eU 0 = cells, uN eU 17 = n, uI eU 0 = gs, uI eU 1 = ge, uN eU 18 = t1, uN eU 19 = t2, uBT eU 0 = β, uI eU 2 = pt, uI eU 3 = zv, uI eU 4 = ti, uI eU 5 = ci, uN eU 20 = tp, uN eU 21 = tz, uN eU 22 = tt, uN eU 23 = tc, uN eU 24 = Lc, uVs eU 1 = us, uIs eU 1 = ms, uN eU 25 = nl, uI eU 6 = x, uN eU 26 = tx
  clear eU
  refine fun B F X N T hk hdp hun mB mG mLc mdB mdT mCs ne_dB_Lc ne_dT_Lc ne_Cs_Lc adr hi ok hi2 hz hz2 ha0 ha1 k => ?_
  have N1 : News h₀ L s.heap ((Bf, instObj 361 dB) :: (G, instObj 150 dT) :: (Lc, listOf us.toArray nl) :: (dB, dictOf (bufD w.params β G M Ls (.int pt tp) (.int zv tz) (.int ti tt) (.int ci tc)) 20) :: (dT, dictOf (gapD w.params γ Cs (.int gs t1) (.int ge t2)) 4) :: (Cs, listOf vs.toArray n) :: (restOf [dB, dT, Cs] news)) := by
    refine news_cons ?_ N mB
    refine news_cons ?_ N mG
    refine news_cons ?_ N mLc
    refine news_cons ?_ N mdB
    refine news_cons ?_ N mdT
    refine news_cons ?_ N mCs
    exact news_sub N restOf_in
  have off_dB : Off dB ((restOf [dB, dT, Cs] news)) := restOf_off (by simp)
  have off_dT : Off dT ((restOf [dB, dT, Cs] news)) := restOf_off (by simp)
  have off_Cs : Off Cs ((restOf [dB, dT, Cs] news)) := restOf_off (by simp)
  have k' : ∀ pt' tp' tz' t1' t2' gs' ge' (vs' : List Value) (cells' : List Int) n' h' tk', Fr h₀ L h' m → News h₀ L h' ((dB, dictOf (bufD w.params β G M Ls (.int pt' tp') (.int (zv + (ms.length : Int)) tz') (.int ti tt) (.int ci tc)) 20) :: (dT, dictOf (gapD w.params γ Cs (.int gs' t1') (.int ge' t2')) 4) :: (Cs, listOf vs'.toArray n') :: (restOf [dB, dT, Cs] news)) → IntsAre vs' cells' → GapOk cells' gs' ge' → gapText cells' gs' ge' = (gapText cells gs ge).take (x - 1).toNat ++ ms ++ (gapText cells gs ge).drop (x - 1).toNat → (cells'.length : Int) ≤ cells.length + ms.length + 8 → (cells'.length : Int) - (ge' - gs') = cells.length - (ge - gs) + ms.length → Q (.none) { s with heap := h', toks := tk' } := by
    intro pt' tp' tz' t1' t2' gs' ge' vs' cells' n' h' tk' F' N'  f0 f1 f2 f3 f4
    exact k _ _ _ _ _ _ _ _ _ _ _ _ F' (fun news' U => news_back (fresh := []) U N')  f0 f1 f2 f3 f4
  generalize (restOf [dB, dT, Cs] news) = rest at *
  clear N k mB mG mLc mdB mdT mCs
  refine wpAny_call ?_
  k_dflt ktr_enter
  have ok' := ok
  have adr' := adr
  obtain ⟨ok0, ok1, ok2⟩ := ok'
  obtain ⟨ad0, ad1, ad2, ad3, ad4, ad5, ad6, ad7, ad8, ad9, ad10, ad11⟩ := adr'
  obtain ⟨al0, al1, al2, al3, al4, al5, al6, al7, al8, al9, al10, al11⟩ := adr_lts adr
  (repeat' (first | (with_reducible (((with_reducible show wpAny _ _ (pyIter (Value.ref _)) (fun it s₂ => LoopAtV _ _ _ _ _ _ _ _ _ it s₂) _ _); (rename Fr _ _ _ _ => lF'); (rename News _ _ _ _ => lN'); (with_unfolding_all refine' iter_listUnr (by rfl) lF' lN' (by k_mem) (by exact rfl) (by exact rfl) ?_); clear lF'; intro i' l1; (try k_lt l1)))) | (with_reducible (((with_reducible show wpAny _ _ (call (Value.builtin "sorted") [Value.ref _]) _ _ _); k_dflt (refine' sorted_nil rfl (by k_asm) (by k_asm) (by k_mem) (by assumption) (by assumption) (by exact .nil) ?_); intro B' h' tk' F' N' l1; (try k_lt l1); (try k_sweep)))) | (k_unfold; (try dsimp only)) | (k_end; kc_close) | walk1 | (dsimp only; walk1) | (leave1; walk_say "STEP leave1"; (try dsimp only)) | fail "no step"))
  all_goals exact k' _ _ _ _ _ _ _ _ _ _ _ _ (by assumption) (by ktr_rel) (by assumption) (by assumption) (by assumption) (by assumption) (by assumption)
theorem text_in_spec {prog : Program} {w : World} {p : Program} {loose : List Str} {mean : ExcName → Option Value} {mg : Str → Option Value} {mb : Str → Option Value} {dp : Nat} {un : Nat} {gd : Option (List Code)} {cn : Str} {cs : Scope} {a : Addr} {ccd : Value} {cl : List (Str × Addr)} {outer : List Env} {A₀ : Around} {base : Heap} {h₀ : Heap} {L : Addr} {m : Str → Option Value} {news : List (Addr × Obj)} {s : Shared} {Q : Value → Shared → Prop} {E : Value → Shared → Prop} {D : Addr} {dB : Addr} {Bf : Addr} {dT : Addr} {G : Addr} {Cs : Addr} {dM : Addr} {M : Addr} {R : Addr} {Ls : Addr} {dG : Addr} {Lg : Addr} {Rw : Addr} {γ : GT} {vs : List Value} {cells : List Int} {n : Nat} {gs : Int} {ge : Int} {t1 : Tok} {t2 : Tok} {β : BT} {pt : Int} {zv : Int} {ti : Int} {ci : Int} {tp : Tok} {tz : Tok} {tt : Tok} {tc : Tok} {Lc : Addr} {us : List Value} {ms : List Int} {nl : Nat} {x : Int} {tx : Tok} (B : Below A₀ base outer h₀) (F : Fr h₀ L s.heap m) (X : (Mine.hd.heap_1 w.params).In h₀) (N : News h₀ L s.heap news) (T : Top p loose mean mg mb h₀) (hk : cs.kind = .function) (hdp : dp ≤ 580) (hun : un ≤ 4800) (mB : (Bf, instObj 361 dB) ∈ news) (mG : (G, instObj 150 dT) ∈ news) (mLc : (Lc, listOf us.toArray nl) ∈ news) (mdB : (dB, dictOf (bufD w.params β G M Ls (.int pt tp) (.int zv tz) (.int ti tt) (.int ci tc)) 20) ∈ news) (mdT : (dT, dictOf (gapD w.params γ Cs (.int gs t1) (.int ge t2)) 4) ∈ news) (mCs : (Cs, listOf vs.toArray n) ∈ news) (ne_dB_Lc : @Ne Nat dB Lc) (ne_dT_Lc : @Ne Nat dT Lc) (ne_Cs_Lc : @Ne Nat Cs Lc) (adr : AdrOk D dB Bf dT G Cs dM M R Ls dG Lg Rw) (hi : IntsAre vs cells) (ok : GapOk cells gs ge) (hi2 : IntsAre us ms) (hz : cells.length ≤ 700000) (hz2 : ms.length ≤ 1000) (ha0 : 1 ≤ x) (ha1 : x - 1 + (ge - gs) ≤ cells.length) (k : ∀ pt' tp' tz' t1' t2' gs' ge' (vs' : List Value) (cells' : List Int) n' h' tk', Fr h₀ L h' m → NewsAll h₀ L h' [(dB, dictOf (bufD w.params β G M Ls (.int pt tp) (.int zv tz) (.int ti tt) (.int ci tc)) 20, dictOf (bufD w.params β G M Ls (.int pt' tp') (.int (zv + (ms.length : Int)) tz') (.int ti tt) (.int ci tc)) 20), (dT, dictOf (gapD w.params γ Cs (.int gs t1) (.int ge t2)) 4, dictOf (gapD w.params γ Cs (.int gs' t1') (.int ge' t2')) 4), (Cs, listOf vs.toArray n, listOf vs'.toArray n')] news [] → IntsAre vs' cells' → GapOk cells' gs' ge' → gapText cells' gs' ge' = (gapText cells gs ge).take (x - 1).toNat ++ ms ++ (gapText cells gs ge).drop (x - 1).toNat → (cells'.length : Int) ≤ cells.length + ms.length + 8 → (cells'.length : Int) - (ge' - gs') = cells.length - (ge - gs) + ms.length → Q (.none) { s with heap := h', toks := tk' }) : wpAny (model prog w) (ktrTop dp un gd cn cs L a ccd cl outer) (call (.ref 425) [.ref Bf, .int x tx, .ref Lc]) Q E s := text_in_specU (hkl dp [un, a, L, D, dB, Bf, dT, G, Cs, dM, M, R, Ls, dG, Lg, Rw, n, t1, t2, tp, tz, tt, tc, Lc, nl, tx], hkl gs [ge, pt, zv, ti, ci, x], hkl ccd [], hkl vs [us], hkl cells [ms], hkl mg [mb, m], hkl prog [p], hkl w [], hkl Q [E], hkl cn [], hkl s [], uO u0, hkl news [], hkl base [h₀], hkl A₀ [], uSt u0, hkl γ [], hkl β [], uLT u0, uMT u0, hkl cs [], hkl gd [], hkl loose [], hkl outer [], hkl mean [], hkl cl [], uB u0, uOA u0, uSm u0, uRs u0, uF u0, uOs u0, uAr u0) B F X N T hk hdp hun mB mG mLc mdB mdT mCs ne_dB_Lc ne_dT_Lc ne_Cs_Lc adr hi ok hi2 hz hz2 ha0 ha1 k
set_option maxRecDepth 100000 in
set_option maxHeartbeats 8000000 in
theorem minserted_specU (v : U) : (fun (prog : Program) (w : World) (p : Program) (loose : List Str) (mean : ExcName → Option Value) (mg : Str → Option Value) (mb : Str → Option Value) (dp : Nat) (un : Nat) (gd : Option (List Code)) (cn : Str) (cs : Scope) (a : Addr) (ccd : Value) (cl : List (Str × Addr)) (outer : List Env) (A₀ : Around) (base : Heap) (h₀ : Heap) (L : Addr) (m : Str → Option Value) (news : List (Addr × Obj)) (s : Shared) (Q : Value → Shared → Prop) (E : Value → Shared → Prop) (D : Addr) (dB : Addr) (Bf : Addr) (dT : Addr) (G : Addr) (Cs : Addr) (dM : Addr) (M : Addr) (R : Addr) (Ls : Addr) (dG : Addr) (Lg : Addr) (Rw : Addr) (μ : MT) (oR : Obj) (x : Int) (y : Int) (tx : Tok) (ty : Tok) (bb : Bool) => ∀ (B : Below A₀ base outer h₀) (F : Fr h₀ L s.heap m) (X : (Mine.hd.heap_1 w.params).In h₀) (N : News h₀ L s.heap news) (T : Top p loose mean mg mb h₀) (hk : cs.kind = .function) (hdp : dp ≤ 590) (hun : un ≤ 4900) (mM : (M, instObj 220 dM) ∈ news) (mdM : (dM, dictOf (mkD w.params μ R) 1) ∈ news) (mR : (R, oR) ∈ news) (adr : AdrOk D dB Bf dT G Cs dM M R Ls dG Lg Rw) (hr1 : oR.IsDictOf (strKind prog w) []) (hr2 : (R == sysModules) = false) (k : ∀ h' tk', Fr h₀ L h' m → News h₀ L h' (news) → Q (.none) { s with heap := h', toks := tk' }), wpAny (model prog w) (ktrTop dp un gd cn cs L a ccd cl outer) (call (.ref 203) [.ref M, .int x tx, .int y ty, .bool bb]) Q E s) (uPr v 0) (uW v 0) (uPr v 1) (uSs v 0) (uX v 0) (uM v 0) (uM v 1) (uN v 0) (uN v 1) (uCs v 0) (uS v 0) (uSc v 0) (uN v 2) (uV v 0) (uCl v 0) (uEs v 0) (uA v 0) (uH v 0) (uH v 1) (uN v 3) (uM v 2) (uL v 0) (uSh v 0) (uQ v 0) (uQ v 1) (uN v 4) (uN v 5) (uN v 6) (uN v 7) (uN v 8) (uN v 9) (uN v 10) (uN v 11) (uN v 12) (uN v 13) (uN v 14) (uN v 15) (uN v 16) (uMT v 0) (uO v 0) (uI v 0) (uI v 1) (uN v 17) (uN v 18) (uB v 0) := by
  revert v
  refine hkU ?_
  generalize ep _ _ = eU
  generalize uPr eU 0 = prog, uW eU 0 = w, uPr eU 1 = p, uSs eU 0 = loose, uX eU 0 = mean, uM eU 0 = mg, uM eU 1 = mb, uN eU 0 = dp, uN eU 1 = un, uCs eU 0 = gd, uS eU 0 = cn, uSc eU 0 = cs, uN eU 2 = a, uV eU 0 = ccd, uCl eU 0 = cl, uEs eU 0 = outer, uA eU 0 = A₀, uH eU 0 = base, uH eU 1 = h₀, uN eU 3 = L, uM eU 2 = m, uL eU 0 = news, uSh eU 0 = s, uQ eU 0 = Q, uQ eU 1 = E, uN eU 4 = D, uN eU 5 = dB, uN eU 6 = Bf, uN eU 7 = dT, uN eU 8 = G, uN eU 9 = Cs, uN eU 10 = dM, uN eU 11 = M, uN eU 12 = R, uN eU 13 = Ls, uN eU 14 = dG, uN eU 15 = Lg, uN eU 16 = Rw, uMT eU 0 = μ, uO eU 0 = oR, uI eU 0 = x, uI eU 1 = y, uN eU 17 = tx, uN eU 18 = ty, uB eU 0 = bb
  clear eU
  refine fun B F X N T hk hdp hun mM mdM mR adr hr1 hr2 k => ?_
  have N1 : News h₀ L s.heap ((M, instObj 220 dM) :: (dM, dictOf (mkD w.params μ R) 1) :: (R, oR) :: news) := by
    refine news_cons ?_ N mM
    refine news_cons ?_ N mdM
    refine news_cons ?_ N mR
    exact N
  have k' := k
  clear N k mM mdM mR
  refine wpAny_call ?_
  k_dflt ktr_enter
  have adr' := adr
  obtain ⟨ad0, ad1, ad2, ad3, ad4, ad5, ad6, ad7, ad8, ad9, ad10, ad11⟩ := adr'
  obtain ⟨al0, al1, al2, al3, al4, al5, al6, al7, al8, al9, al10, al11⟩ := adr_lts adr
  (repeat' (first | (with_reducible (((with_reducible show wpAny _ _ (pyIter (Value.ref _)) (fun it s₂ => LoopAtV _ _ _ _ _ _ _ _ _ it s₂) _ _); (rename Fr _ _ _ _ => lF'); (rename News _ _ _ _ => lN'); (with_unfolding_all refine' iter_listUnr (by rfl) lF' lN' (by k_mem) (by exact rfl) (by exact rfl) ?_); clear lF'; intro i' l1; (try k_lt l1)))) | (with_reducible (((with_reducible show wpAny _ _ (call (Value.builtin "sorted") [Value.ref _]) _ _ _); k_dflt (refine' sorted_nil rfl (by k_asm) (by k_asm) (by k_mem) (by assumption) (by assumption) (by exact .nil) ?_); intro B' h' tk' F' N' l1; (try k_lt l1); (try k_sweep)))) | (k_unfold; (try dsimp only)) | (k_end; kc_close) | walk1 | (dsimp only; walk1) | (leave1; walk_say "STEP leave1"; (try dsimp only)) | fail "no step"))
  exact k' _ _ (by assumption) (by ktr_rel)
theorem minserted_spec {prog : Program} {w : World} {p : Program} {loose : List Str} {mean : ExcName → Option Value} {mg : Str → Option Value} {mb : Str → Option Value} {dp : Nat} {un : Nat} {gd : Option (List Code)} {cn : Str} {cs : Scope} {a : Addr} {ccd : Value} {cl : List (Str × Addr)} {outer : List Env} {A₀ : Around} {base : Heap} {h₀ : Heap} {L : Addr} {m : Str → Option Value} {news : List (Addr × Obj)} {s : Shared} {Q : Value → Shared → Prop} {E : Value → Shared → Prop} {D : Addr} {dB : Addr} {Bf : Addr} {dT : Addr} {G : Addr} {Cs : Addr} {dM : Addr} {M : Addr} {R : Addr} {Ls : Addr} {dG : Addr} {Lg : Addr} {Rw : Addr} {μ : MT} {oR : Obj} {x : Int} {y : Int} {tx : Tok} {ty : Tok} {bb : Bool} (B : Below A₀ base outer h₀) (F : Fr h₀ L s.heap m) (X : (Mine.hd.heap_1 w.params).In h₀) (N : News h₀ L s.heap news) (T : Top p loose mean mg mb h₀) (hk : cs.kind = .function) (hdp : dp ≤ 590) (hun : un ≤ 4900) (mM : (M, instObj 220 dM) ∈ news) (mdM : (dM, dictOf (mkD w.params μ R) 1) ∈ news) (mR : (R, oR) ∈ news) (adr : AdrOk D dB Bf dT G Cs dM M R Ls dG Lg Rw) (hr1 : oR.IsDictOf (strKind prog w) []) (hr2 : (R == sysModules) = false) (k : ∀ h' tk', Fr h₀ L h' m → News h₀ L h' (news) → Q (.none) { s with heap := h', toks := tk' }) : wpAny (model prog w) (ktrTop dp un gd cn cs L a ccd cl outer) (call (.ref 203) [.ref M, .int x tx, .int y ty, .bool bb]) Q E s := minserted_specU (hkl dp [un, a, L, D, dB, Bf, dT, G, Cs, dM, M, R, Ls, dG, Lg, Rw, tx, ty], hkl x [y], hkl ccd [], uVs u0, uIs u0, hkl mg [mb, m], hkl prog [p], hkl w [], hkl Q [E], hkl cn [], hkl s [], hkl oR [], hkl news [], hkl base [h₀], hkl A₀ [], uSt u0, uGT u0, uBT u0, uLT u0, hkl μ [], hkl cs [], hkl gd [], hkl loose [], hkl outer [], hkl mean [], hkl cl [], hkl bb [], uOA u0, uSm u0, uRs u0, uF u0, uOs u0, uAr u0) B F X N T hk hdp hun mM mdM mR adr hr1 hr2 k
set_option maxRecDepth 100000 in
set_option maxHeartbeats 8000000 in
theorem mdeleted_specU (v : U) : (fun (prog : Program) (w : World) (p : Program) (loose : List Str) (mean : ExcName → Option Value) (mg : Str → Option Value) (mb : Str → Option Value) (dp : Nat) (un : Nat) (gd : Option (List Code)) (cn : Str) (cs : Scope) (a : Addr) (ccd : Value) (cl : List (Str × Addr)) (outer : List Env) (A₀ : Around) (base : Heap) (h₀ : Heap) (L : Addr) (m : Str → Option Value) (news : List (Addr × Obj)) (s : Shared) (Q : Value → Shared → Prop) (E : Value → Shared → Prop) (D : Addr) (dB : Addr) (Bf : Addr) (dT : Addr) (G : Addr) (Cs : Addr) (dM : Addr) (M : Addr) (R : Addr) (Ls : Addr) (dG : Addr) (Lg : Addr) (Rw : Addr) (μ : MT) (oR : Obj) (x : Int) (y : Int) (tx : Tok) (ty : Tok) => ∀ (B : Below A₀ base outer h₀) (F : Fr h₀ L s.heap m) (X : (Mine.hd.heap_1 w.params).In h₀) (N : News h₀ L s.heap news) (T : Top p loose mean mg mb h₀) (hk : cs.kind = .function) (hdp : dp ≤ 590) (hun : un ≤ 4900) (mM : (M, instObj 220 dM) ∈ news) (mdM : (dM, dictOf (mkD w.params μ R) 1) ∈ news) (mR : (R, oR) ∈ news) (adr : AdrOk D dB Bf dT G Cs dM M R Ls dG Lg Rw) (hr1 : oR.IsDictOf (strKind prog w) []) (hr2 : (R == sysModules) = false) (k : ∀ h' tk', Fr h₀ L h' m → News h₀ L h' (news) → Q (.none) { s with heap := h', toks := tk' }), wpAny (model prog w) (ktrTop dp un gd cn cs L a ccd cl outer) (call (.ref 210) [.ref M, .int x tx, .int y ty]) Q E s) (uPr v 0) (uW v 0) (uPr v 1) (uSs v 0) (uX v 0) (uM v 0) (uM v 1) (uN v 0) (uN v 1) (uCs v 0) (uS v 0) (uSc v 0) (uN v 2) (uV v 0) (uCl v 0) (uEs v 0) (uA v 0) (uH v 0) (uH v 1) (uN v 3) (uM v 2) (uL v 0) (uSh v 0) (uQ v 0) (uQ v 1) (uN v 4) (uN v 5) (uN v 6) (uN v 7) (uN v 8) (uN v 9) (uN v 10) (uN v 11) (uN v 12) (uN v 13) (uN v 14) (uN v 15) (uN v 16) (uMT v 0) (uO v 0) (uI v 0) (uI v 1) (uN v 17) (uN v 18) := by
  revert v
  refine hkU ?_
  generalize ep _ _ = eU
  generalize uPr eU 0 = prog, uW eU 0 = w, uPr eU 1 = p, uSs eU 0 = loose, uX eU 0 = mean, uM eU 0 = mg, uM eU 1 = mb, uN eU 0 = dp, uN eU 1 = un, uCs eU 0 = gd, uS eU 0 = cn, uSc eU 0 = cs, uN eU 2 = a, uV eU 0 = ccd, uCl eU 0 = cl, uEs eU 0 = outer, uA eU 0 = A₀, uH eU 0 = base, uH eU 1 = h₀, uN eU 3 = L, uM eU 2 = m, uL eU 0 = news, uSh eU 0 = s, uQ eU 0 = Q, uQ eU 1 = E, uN eU 4 = D, uN eU 5 = dB, uN eU 6 = Bf, uN eU 7 = dT, uN eU 8 = G, uN eU 9 = Cs, uN eU 10 = dM, uN eU 11 = M, uN eU 12 = R, uN eU 13 = Ls, uN eU 14 = dG, uN eU 15 = Lg, uN eU 16 = Rw, uMT eU 0 = μ, uO eU 0 = oR, uI eU 0 = x, uI eU 1 = y, uN eU 17 = tx, uN eU 18 = ty
  clear eU
  refine fun B F X N T hk hdp hun mM mdM mR adr hr1 hr2 k => ?_
  have N1 : News h₀ L s.heap ((M, instObj 220 dM) :: (dM, dictOf (mkD w.params μ R) 1) :: (R, oR) :: news) := by
    refine news_cons ?_ N mM
    refine news_cons ?_ N mdM
    refine news_cons ?_ N mR
    exact N
  have k' := k
  clear N k mM mdM mR
  refine wpAny_call ?_
  k_dflt ktr_enter
  have adr' := adr
  obtain ⟨ad0, ad1, ad2, ad3, ad4, ad5, ad6, ad7, ad8, ad9, ad10, ad11⟩ := adr'
  obtain ⟨al0, al1, al2, al3, al4, al5, al6, al7, al8, al9, al10, al11⟩ := adr_lts adr
  (repeat' (first | (with_reducible (((with_reducible show wpAny _ _ (pyIter (Value.ref _)) (fun it s₂ => LoopAtV _ _ _ _ _ _ _ _ _ it s₂) _ _); (rename Fr _ _ _ _ => lF'); (rename News _ _ _ _ => lN'); (with_unfolding_all refine' iter_listUnr (by rfl) lF' lN' (by k_mem) (by exact rfl) (by exact rfl) ?_); clear lF'; intro i' l1; (try k_lt l1)))) | (with_reducible (((with_reducible show wpAny _ _ (call (Value.builtin "sorted") [Value.ref _]) _ _ _); k_dflt (refine' sorted_nil rfl (by k_asm) (by k_asm) (by k_mem) (by assumption) (by assumption) (by exact .nil) ?_); intro B' h' tk' F' N' l1; (try k_lt l1); (try k_sweep)))) | (k_unfold; (try dsimp only)) | (k_end; kc_close) | walk1 | (dsimp only; walk1) | (leave1; walk_say "STEP leave1"; (try dsimp only)) | fail "no step"))
  exact k' _ _ (by assumption) (by ktr_rel)
theorem mdeleted_spec {prog : Program} {w : World} {p : Program} {loose : List Str} {mean : ExcName → Option Value} {mg : Str → Option Value} {mb : Str → Option Value} {dp : Nat} {un : Nat} {gd : Option (List Code)} {cn : Str} {cs : Scope} {a : Addr} {ccd : Value} {cl : List (Str × Addr)} {outer : List Env} {A₀ : Around} {base : Heap} {h₀ : Heap} {L : Addr} {m : Str → Option Value} {news : List (Addr × Obj)} {s : Shared} {Q : Value → Shared → Prop} {E : Value → Shared → Prop} {D : Addr} {dB : Addr} {Bf : Addr} {dT : Addr} {G : Addr} {Cs : Addr} {dM : Addr} {M : Addr} {R : Addr} {Ls : Addr} {dG : Addr} {Lg : Addr} {Rw : Addr} {μ : MT} {oR : Obj} {x : Int} {y : Int} {tx : Tok} {ty : Tok} (B : Below A₀ base outer h₀) (F : Fr h₀ L s.heap m) (X : (Mine.hd.heap_1 w.params).In h₀) (N : News h₀ L s.heap news) (T : Top p loose mean mg mb h₀) (hk : cs.kind = .function) (hdp : dp ≤ 590) (hun : un ≤ 4900) (mM : (M, instObj 220 dM) ∈ news) (mdM : (dM, dictOf (mkD w.params μ R) 1) ∈ news) (mR : (R, oR) ∈ news) (adr : AdrOk D dB Bf dT G Cs dM M R Ls dG Lg Rw) (hr1 : oR.IsDictOf (strKind prog w) []) (hr2 : (R == sysModules) = false) (k : ∀ h' tk', Fr h₀ L h' m → News h₀ L h' (news) → Q (.none) { s with heap := h', toks := tk' }) : wpAny (model prog w) (ktrTop dp un gd cn cs L a ccd cl outer) (call (.ref 210) [.ref M, .int x tx, .int y ty]) Q E s := mdeleted_specU (hkl dp [un, a, L, D, dB, Bf, dT, G, Cs, dM, M, R, Ls, dG, Lg, Rw, tx, ty], hkl x [y], hkl ccd [], uVs u0, uIs u0, hkl mg [mb, m], hkl prog [p], hkl w [], hkl Q [E], hkl cn [], hkl s [], hkl oR [], hkl news [], hkl base [h₀], hkl A₀ [], uSt u0, uGT u0, uBT u0, uLT u0, hkl μ [], hkl cs [], hkl gd [], hkl loose [], hkl outer [], hkl mean [], hkl cl [], uB u0, uOA u0, uSm u0, uRs u0, uF u0, uOs u0, uAr u0) B F X N T hk hdp hun mM mdM mR adr hr1 hr2 k
set_option maxRecDepth 100000 in
set_option maxHeartbeats 8000000 in
theorem mreplaced_specU (v : U) : (fun (prog : Program) (w : World) (p : Program) (loose : List Str) (mean : ExcName → Option Value) (mg : Str → Option Value) (mb : Str → Option Value) (dp : Nat) (un : Nat) (gd : Option (List Code)) (cn : Str) (cs : Scope) (a : Addr) (ccd : Value) (cl : List (Str × Addr)) (outer : List Env) (A₀ : Around) (base : Heap) (h₀ : Heap) (L : Addr) (m : Str → Option Value) (news : List (Addr × Obj)) (s : Shared) (Q : Value → Shared → Prop) (E : Value → Shared → Prop) (D : Addr) (dB : Addr) (Bf : Addr) (dT : Addr) (G : Addr) (Cs : Addr) (dM : Addr) (M : Addr) (R : Addr) (Ls : Addr) (dG : Addr) (Lg : Addr) (Rw : Addr) (μ : MT) (oR : Obj) (x : Int) (y : Int) (z : Int) (tx : Tok) (ty : Tok) (tz : Tok) => ∀ (B : Below A₀ base outer h₀) (F : Fr h₀ L s.heap m) (X : (Mine.hd.heap_1 w.params).In h₀) (N : News h₀ L s.heap news) (T : Top p loose mean mg mb h₀) (hk : cs.kind = .function) (hdp : dp ≤ 590) (hun : un ≤ 4900) (mM : (M, instObj 220 dM) ∈ news) (mdM : (dM, dictOf (mkD w.params μ R) 1) ∈ news) (mR : (R, oR) ∈ news) (adr : AdrOk D dB Bf dT G Cs dM M R Ls dG Lg Rw) (hr1 : oR.IsDictOf (strKind prog w) []) (hr2 : (R == sysModules) = false) (k : ∀ h' tk', Fr h₀ L h' m → News h₀ L h' (news) → Q (.none) { s with heap := h', toks := tk' }), wpAny (model prog w) (ktrTop dp un gd cn cs L a ccd cl outer) (call (.ref 217) [.ref M, .int x tx, .int y ty, .int z tz]) Q E s) (uPr v 0) (uW v 0) (uPr v 1) (uSs v 0) (uX v 0) (uM v 0) (uM v 1) (uN v 0) (uN v 1) (uCs v 0) (uS v 0) (uSc v 0) (uN v 2) (uV v 0) (uCl v 0) (uEs v 0) (uA v 0) (uH v 0) (uH v 1) (uN v 3) (uM v 2) (uL v 0) (uSh v 0) (uQ v 0) (uQ v 1) (uN v 4) (uN v 5) (uN v 6) (uN v 7) (uN v 8) (uN v 9) (uN v 10) (uN v 11) (uN v 12) (uN v 13) (uN v 14) (uN v 15) (uN v 16) (uMT v 0) (uO v 0) (uI v 0) (uI v 1) (uI v 2) (uN v 17) (uN v 18) (uN v 19) := by
  revert v
  refine hkU ?_
  generalize ep _ _ = eU
  generalize uPr eU 0 = prog, uW eU 0 = w, uPr eU 1 = p, uSs eU 0 = loose, uX eU 0 = mean, uM eU 0 = mg, uM eU 1 = mb, uN eU 0 = dp, uN eU 1 = un, uCs eU 0 = gd, uS eU 0 = cn, uSc eU 0 = cs, uN eU 2 = a, uV eU 0 = ccd, uCl eU 0 = cl, uEs eU 0 = outer, uA eU 0 = A₀, uH eU 0 = base, uH eU 1 = h₀, uN eU 3 = L, uM eU 2 = m, uL eU 0 = news, uSh eU 0 = s, uQ eU 0 = Q, uQ eU 1 = E, uN eU 4 = D, uN eU 5 = dB, uN eU 6 = Bf, uN eU 7 = dT, uN eU 8 = G, uN eU 9 = Cs, uN eU 10 = dM, uN eU 11 = M, uN eU 12 = R, uN eU 13 = Ls, uN eU 14 = dG, uN eU 15 = Lg, uN eU 16 = Rw, uMT eU 0 = μ, uO eU 0 = oR, uI eU 0 = x, uI eU 1 = y, uI eU 2 = z, uN eU 17 = tx, uN eU 18 = ty, uN eU 19 = tz
  clear eU
  refine fun B F X N T hk hdp hun mM mdM mR adr hr1 hr2 k => ?_
  have N1 : News h₀ L s.heap ((M, instObj 220 dM) :: (dM, dictOf (mkD w.params μ R) 1) :: (R, oR) :: news) := by
    refine news_cons ?_ N mM
    refine news_cons ?_ N mdM
    refine news_cons ?_ N mR
    exact N
  have k' := k
  clear N k mM mdM mR
  refine wpAny_call ?_
  k_dflt ktr_enter
  have adr' := adr
  obtain ⟨ad0, ad1, ad2, ad3, ad4, ad5, ad6, ad7, ad8, ad9, ad10, ad11⟩ := adr'
  obtain ⟨al0, al1, al2, al3, al4, al5, al6, al7, al8, al9, al10, al11⟩ := adr_lts adr
  (repeat' (first | (with_reducible (((with_reducible show wpAny _ _ (pyIter (Value.ref _)) (fun it s₂ => LoopAtV _ _ _ _ _ _ _ _ _ it s₂) _ _); (rename Fr _ _ _ _ => lF'); (rename News _ _ _ _ => lN'); (with_unfolding_all refine' iter_listUnr (by rfl) lF' lN' (by k_mem) (by exact rfl) (by exact rfl) ?_); clear lF'; intro i' l1; (try k_lt l1)))) | (with_reducible (((with_reducible show wpAny _ _ (call (Value.builtin "sorted") [Value.ref _]) _ _ _); k_dflt (refine' sorted_nil rfl (by k_asm) (by k_asm) (by k_mem) (by assumption) (by assumption) (by exact .nil) ?_); intro B' h' tk' F' N' l1; (try k_lt l1); (try k_sweep)))) | (k_unfold; (try dsimp only)) | (k_end; kc_close) | walk1 | (dsimp only; walk1) | (leave1; walk_say "STEP leave1"; (try dsimp only)) | fail "no step"))
  exact k' _ _ (by assumption) (by ktr_rel)
theorem mreplaced_spec {prog : Program} {w : World} {p : Program} {loose : List Str} {mean : ExcName → Option Value} {mg : Str → Option Value} {mb : Str → Option Value} {dp : Nat} {un : Nat} {gd : Option (List Code)} {cn : Str} {cs : Scope} {a : Addr} {ccd : Value} {cl : List (Str × Addr)} {outer : List Env} {A₀ : Around} {base : Heap} {h₀ : Heap} {L : Addr} {m : Str → Option Value} {news : List (Addr × Obj)} {s : Shared} {Q : Value → Shared → Prop} {E : Value → Shared → Prop} {D : Addr} {dB : Addr} {Bf : Addr} {dT : Addr} {G : Addr} {Cs : Addr} {dM : Addr} {M : Addr} {R : Addr} {Ls : Addr} {dG : Addr} {Lg : Addr} {Rw : Addr} {μ : MT} {oR : Obj} {x : Int} {y : Int} {z : Int} {tx : Tok} {ty : Tok} {tz : Tok} (B : Below A₀ base outer h₀) (F : Fr h₀ L s.heap m) (X : (Mine.hd.heap_1 w.params).In h₀) (N : News h₀ L s.heap news) (T : Top p loose mean mg mb h₀) (hk : cs.kind = .function) (hdp : dp ≤ 590) (hun : un ≤ 4900) (mM : (M, instObj 220 dM) ∈ news) (mdM : (dM, dictOf (mkD w.params μ R) 1) ∈ news) (mR : (R, oR) ∈ news) (adr : AdrOk D dB Bf dT G Cs dM M R Ls dG Lg Rw) (hr1 : oR.IsDictOf (strKind prog w) []) (hr2 : (R == sysModules) = false) (k : ∀ h' tk', Fr h₀ L h' m → News h₀ L h' (news) → Q (.none) { s with heap := h', toks := tk' }) : wpAny (model prog w) (ktrTop dp un gd cn cs L a ccd cl outer) (call (.ref 217) [.ref M, .int x tx, .int y ty, .int z tz]) Q E s := mreplaced_specU (hkl dp [un, a, L, D, dB, Bf, dT, G, Cs, dM, M, R, Ls, dG, Lg, Rw, tx, ty, tz], hkl x [y, z], hkl ccd [], uVs u0, uIs u0, hkl mg [mb, m], hkl prog [p], hkl w [], hkl Q [E], hkl cn [], hkl s [], hkl oR [], hkl news [], hkl base [h₀], hkl A₀ [], uSt u0, uGT u0, uBT u0, uLT u0, hkl μ [], hkl cs [], hkl gd [], hkl loose [], hkl outer [], hkl mean [], hkl cl [], uB u0, uOA u0, uSm u0, uRs u0, uF u0, uOs u0, uAr u0) B F X N T hk hdp hun mM mdM mR adr hr1 hr2 k
set_option maxRecDepth 100000 in
set_option maxHeartbeats 8000000 in
theorem after_specU (v : U) : (fun (prog : Program) (w : World) (p : Program) (loose : List Str) (mean : ExcName → Option Value) (mg : Str → Option Value) (mb : Str → Option Value) (dp : Nat) (un : Nat) (gd : Option (List Code)) (cn : Str) (cs : Scope) (a : Addr) (ccd : Value) (cl : List (Str × Addr)) (outer : List Env) (A₀ : Around) (base : Heap) (h₀ : Heap) (L : Addr) (m : Str → Option Value) (news : List (Addr × Obj)) (s : Shared) (Q : Value → Shared → Prop) (E : Value → Shared → Prop) (D : Addr) (dB : Addr) (Bf : Addr) (dT : Addr) (G : Addr) (Cs : Addr) (dM : Addr) (M : Addr) (R : Addr) (Ls : Addr) (dG : Addr) (Lg : Addr) (Rw : Addr) (δ : LT) (bv : Value) (ev : Value) (gr : Int) (tg : Tok) (rv : List Value) (nr : Nat) (st : Option (Int × Int)) (x : Int) (y : Int) (o : Int) (tx : Tok) (ty : Tok) (to : Tok) => ∀ (B : Below A₀ base outer h₀) (F : Fr h₀ L s.heap m) (X : (Mine.hd.heap_1 w.params).In h₀) (N : News h₀ L s.heap news) (T : Top p loose mean mg mb h₀) (hk : cs.kind = .function) (hdp : dp ≤ 590) (hun : un ≤ 4900) (mLg : (Lg, instObj 59 dG) ∈ news) (mdG : (dG, dictOf (logD w.params δ Rw bv ev (.int gr tg)) 4) ∈ news) (mRw : (Rw, listOf rv.toArray nr) ∈ news) (adr : AdrOk D dB Bf dT G Cs dM M R Ls dG Lg Rw) (hst : StV st bv ev) (hrv : rv.length ≤ 1000) (k : ∀ q to1 to2 to3 bv' ev' tg' nr' h' tk', Fr h₀ L h' m → NewsAll h₀ L h' [(dG, dictOf (logD w.params δ Rw bv ev (.int gr tg)) 4, dictOf (logD w.params δ Rw bv' ev' (.int (gr + (y - x - o)) tg')) 4), (Rw, listOf rv.toArray nr, listOf (rv ++ [Value.ref q]).toArray nr')] news [(q, tup3 x y o to1 to2 to3)] → AllLt q news → StV (stNext st x y o) bv' ev' → Q (.none) { s with heap := h', toks := tk' }), wpAny (model prog w) (ktrTop dp un gd cn cs L a ccd cl outer) (call (.ref 49) [.ref Lg, .ref Bf, .int x tx, .int y ty, .int o to]) Q E s) (uPr v 0) (uW v 0) (uPr v 1) (uSs v 0) (uX v 0) (uM v 0) (uM v 1) (uN v 0) (uN v 1) (uCs v 0) (uS v 0) (uSc v 0) (uN v 2) (uV v 0) (uCl v 0) (uEs v 0) (uA v 0) (uH v 0) (uH v 1) (uN v 3) (uM v 2) (uL v 0) (uSh v 0) (uQ v 0) (uQ v 1) (uN v 4) (uN v 5) (uN v 6) (uN v 7) (uN v 8) (uN v 9) (uN v 10) (uN v 11) (uN v 12) (uN v 13) (uN v 14) (uN v 15) (uN v 16) (uLT v 0) (uV v 1) (uV v 2) (uI v 0) (uN v 17) (uVs v 0) (uN v 18) (uSt v 0) (uI v 1) (uI v 2) (uI v 3) (uN v 19) (uN v 20) (uN v 21) := by
  revert v
  refine hkU ?_
  generalize ep _ _ = eU
  generalize uPr eU 0 = prog, uW eU 0 = w, uPr eU 1 = p, uSs eU 0 = loose, uX eU 0 = mean, uM eU 0 = mg, uM eU 1 = mb, uN eU 0 = dp, uN eU 1 = un, uCs eU 0 = gd, uS eU 0 = cn, uSc eU 0 = cs, uN eU 2 = a, uV eU 0 = ccd, uCl eU 0 = cl, uEs eU 0 = outer, uA eU 0 = A₀, uH eU 0 = base, uH eU 1 = h₀, uN eU 3 = L, uM eU 2 = m, uL eU 0 = news, uSh eU 0 = s, uQ eU 0 = Q, uQ eU 1 = E, uN eU 4 = D, uN eU 5 = dB, uN eU 6 = Bf, uN eU 7 = dT, uN eU 8 = G, uN eU 9 = Cs, uN eU 10 = dM, uN eU 11 = M, uN eU 12 = R, uN eU 13 = Ls, uN eU 14 = dG, uN eU 15 = Lg, uN eU 16 = Rw, uLT eU 0 = δ, uV eU 1 = bv, uV eU 2 = ev, uI eU 0 = gr, uN eU 17 = tg, uVs eU 0 = rv, uN eU 18 = nr, uSt eU 0 = st, uI eU 1 = x, uI eU 2 = y, uI eU 3 = o, uN eU 19 = tx, uN eU 20 = ty, uN eU 21 = to
  clear eU
  refine fun B F X N T hk hdp hun mLg mdG mRw adr hst hrv k => ?_
  have N1 : News h₀ L s.heap ((Lg, instObj 59 dG) :: (dG, dictOf (logD w.params δ Rw bv ev (.int gr tg)) 4) :: (Rw, listOf rv.toArray nr) :: (restOf [dG, Rw] news)) := by
    refine news_cons ?_ N mLg
    refine news_cons ?_ N mdG
    refine news_cons ?_ N mRw
    exact news_sub N restOf_in
  have off_dG : Off dG ((restOf [dG, Rw] news)) := restOf_off (by simp)
  have off_Rw : Off Rw ((restOf [dG, Rw] news)) := restOf_off (by simp)
  have k' : ∀ q to1 to2 to3 bv' ev' tg' nr' h' tk', Fr h₀ L h' m → News h₀ L h' ((q, tup3 x y o to1 to2 to3) :: (dG, dictOf (logD w.params δ Rw bv' ev' (.int (gr + (y - x - o)) tg')) 4) :: (Rw, listOf (rv ++ [Value.ref q]).toArray nr') :: (restOf [dG, Rw] news)) → @LT.lt Nat _ dG q → @LT.lt Nat _ Rw q → AllLt q ((restOf [dG, Rw] news)) → StV (stNext st x y o) bv' ev' → Q (.none) { s with heap := h', toks := tk' } := by
    intro q to1 to2 to3 bv' ev' tg' nr' h' tk' F' N' l0_0 l0_1 lr0 f0
    exact k _ _ _ _ _ _ _ _ _ _ F' (fun news' U => news_back (fresh := [(q, tup3 x y o to1 to2 to3)]) U N') (lt_back (foot := [dG, Rw]) (fun b hb => by simp only [List.mem_cons, List.not_mem_nil, or_false] at hb; rcases hb with rfl | rfl <;> assumption) lr0) f0
  generalize (restOf [dG, Rw] news) = rest at *
  clear N k mLg mdG mRw
  refine wpAny_call ?_
  k_dflt ktr_enter
  have adr' := adr
  obtain ⟨ad0, ad1, ad2, ad3, ad4, ad5, ad6, ad7, ad8, ad9, ad10, ad11⟩ := adr'
  obtain ⟨al0, al1, al2, al3, al4, al5, al6, al7, al8, al9, al10, al11⟩ := adr_lts adr
  rcases hst with ⟨rfl, rfl, rfl⟩ | ⟨b, e, tb, te, rfl, rfl, rfl⟩
  · (repeat' (first | (with_reducible (((with_reducible show wpAny _ _ (pyIter (Value.ref _)) (fun it s₂ => LoopAtV _ _ _ _ _ _ _ _ _ it s₂) _ _); (rename Fr _ _ _ _ => lF'); (rename News _ _ _ _ => lN'); (with_unfolding_all refine' iter_listUnr (by rfl) lF' lN' (by k_mem) (by exact rfl) (by exact rfl) ?_); clear lF'; intro i' l1; (try k_lt l1)))) | (with_reducible (((with_reducible show wpAny _ _ (call (Value.builtin "sorted") [Value.ref _]) _ _ _); k_dflt (refine' sorted_nil rfl (by k_asm) (by k_asm) (by k_mem) (by assumption) (by assumption) (by exact .nil) ?_); intro B' h' tk' F' N' l1; (try k_lt l1); (try k_sweep)))) | (k_unfold; (try dsimp only)) | (k_end; kc_close) | walk1 | (dsimp only; walk1) | (leave1; walk_say "STEP leave1"; (try dsimp only)) | fail "no step"))
    rename News _ _ _ _ => nN9
    rw [List.push_toArray] at nN9
    exact k' _ _ _ _ _ _ _ _ _ _ (by assumption) (by ktr_rel) (by tb_start) (by tb_start) (by tb_start) (.inr ⟨x, y, _, _, rfl, rfl, rfl⟩)
  · (repeat' (first | (with_reducible (((with_reducible show wpAny _ _ (pyIter (Value.ref _)) (fun it s₂ => LoopAtV _ _ _ _ _ _ _ _ _ it s₂) _ _); (rename Fr _ _ _ _ => lF'); (rename News _ _ _ _ => lN'); (with_unfolding_all refine' iter_listUnr (by rfl) lF' lN' (by k_mem) (by exact rfl) (by exact rfl) ?_); clear lF'; intro i' l1; (try k_lt l1)))) | (with_reducible (((with_reducible show wpAny _ _ (call (Value.builtin "sorted") [Value.ref _]) _ _ _); k_dflt (refine' sorted_nil rfl (by k_asm) (by k_asm) (by k_mem) (by assumption) (by assumption) (by exact .nil) ?_); intro B' h' tk' F' N' l1; (try k_lt l1); (try k_sweep)))) | (k_unfold; (try dsimp only)) | (k_end; kc_close) | walk1 | (dsimp only; walk1) | (leave1; walk_say "STEP leave1"; (try dsimp only)) | fail "no step"))
    · have hE : stNext (some (b, e)) x y o = some (if x < b then x else b, e + (y - x - o)) := by simp only [stNext, ge_iff_le, if_pos (by assumption : x + o ≤ e)]
      rename News _ _ _ _ => nN9
      rw [List.push_toArray] at nN9
      exact k' _ _ _ _ _ _ _ _ _ _ (by assumption) (by ktr_rel) (by tb_start) (by tb_start) (by tb_start) (.inr ⟨_, _, _, _, hE, rfl, rfl⟩)
    · have hE : stNext (some (b, e)) x y o = some (if x < b then x else b, y) := by simp only [stNext, ge_iff_le, if_neg (by assumption : ¬ x + o ≤ e)]
      rename News _ _ _ _ => nN9
      rw [List.push_toArray] at nN9
      exact k' _ _ _ _ _ _ _ _ _ _ (by assumption) (by ktr_rel) (by tb_start) (by tb_start) (by tb_start) (.inr ⟨_, _, _, _, hE, rfl, rfl⟩)
theorem after_spec {prog : Program} {w : World} {p : Program} {loose : List Str} {mean : ExcName → Option Value} {mg : Str → Option Value} {mb : Str → Option Value} {dp : Nat} {un : Nat} {gd : Option (List Code)} {cn : Str} {cs : Scope} {a : Addr} {ccd : Value} {cl : List (Str × Addr)} {outer : List Env} {A₀ : Around} {base : Heap} {h₀ : Heap} {L : Addr} {m : Str → Option Value} {news : List (Addr × Obj)} {s : Shared} {Q : Value → Shared → Prop} {E : Value → Shared → Prop} {D : Addr} {dB : Addr} {Bf : Addr} {dT : Addr} {G : Addr} {Cs : Addr} {dM : Addr} {M : Addr} {R : Addr} {Ls : Addr} {dG : Addr} {Lg : Addr} {Rw : Addr} {δ : LT} {bv : Value} {ev : Value} {gr : Int} {tg : Tok} {rv : List Value} {nr : Nat} {st : Option (Int × Int)} {x : Int} {y : Int} {o : Int} {tx : Tok} {ty : Tok} {to : Tok} (B : Below A₀ base outer h₀) (F : Fr h₀ L s.heap m) (X : (Mine.hd.heap_1 w.params).In h₀) (N : News h₀ L s.heap news) (T : Top p loose mean mg mb h₀) (hk : cs.kind = .function) (hdp : dp ≤ 590) (hun : un ≤ 4900) (mLg : (Lg, instObj 59 dG) ∈ news) (mdG : (dG, dictOf (logD w.params δ Rw bv ev (.int gr tg)) 4) ∈ news) (mRw : (Rw, listOf rv.toArray nr) ∈ news) (adr : AdrOk D dB Bf dT G Cs dM M R Ls dG Lg Rw) (hst : StV st bv ev) (hrv : rv.length ≤ 1000) (k : ∀ q to1 to2 to3 bv' ev' tg' nr' h' tk', Fr h₀ L h' m → NewsAll h₀ L h' [(dG, dictOf (logD w.params δ Rw bv ev (.int gr tg)) 4, dictOf (logD w.params δ Rw bv' ev' (.int (gr + (y - x - o)) tg')) 4), (Rw, listOf rv.toArray nr, listOf (rv ++ [Value.ref q]).toArray nr')] news [(q, tup3 x y o to1 to2 to3)] → AllLt q news → StV (stNext st x y o) bv' ev' → Q (.none) { s with heap := h', toks := tk' }) : wpAny (model prog w) (ktrTop dp un gd cn cs L a ccd cl outer) (call (.ref 49) [.ref Lg, .ref Bf, .int x tx, .int y ty, .int o to]) Q E s := after_specU (hkl dp [un, a, L, D, dB, Bf, dT, G, Cs, dM, M, R, Ls, dG, Lg, Rw, tg, nr, tx, ty, to], hkl gr [x, y, o], hkl ccd [bv, ev], hkl rv [], uIs u0, hkl mg [mb, m], hkl prog [p], hkl w [], hkl Q [E], hkl cn [], hkl s [], uO u0, hkl news [], hkl base [h₀], hkl A₀ [], hkl st [], uGT u0, uBT u0, hkl δ [], uMT u0, hkl cs [], hkl gd [], hkl loose [], hkl outer [], hkl mean [], hkl cl [], uB u0, uOA u0, uSm u0, uRs u0, uF u0, uOs u0, uAr u0) B F X N T hk hdp hun mLg mdG mRw adr hst hrv k
end
end
section
section
set_option maxRecDepth 100000 in
set_option maxHeartbeats 8000000 in
theorem writable_specU (v : U) : (fun (prog : Program) (w : World) (p : Program) (loose : List Str) (mean : ExcName → Option Value) (mg : Str → Option Value) (mb : Str → Option Value) (dp : Nat) (un : Nat) (gd : Option (List Code)) (cn : Str) (cs : Scope) (a : Addr) (ccd : Value) (cl : List (Str × Addr)) (outer : List Env) (A₀ : Around) (base : Heap) (h₀ : Heap) (L : Addr) (m : Str → Option Value) (news : List (Addr × Obj)) (s : Shared) (Q : Value → Shared → Prop) (E : Value → Shared → Prop) (D : Addr) (dB : Addr) (Bf : Addr) (dT : Addr) (G : Addr) (Cs : Addr) (dM : Addr) (M : Addr) (R : Addr) (Ls : Addr) (dG : Addr) (Lg : Addr) (Rw : Addr) (β : BT) (pt : Int) (zv : Int) (ti : Int) (ci : Int) (tp : Tok) (tz : Tok) (tt : Tok) (tc : Tok) => ∀ (B : Below A₀ base outer h₀) (F : Fr h₀ L s.heap m) (X : (Mine.hd.heap_1 w.params).In h₀) (N : News h₀ L s.heap news) (T : Top p loose mean mg mb h₀) (hk : cs.kind = .function) (hdp : dp ≤ 590) (hun : un ≤ 4900) (mB : (Bf, instObj 361 dB) ∈ news) (mdB : (dB, dictOf (bufD w.params β G M Ls (.int pt tp) (.int zv tz) (.int ti tt) (.int ci tc)) 20) ∈ news) (adr : AdrOk D dB Bf dT G Cs dM M R Ls dG Lg Rw) (k : ∀ h' tk', Fr h₀ L h' m → News h₀ L h' (news) → Q (.none) { s with heap := h', toks := tk' }), wpAny (model prog w) (ktrTop dp un gd cn cs L a ccd cl outer) (call (.ref 390) [.ref Bf]) Q E s) (uPr v 0) (uW v 0) (uPr v 1) (uSs v 0) (uX v 0) (uM v 0) (uM v 1) (uN v 0) (uN v 1) (uCs v 0) (uS v 0) (uSc v 0) (uN v 2) (uV v 0) (uCl v 0) (uEs v 0) (uA v 0) (uH v 0) (uH v 1) (uN v 3) (uM v 2) (uL v 0) (uSh v 0) (uQ v 0) (uQ v 1) (uN v 4) (uN v 5) (uN v 6) (uN v 7) (uN v 8) (uN v 9) (uN v 10) (uN v 11) (uN v 12) (uN v 13) (uN v 14) (uN v 15) (uN v 16) (uBT v 0) (uI v 0) (uI v 1) (uI v 2) (uI v 3) (uN v 17) (uN v 18) (uN v 19) (uN v 20) := by
  revert v
  refine hkU ?_
  generalize ep _ _ = eU
  generalize uPr eU 0 = prog, uW eU 0 = w, uPr eU 1 = p, uSs eU 0 = loose, uX eU 0 = mean, uM eU 0 = mg, uM eU 1 = mb, uN eU 0 = dp, uN eU 1 = un, uCs eU 0 = gd, uS eU 0 = cn, uSc eU 0 = cs, uN eU 2 = a, uV eU 0 = ccd, uCl eU 0 = cl, uEs eU 0 = outer, uA eU 0 = A₀, uH eU 0 = base, uH eU 1 = h₀, uN eU 3 = L, uM eU 2 = m, uL eU 0 = news, uSh eU 0 = s, uQ eU 0 = Q, uQ eU 1 = E, uN eU 4 = D, uN eU 5 = dB, uN eU 6 = Bf, uN eU 7 = dT, uN eU 8 = G, uN eU 9 = Cs, uN eU 10 = dM, uN eU 11 = M, uN eU 12 = R, uN eU 13 = Ls, uN eU 14 = dG, uN eU 15 = Lg, uN eU 16 = Rw, uBT eU 0 = β, uI eU 0 = pt, uI eU 1 = zv, uI eU 2 = ti, uI eU 3 = ci, uN eU 17 = tp, uN eU 18 = tz, uN eU 19 = tt, uN eU 20 = tc
  clear eU
  refine fun B F X N T hk hdp hun mB mdB adr k => ?_
  have N1 : News h₀ L s.heap ((Bf, instObj 361 dB) :: (dB, dictOf (bufD w.params β G M Ls (.int pt tp) (.int zv tz) (.int ti tt) (.int ci tc)) 20) :: news) := by
    refine news_cons ?_ N mB
    refine news_cons ?_ N mdB
    exact N
  have k' := k
  clear N k mB mdB
  refine wpAny_call ?_
  k_dflt ktr_enter
  have adr' := adr
  obtain ⟨ad0, ad1, ad2, ad3, ad4, ad5, ad6, ad7, ad8, ad9, ad10, ad11⟩ := adr'
  obtain ⟨al0, al1, al2, al3, al4, al5, al6, al7, al8, al9, al10, al11⟩ := adr_lts adr
  (repeat' (first | (with_reducible (((with_reducible show wpAny _ _ (pyIter (Value.ref _)) (fun it s₂ => LoopAtV _ _ _ _ _ _ _ _ _ it s₂) _ _); (rename Fr _ _ _ _ => lF'); (rename News _ _ _ _ => lN'); (with_unfolding_all refine' iter_listUnr (by rfl) lF' lN' (by k_mem) (by exact rfl) (by exact rfl) ?_); clear lF'; intro i' l1; (try k_lt l1)))) | ((with_reducible show UnrEnd ..); (refine' unrEnd_pull (by k_asm) (by k_asm) (by k_upd) ⟨(by k_mem), ?_⟩)) | (k_unfold; (try dsimp only)) | (k_end; kc_close) | walk1 | (dsimp only; walk1) | (leave1; walk_say "STEP leave1"; (try dsimp only)) | fail "no step"))
  exact k' _ _ (by assumption) (by ktr_rel)
theorem writable_spec {prog : Program} {w : World} {p : Program} {loose : List Str} {mean : ExcName → Option Value} {mg : Str → Option Value} {mb : Str → Option Value} {dp : Nat} {un : Nat} {gd : Option (List Code)} {cn : Str} {cs : Scope} {a : Addr} {ccd : Value} {cl : List (Str × Addr)} {outer : List Env} {A₀ : Around} {base : Heap} {h₀ : Heap} {L : Addr} {m : Str → Option Value} {news : List (Addr × Obj)} {s : Shared} {Q : Value → Shared → Prop} {E : Value → Shared → Prop} {D : Addr} {dB : Addr} {Bf : Addr} {dT : Addr} {G : Addr} {Cs : Addr} {dM : Addr} {M : Addr} {R : Addr} {Ls : Addr} {dG : Addr} {Lg : Addr} {Rw : Addr} {β : BT} {pt : Int} {zv : Int} {ti : Int} {ci : Int} {tp : Tok} {tz : Tok} {tt : Tok} {tc : Tok} (B : Below A₀ base outer h₀) (F : Fr h₀ L s.heap m) (X : (Mine.hd.heap_1 w.params).In h₀) (N : News h₀ L s.heap news) (T : Top p loose mean mg mb h₀) (hk : cs.kind = .function) (hdp : dp ≤ 590) (hun : un ≤ 4900) (mB : (Bf, instObj 361 dB) ∈ news) (mdB : (dB, dictOf (bufD w.params β G M Ls (.int pt tp) (.int zv tz) (.int ti tt) (.int ci tc)) 20) ∈ news) (adr : AdrOk D dB Bf dT G Cs dM M R Ls dG Lg Rw) (k : ∀ h' tk', Fr h₀ L h' m → News h₀ L h' (news) → Q (.none) { s with heap := h', toks := tk' }) : wpAny (model prog w) (ktrTop dp un gd cn cs L a ccd cl outer) (call (.ref 390) [.ref Bf]) Q E s := writable_specU (hkl dp [un, a, L, D, dB, Bf, dT, G, Cs, dM, M, R, Ls, dG, Lg, Rw, tp, tz, tt, tc], hkl pt [zv, ti, ci], hkl ccd [], uVs u0, uIs u0, hkl mg [mb, m], hkl prog [p], hkl w [], hkl Q [E], hkl cn [], hkl s [], uO u0, hkl news [], hkl base [h₀], hkl A₀ [], uSt u0, uGT u0, hkl β [], uLT u0, uMT u0, hkl cs [], hkl gd [], hkl loose [], hkl outer [], hkl mean [], hkl cl [], uB u0, uOA u0, uSm u0, uRs u0, uF u0, uOs u0, uAr u0) B F X N T hk hdp hun mB mdB adr k
set_option maxRecDepth 100000 in
set_option maxHeartbeats 8000000 in
theorem ahead_specU (v : U) : (fun (prog : Program) (w : World) (p : Program) (loose : List Str) (mean : ExcName → Option Value) (mg : Str → Option Value) (mb : Str → Option Value) (dp : Nat) (un : Nat) (gd : Option (List Code)) (cn : Str) (cs : Scope) (a : Addr) (ccd : Value) (cl : List (Str × Addr)) (outer : List Env) (A₀ : Around) (base : Heap) (h₀ : Heap) (L : Addr) (m : Str → Option Value) (news : List (Addr × Obj)) (s : Shared) (Q : Value → Shared → Prop) (E : Value → Shared → Prop) (D : Addr) (dB : Addr) (Bf : Addr) (dT : Addr) (G : Addr) (Cs : Addr) (dM : Addr) (M : Addr) (R : Addr) (Ls : Addr) (dG : Addr) (Lg : Addr) (Rw : Addr) (β : BT) (pt : Int) (zv : Int) (ti : Int) (ci : Int) (tp : Tok) (tz : Tok) (tt : Tok) (tc : Tok) (δ : LT) (bv : Value) (ev : Value) (gr : Int) (tg : Tok) (nls : Nat) (x : Int) (y : Int) (tx : Tok) (ty : Tok) => ∀ (B : Below A₀ base outer h₀) (F : Fr h₀ L s.heap m) (X : (Mine.hd.heap_1 w.params).In h₀) (N : News h₀ L s.heap news) (T : Top p loose mean mg mb h₀) (hk : cs.kind = .function) (hdp : dp ≤ 580) (hun : un ≤ 4800) (mB : (Bf, instObj 361 dB) ∈ news) (mdB : (dB, dictOf (bufD w.params β G M Ls (.int pt tp) (.int zv tz) (.int ti tt) (.int ci tc)) 20) ∈ news) (mLs : (Ls, listOf #[.ref Lg] nls) ∈ news) (mLg : (Lg, instObj 59 dG) ∈ news) (mdG : (dG, dictOf (logD w.params δ Rw bv ev (.int gr tg)) 4) ∈ news) (adr : AdrOk D dB Bf dT G Cs dM M R Ls dG Lg Rw) (k : ∀ h' tk', Fr h₀ L h' m → News h₀ L h' (news) → Q (.none) { s with heap := h', toks := tk' }), wpAny (model prog w) (ktrTop dp un gd cn cs L a ccd cl outer) (call (.ref 404) [.ref Bf, .int x tx, .int y ty]) Q E s) (uPr v 0) (uW v 0) (uPr v 1) (uSs v 0) (uX v 0) (uM v 0) (uM v 1) (uN v 0) (uN v 1) (uCs v 0) (uS v 0) (uSc v 0) (uN v 2) (uV v 0) (uCl v 0) (uEs v 0) (uA v 0) (uH v 0) (uH v 1) (uN v 3) (uM v 2) (uL v 0) (uSh v 0) (uQ v 0) (uQ v 1) (uN v 4) (uN v 5) (uN v 6) (uN v 7) (uN v 8) (uN v 9) (uN v 10) (uN v 11) (uN v 12) (uN v 13) (uN v 14) (uN v 15) (uN v 16) (uBT v 0) (uI v 0) (uI v 1) (uI v 2) (uI v 3) (uN v 17) (uN v 18) (uN v 19) (uN v 20) (uLT v 0) (uV v 1) (uV v 2) (uI v 4) (uN v 21) (uN v 22) (uI v 5) (uI v 6) (uN v 23) (uN v 24) := by
  revert v
  refine hkU ?_
  generalize ep _ _ = eU
  generalize uPr eU 0 = prog, uW eU 0 = w, uPr eU 1 = p, uSs eU 0 = loose, uX eU 0 = mean, uM eU 0 = mg, uM eU 1 = mb, uN eU 0 = dp, uN eU 1 = un, uCs eU 0 = gd, uS eU 0 = cn, uSc eU 0 = cs, uN eU 2 = a, uV eU 0 = ccd, uCl eU 0 = cl, uEs eU 0 = outer, uA eU 0 = A₀, uH eU 0 = base, uH eU 1 = h₀, uN eU 3 = L, uM eU 2 = m, uL eU 0 = news, uSh eU 0 = s, uQ eU 0 = Q, uQ eU 1 = E, uN eU 4 = D, uN eU 5 = dB, uN eU 6 = Bf, uN eU 7 = dT, uN eU 8 = G, uN eU 9 = Cs, uN eU 10 = dM, uN eU 11 = M, uN eU 12 = R, uN eU 13 = Ls, uN eU 14 = dG, uN eU 15 = Lg, uN eU 16 = Rw, uBT eU 0 = β, uI eU 0 = pt, uI eU 1 = zv, uI eU 2 = ti, uI eU 3 = ci, uN eU 17 = tp, uN eU 18 = tz, uN eU 19 = tt, uN eU 20 = tc, uLT eU 0 = δ, uV eU 1 = bv, uV eU 2 = ev, uI eU 4 = gr, uN eU 21 = tg, uN eU 22 = nls, uI eU 5 = x, uI eU 6 = y, uN eU 23 = tx, uN eU 24 = ty
  clear eU
  refine fun B F X N T hk hdp hun mB mdB mLs mLg mdG adr k => ?_
  have N1 : News h₀ L s.heap ((Bf, instObj 361 dB) :: (dB, dictOf (bufD w.params β G M Ls (.int pt tp) (.int zv tz) (.int ti tt) (.int ci tc)) 20) :: (Ls, listOf #[.ref Lg] nls) :: (Lg, instObj 59 dG) :: (dG, dictOf (logD w.params δ Rw bv ev (.int gr tg)) 4) :: news) := by
    refine news_cons ?_ N mB
    refine news_cons ?_ N mdB
    refine news_cons ?_ N mLs
    refine news_cons ?_ N mLg
    refine news_cons ?_ N mdG
    exact N
  have k' := k
  clear N k mB mdB mLs mLg mdG
  refine wpAny_call ?_
  k_dflt ktr_enter
  have adr' := adr
  obtain ⟨ad0, ad1, ad2, ad3, ad4, ad5, ad6, ad7, ad8, ad9, ad10, ad11⟩ := adr'
  obtain ⟨al0, al1, al2, al3, al4, al5, al6, al7, al8, al9, al10, al11⟩ := adr_lts adr
  (repeat' (first | (with_reducible (((with_reducible show wpAny _ _ (pyIter (Value.ref _)) (fun it s₂ => LoopAtV _ _ _ _ _ _ _ _ _ it s₂) _ _); (rename Fr _ _ _ _ => lF'); (rename News _ _ _ _ => lN'); (with_unfolding_all refine' iter_listUnr (by rfl) lF' lN' (by k_mem) (by exact rfl) (by exact rfl) ?_); clear lF'; intro i' l1; (try k_lt l1)))) | ((with_reducible show UnrEnd ..); (refine' unrEnd_pull (by k_asm) (by k_asm) (by k_upd) ⟨(by k_mem), ?_⟩)) | (k_unfold; (try dsimp only)) | (k_end; kc_close) | walk1 | (dsimp only; walk1) | (leave1; walk_say "STEP leave1"; (try dsimp only)) | fail "no step"))
  exact k' _ _ (by assumption) (by ktr_rel)
theorem ahead_spec {prog : Program} {w : World} {p : Program} {loose : List Str} {mean : ExcName → Option Value} {mg : Str → Option Value} {mb : Str → Option Value} {dp : Nat} {un : Nat} {gd : Option (List Code)} {cn : Str} {cs : Scope} {a : Addr} {ccd : Value} {cl : List (Str × Addr)} {outer : List Env} {A₀ : Around} {base : Heap} {h₀ : Heap} {L : Addr} {m : Str → Option Value} {news : List (Addr × Obj)} {s : Shared} {Q : Value → Shared → Prop} {E : Value → Shared → Prop} {D : Addr} {dB : Addr} {Bf : Addr} {dT : Addr} {G : Addr} {Cs : Addr} {dM : Addr} {M : Addr} {R : Addr} {Ls : Addr} {dG : Addr} {Lg : Addr} {Rw : Addr} {β : BT} {pt : Int} {zv : Int} {ti : Int} {ci : Int} {tp : Tok} {tz : Tok} {tt : Tok} {tc : Tok} {δ : LT} {bv : Value} {ev : Value} {gr : Int} {tg : Tok} {nls : Nat} {x : Int} {y : Int} {tx : Tok} {ty : Tok} (B : Below A₀ base outer h₀) (F : Fr h₀ L s.heap m) (X : (Mine.hd.heap_1 w.params).In h₀) (N : News h₀ L s.heap news) (T : Top p loose mean mg mb h₀) (hk : cs.kind = .function) (hdp : dp ≤ 580) (hun : un ≤ 4800) (mB : (Bf, instObj 361 dB) ∈ news) (mdB : (dB, dictOf (bufD w.params β G M Ls (.int pt tp) (.int zv tz) (.int ti tt) (.int ci tc)) 20) ∈ news) (mLs : (Ls, listOf #[.ref Lg] nls) ∈ news) (mLg : (Lg, instObj 59 dG) ∈ news) (mdG : (dG, dictOf (logD w.params δ Rw bv ev (.int gr tg)) 4) ∈ news) (adr : AdrOk D dB Bf dT G Cs dM M R Ls dG Lg Rw) (k : ∀ h' tk', Fr h₀ L h' m → News h₀ L h' (news) → Q (.none) { s with heap := h', toks := tk' }) : wpAny (model prog w) (ktrTop dp un gd cn cs L a ccd cl outer) (call (.ref 404) [.ref Bf, .int x tx, .int y ty]) Q E s := ahead_specU (hkl dp [un, a, L, D, dB, Bf, dT, G, Cs, dM, M, R, Ls, dG, Lg, Rw, tp, tz, tt, tc, tg, nls, tx, ty], hkl pt [zv, ti, ci, gr, x, y], hkl ccd [bv, ev], uVs u0, uIs u0, hkl mg [mb, m], hkl prog [p], hkl w [], hkl Q [E], hkl cn [], hkl s [], uO u0, hkl news [], hkl base [h₀], hkl A₀ [], uSt u0, uGT u0, hkl β [], hkl δ [], uMT u0, hkl cs [], hkl gd [], hkl loose [], hkl outer [], hkl mean [], hkl cl [], uB u0, uOA u0, uSm u0, uRs u0, uF u0, uOs u0, uAr u0) B F X N T hk hdp hun mB mdB mLs mLg mdG adr k
set_option maxRecDepth 100000 in
set_option maxHeartbeats 8000000 in
theorem behind_specU (v : U) : (fun (prog : Program) (w : World) (p : Program) (loose : List Str) (mean : ExcName → Option Value) (mg : Str → Option Value) (mb : Str → Option Value) (dp : Nat) (un : Nat) (gd : Option (List Code)) (cn : Str) (cs : Scope) (a : Addr) (ccd : Value) (cl : List (Str × Addr)) (outer : List Env) (A₀ : Around) (base : Heap) (h₀ : Heap) (L : Addr) (m : Str → Option Value) (news : List (Addr × Obj)) (s : Shared) (Q : Value → Shared → Prop) (E : Value → Shared → Prop) (D : Addr) (dB : Addr) (Bf : Addr) (dT : Addr) (G : Addr) (Cs : Addr) (dM : Addr) (M : Addr) (R : Addr) (Ls : Addr) (dG : Addr) (Lg : Addr) (Rw : Addr) (β : BT) (pt : Int) (zv : Int) (ti : Int) (ci : Int) (tp : Tok) (tz : Tok) (tt : Tok) (tc : Tok) (δ : LT) (bv : Value) (ev : Value) (gr : Int) (tg : Tok) (rv : List Value) (nr : Nat) (st : Option (Int × Int)) (nls : Nat) (x : Int) (y : Int) (o : Int) (tx : Tok) (ty : Tok) (to : Tok) => ∀ (B : Below A₀ base outer h₀) (F : Fr h₀ L s.heap m) (X : (Mine.hd.heap_1 w.params).In h₀) (N : News h₀ L s.heap news) (T : Top p loose mean mg mb h₀) (hk : cs.kind = .function) (hdp : dp ≤ 580) (hun : un ≤ 4800) (mB : (Bf, instObj 361 dB) ∈ news) (mLs : (Ls, listOf #[.ref Lg] nls) ∈ news) (mLg : (Lg, instObj 59 dG) ∈ news) (mdB : (dB, dictOf (bufD w.params β G M Ls (.int pt tp) (.int zv tz) (.int ti tt) (.int ci tc)) 20) ∈ news) (mdG : (dG, dictOf (logD w.params δ Rw bv ev (.int gr tg)) 4) ∈ news) (mRw : (Rw, listOf rv.toArray nr) ∈ news) (adr : AdrOk D dB Bf dT G Cs dM M R Ls dG Lg Rw) (hst : StV st bv ev) (hrv : rv.length ≤ 1000) (k : ∀ q to1 to2 to3 ti' tt' ci' tc' bv' ev' tg' nr' h' tk', Fr h₀ L h' m → NewsAll h₀ L h' [(dB, dictOf (bufD w.params β G M Ls (.int pt tp) (.int zv tz) (.int ti tt) (.int ci tc)) 20, dictOf (bufD w.params β G M Ls (.int pt tp) (.int zv tz) (.int ti' tt') (.int ci' tc')) 20), (dG, dictOf (logD w.params δ Rw bv ev (.int gr tg)) 4, dictOf (logD w.params δ Rw bv' ev' (.int (gr + (y - x - o)) tg')) 4), (Rw, listOf rv.toArray nr, listOf (rv ++ [Value.ref q]).toArray nr')] news [(q, tup3 x y o to1 to2 to3)] → AllLt q news → StV (stNext st x y o) bv' ev' → Q (.none) { s with heap := h', toks := tk' }), wpAny (model prog w) (ktrTop dp un gd cn cs L a ccd cl outer) (call (.ref 411) [.ref Bf, .int x tx, .int y ty, .int o to]) Q E s) (uPr v 0) (uW v 0) (uPr v 1) (uSs v 0) (uX v 0) (uM v 0) (uM v 1) (uN v 0) (uN v 1) (uCs v 0) (uS v 0) (uSc v 0) (uN v 2) (uV v 0) (uCl v 0) (uEs v 0) (uA v 0) (uH v 0) (uH v 1) (uN v 3) (uM v 2) (uL v 0) (uSh v 0) (uQ v 0) (uQ v 1) (uN v 4) (uN v 5) (uN v 6) (uN v 7) (uN v 8) (uN v 9) (uN v 10) (uN v 11) (uN v 12) (uN v 13) (uN v 14) (uN v 15) (uN v 16) (uBT v 0) (uI v 0) (uI v 1) (uI v 2) (uI v 3) (uN v 17) (uN v 18) (uN v 19) (uN v 20) (uLT v 0) (uV v 1) (uV v 2) (uI v 4) (uN v 21) (uVs v 0) (uN v 22) (uSt v 0) (uN v 23) (uI v 5) (uI v 6) (uI v 7) (uN v 24) (uN v 25) (uN v 26) := by
  revert v
  refine hkU ?_
  generalize ep _ _ = eU
  generalize uPr eU 0 = prog, uW eU 0 = w, uPr eU 1 = p, uSs eU 0 = loose, uX eU 0 = mean, uM eU 0 = mg, uM eU 1 = mb, uN eU 0 = dp, uN eU 1 = un, uCs eU 0 = gd, uS eU 0 = cn, uSc eU 0 = cs, uN eU 2 = a, uV eU 0 = ccd, uCl eU 0 = cl, uEs eU 0 = outer, uA eU 0 = A₀, uH eU 0 = base, uH eU 1 = h₀, uN eU 3 = L, uM eU 2 = m, uL eU 0 = news, uSh eU 0 = s, uQ eU 0 = Q, uQ eU 1 = E, uN eU 4 = D, uN eU 5 = dB, uN eU 6 = Bf, uN eU 7 = dT, uN eU 8 = G, uN eU 9 = Cs, uN eU 10 = dM, uN eU 11 = M, uN eU 12 = R, uN eU 13 = Ls, uN eU 14 = dG, uN eU 15 = Lg, uN eU 16 = Rw, uBT eU 0 = β, uI eU 0 = pt, uI eU 1 = zv, uI eU 2 = ti, uI eU 3 = ci, uN eU 17 = tp, uN eU 18 = tz, uN eU 19 = tt, uN eU 20 = tc, uLT eU 0 = δ, uV eU 1 = bv, uV eU 2 = ev, uI eU 4 = gr, uN eU 21 = tg, uVs eU 0 = rv, uN eU 22 = nr, uSt eU 0 = st, uN eU 23 = nls, uI eU 5 = x, uI eU 6 = y, uI eU 7 = o, uN eU 24 = tx, uN eU 25 = ty, uN eU 26 = to
  clear eU
  refine fun B F X N T hk hdp hun mB mLs mLg mdB mdG mRw adr hst hrv k => ?_
  have N1 : News h₀ L s.heap ((Bf, instObj 361 dB) :: (Ls, listOf #[.ref Lg] nls) :: (Lg, instObj 59 dG) :: (dB, dictOf (bufD w.params β G M Ls (.int pt tp) (.int zv tz) (.int ti tt) (.int ci tc)) 20) :: (dG, dictOf (logD w.params δ Rw bv ev (.int gr tg)) 4) :: (Rw, listOf rv.toArray nr) :: (restOf [dB, dG, Rw] news)) := by
    refine news_cons ?_ N mB
    refine news_cons ?_ N mLs
    refine news_cons ?_ N mLg
    refine news_cons ?_ N mdB
    refine news_cons ?_ N mdG
    refine news_cons ?_ N mRw
    exact news_sub N restOf_in
  have off_dB : Off dB ((restOf [dB, dG, Rw] news)) := restOf_off (by simp)
  have off_dG : Off dG ((restOf [dB, dG, Rw] news)) := restOf_off (by simp)
  have off_Rw : Off Rw ((restOf [dB, dG, Rw] news)) := restOf_off (by simp)
  have k' : ∀ q to1 to2 to3 ti' tt' ci' tc' bv' ev' tg' nr' h' tk', Fr h₀ L h' m → News h₀ L h' ((q, tup3 x y o to1 to2 to3) :: (dB, dictOf (bufD w.params β G M Ls (.int pt tp) (.int zv tz) (.int ti' tt') (.int ci' tc')) 20) :: (dG, dictOf (logD w.params δ Rw bv' ev' (.int (gr + (y - x - o)) tg')) 4) :: (Rw, listOf (rv ++ [Value.ref q]).toArray nr') :: (restOf [dB, dG, Rw] news)) → @LT.lt Nat _ dB q → @LT.lt Nat _ dG q → @LT.lt Nat _ Rw q → AllLt q ((restOf [dB, dG, Rw] news)) → StV (stNext st x y o) bv' ev' → Q (.none) { s with heap := h', toks := tk' } := by
    intro q to1 to2 to3 ti' tt' ci' tc' bv' ev' tg' nr' h' tk' F' N' l0_0 l0_1 l0_2 lr0 f0
    exact k _ _ _ _ _ _ _ _ _ _ _ _ _ _ F' (fun news' U => news_back (fresh := [(q, tup3 x y o to1 to2 to3)]) U N') (lt_back (foot := [dB, dG, Rw]) (fun b hb => by simp only [List.mem_cons, List.not_mem_nil, or_false] at hb; rcases hb with rfl | rfl | rfl <;> assumption) lr0) f0
  generalize (restOf [dB, dG, Rw] news) = rest at *
  clear N k mB mLs mLg mdB mdG mRw
  refine wpAny_call ?_
  k_dflt ktr_enter
  have adr' := adr
  obtain ⟨ad0, ad1, ad2, ad3, ad4, ad5, ad6, ad7, ad8, ad9, ad10, ad11⟩ := adr'
  obtain ⟨al0, al1, al2, al3, al4, al5, al6, al7, al8, al9, al10, al11⟩ := adr_lts adr
  (repeat' (first | (with_reducible (((with_reducible show wpAny _ _ (pyIter (Value.ref _)) (fun it s₂ => LoopAtV _ _ _ _ _ _ _ _ _ it s₂) _ _); (rename Fr _ _ _ _ => lF'); (rename News _ _ _ _ => lN'); (with_unfolding_all refine' iter_listUnr (by rfl) lF' lN' (by k_mem) (by exact rfl) (by exact rfl) ?_); clear lF'; intro i' l1; (try k_lt l1)))) | ((with_reducible show UnrEnd ..); (refine' unrEnd_pull (by k_asm) (by k_asm) (by k_upd) ⟨(by k_mem), ?_⟩)) | (k_unfold; (try dsimp only)) | (k_end; kc_close) | walk1 | (dsimp only; walk1) | (leave1; walk_say "STEP leave1"; (try dsimp only)) | fail "no step"))
  exact k' _ _ _ _ _ _ _ _ _ _ _ _ _ _ (by assumption) (by ktr_rel) (by tb_start) (by tb_start) (by tb_start) (by tb_start) (by assumption)
theorem behind_spec {prog : Program} {w : World} {p : Program} {loose : List Str} {mean : ExcName → Option Value} {mg : Str → Option Value} {mb : Str → Option Value} {dp : Nat} {un : Nat} {gd : Option (List Code)} {cn : Str} {cs : Scope} {a : Addr} {ccd : Value} {cl : List (Str × Addr)} {outer : List Env} {A₀ : Around} {base : Heap} {h₀ : Heap} {L : Addr} {m : Str → Option Value} {news : List (Addr × Obj)} {s : Shared} {Q : Value → Shared → Prop} {E : Value → Shared → Prop} {D : Addr} {dB : Addr} {Bf : Addr} {dT : Addr} {G : Addr} {Cs : Addr} {dM : Addr} {M : Addr} {R : Addr} {Ls : Addr} {dG : Addr} {Lg : Addr} {Rw : Addr} {β : BT} {pt : Int} {zv : Int} {ti : Int} {ci : Int} {tp : Tok} {tz : Tok} {tt : Tok} {tc : Tok} {δ : LT} {bv : Value} {ev : Value} {gr : Int} {tg : Tok} {rv : List Value} {nr : Nat} {st : Option (Int × Int)} {nls : Nat} {x : Int} {y : Int} {o : Int} {tx : Tok} {ty : Tok} {to : Tok} (B : Below A₀ base outer h₀) (F : Fr h₀ L s.heap m) (X : (Mine.hd.heap_1 w.params).In h₀) (N : News h₀ L s.heap news) (T : Top p loose mean mg mb h₀) (hk : cs.kind = .function) (hdp : dp ≤ 580) (hun : un ≤ 4800) (mB : (Bf, instObj 361 dB) ∈ news) (mLs : (Ls, listOf #[.ref Lg] nls) ∈ news) (mLg : (Lg, instObj 59 dG) ∈ news) (mdB : (dB, dictOf (bufD w.params β G M Ls (.int pt tp) (.int zv tz) (.int ti tt) (.int ci tc)) 20) ∈ news) (mdG : (dG, dictOf (logD w.params δ Rw bv ev (.int gr tg)) 4) ∈ news) (mRw : (Rw, listOf rv.toArray nr) ∈ news) (adr : AdrOk D dB Bf dT G Cs dM M R Ls dG Lg Rw) (hst : StV st bv ev) (hrv : rv.length ≤ 1000) (k : ∀ q to1 to2 to3 ti' tt' ci' tc' bv' ev' tg' nr' h' tk', Fr h₀ L h' m → NewsAll h₀ L h' [(dB, dictOf (bufD w.params β G M Ls (.int pt tp) (.int zv tz) (.int ti tt) (.int ci tc)) 20, dictOf (bufD w.params β G M Ls (.int pt tp) (.int zv tz) (.int ti' tt') (.int ci' tc')) 20), (dG, dictOf (logD w.params δ Rw bv ev (.int gr tg)) 4, dictOf (logD w.params δ Rw bv' ev' (.int (gr + (y - x - o)) tg')) 4), (Rw, listOf rv.toArray nr, listOf (rv ++ [Value.ref q]).toArray nr')] news [(q, tup3 x y o to1 to2 to3)] → AllLt q news → StV (stNext st x y o) bv' ev' → Q (.none) { s with heap := h', toks := tk' }) : wpAny (model prog w) (ktrTop dp un gd cn cs L a ccd cl outer) (call (.ref 411) [.ref Bf, .int x tx, .int y ty, .int o to]) Q E s := behind_specU (hkl dp [un, a, L, D, dB, Bf, dT, G, Cs, dM, M, R, Ls, dG, Lg, Rw, tp, tz, tt, tc, tg, nr, nls, tx, ty, to], hkl pt [zv, ti, ci, gr, x, y, o], hkl ccd [bv, ev], hkl rv [], uIs u0, hkl mg [mb, m], hkl prog [p], hkl w [], hkl Q [E], hkl cn [], hkl s [], uO u0, hkl news [], hkl base [h₀], hkl A₀ [], hkl st [], uGT u0, hkl β [], hkl δ [], uMT u0, hkl cs [], hkl gd [], hkl loose [], hkl outer [], hkl mean [], hkl cl [], uB u0, uOA u0, uSm u0, uRs u0, uF u0, uOs u0, uAr u0) B F X N T hk hdp hun mB mLs mLg mdB mdG mRw adr hst hrv k
set_option maxRecDepth 100000 in
set_option maxHeartbeats 8000000 in
theorem hung_out_specU (v : U) : (fun (prog : Program) (w : World) (p : Program) (loose : List Str) (mean : ExcName → Option Value) (mg : Str → Option Value) (mb : Str → Option Value) (dp : Nat) (un : Nat) (gd : Option (List Code)) (cn : Str) (cs : Scope) (a : Addr) (ccd : Value) (cl : List (Str × Addr)) (outer : List Env) (A₀ : Around) (base : Heap) (h₀ : Heap) (L : Addr) (m : Str → Option Value) (news : List (Addr × Obj)) (s : Shared) (Q : Value → Shared → Prop) (E : Value → Shared → Prop) (D : Addr) (dB : Addr) (Bf : Addr) (dT : Addr) (G : Addr) (Cs : Addr) (dM : Addr) (M : Addr) (R : Addr) (Ls : Addr) (dG : Addr) (Lg : Addr) (Rw : Addr) (β : BT) (pt : Int) (zv : Int) (ti : Int) (ci : Int) (tp : Tok) (tz : Tok) (tt : Tok) (tc : Tok) (x : Int) (y : Int) (tx : Tok) (ty : Tok) => ∀ (B : Below A₀ base outer h₀) (F : Fr h₀ L s.heap m) (X : (Mine.hd.heap_1 w.params).In h₀) (N : News h₀ L s.heap news) (T : Top p loose mean mg mb h₀) (hk : cs.kind = .function) (hdp : dp ≤ 590) (hun : un ≤ 4900) (mB : (Bf, instObj 361 dB) ∈ news) (mdB : (dB, dictOf (bufD w.params β G M Ls (.int pt tp) (.int zv tz) (.int ti tt) (.int ci tc)) 20) ∈ news) (adr : AdrOk D dB Bf dT G Cs dM M R Ls dG Lg Rw) (k : ∀ h' tk', Fr h₀ L h' m → News h₀ L h' (news) → Q (.none) { s with heap := h', toks := tk' }), wpAny (model prog w) (ktrTop dp un gd cn cs L a ccd cl outer) (call (.ref 432) [.ref Bf, .int x tx, .int y ty]) Q E s) (uPr v 0) (uW v 0) (uPr v 1) (uSs v 0) (uX v 0) (uM v 0) (uM v 1) (uN v 0) (uN v 1) (uCs v 0) (uS v 0) (uSc v 0) (uN v 2) (uV v 0) (uCl v 0) (uEs v 0) (uA v 0) (uH v 0) (uH v 1) (uN v 3) (uM v 2) (uL v 0) (uSh v 0) (uQ v 0) (uQ v 1) (uN v 4) (uN v 5) (uN v 6) (uN v 7) (uN v 8) (uN v 9) (uN v 10) (uN v 11) (uN v 12) (uN v 13) (uN v 14) (uN v 15) (uN v 16) (uBT v 0) (uI v 0) (uI v 1) (uI v 2) (uI v 3) (uN v 17) (uN v 18) (uN v 19) (uN v 20) (uI v 4) (uI v 5) (uN v 21) (uN v 22) := by
  revert v
  refine hkU ?_
  generalize ep _ _ = eU
  generalize uPr eU 0 = prog, uW eU 0 = w, uPr eU 1 = p, uSs eU 0 = loose, uX eU 0 = mean, uM eU 0 = mg, uM eU 1 = mb, uN eU 0 = dp, uN eU 1 = un, uCs eU 0 = gd, uS eU 0 = cn, uSc eU 0 = cs, uN eU 2 = a, uV eU 0 = ccd, uCl eU 0 = cl, uEs eU 0 = outer, uA eU 0 = A₀, uH eU 0 = base, uH eU 1 = h₀, uN eU 3 = L, uM eU 2 = m, uL eU 0 = news, uSh eU 0 = s, uQ eU 0 = Q, uQ eU 1 = E, uN eU 4 = D, uN eU 5 = dB, uN eU 6 = Bf, uN eU 7 = dT, uN eU 8 = G, uN eU 9 = Cs, uN eU 10 = dM, uN eU 11 = M, uN eU 12 = R, uN eU 13 = Ls, uN eU 14 = dG, uN eU 15 = Lg, uN eU 16 = Rw, uBT eU 0 = β, uI eU 0 = pt, uI eU 1 = zv, uI eU 2 = ti, uI eU 3 = ci, uN eU 17 = tp, uN eU 18 = tz, uN eU 19 = tt, uN eU 20 = tc, uI eU 4 = x, uI eU 5 = y, uN eU 21 = tx, uN eU 22 = ty
  clear eU
  refine fun B F X N T hk hdp hun mB mdB adr k => ?_
  have N1 : News h₀ L s.heap ((Bf, instObj 361 dB) :: (dB, dictOf (bufD w.params β G M Ls (.int pt tp) (.int zv tz) (.int ti tt) (.int ci tc)) 20) :: news) := by
    refine news_cons ?_ N mB
    refine news_cons ?_ N mdB
    exact N
  have k' := k
  clear N k mB mdB
  refine wpAny_call ?_
  k_dflt ktr_enter
  have adr' := adr
  obtain ⟨ad0, ad1, ad2, ad3, ad4, ad5, ad6, ad7, ad8, ad9, ad10, ad11⟩ := adr'
  obtain ⟨al0, al1, al2, al3, al4, al5, al6, al7, al8, al9, al10, al11⟩ := adr_lts adr
  (repeat' (first | (with_reducible (((with_reducible show wpAny _ _ (pyIter (Value.ref _)) (fun it s₂ => LoopAtV _ _ _ _ _ _ _ _ _ it s₂) _ _); (rename Fr _ _ _ _ => lF'); (rename News _ _ _ _ => lN'); (with_unfolding_all refine' iter_listUnr (by rfl) lF' lN' (by k_mem) (by exact rfl) (by exact rfl) ?_); clear lF'; intro i' l1; (try k_lt l1)))) | ((with_reducible show UnrEnd ..); (refine' unrEnd_pull (by k_asm) (by k_asm) (by k_upd) ⟨(by k_mem), ?_⟩)) | (k_unfold; (try dsimp only)) | (k_end; kc_close) | walk1 | (dsimp only; walk1) | (leave1; walk_say "STEP leave1"; (try dsimp only)) | fail "no step"))
  exact k' _ _ (by assumption) (by ktr_rel)
theorem hung_out_spec {prog : Program} {w : World} {p : Program} {loose : List Str} {mean : ExcName → Option Value} {mg : Str → Option Value} {mb : Str → Option Value} {dp : Nat} {un : Nat} {gd : Option (List Code)} {cn : Str} {cs : Scope} {a : Addr} {ccd : Value} {cl : List (Str × Addr)} {outer : List Env} {A₀ : Around} {base : Heap} {h₀ : Heap} {L : Addr} {m : Str → Option Value} {news : List (Addr × Obj)} {s : Shared} {Q : Value → Shared → Prop} {E : Value → Shared → Prop} {D : Addr} {dB : Addr} {Bf : Addr} {dT : Addr} {G : Addr} {Cs : Addr} {dM : Addr} {M : Addr} {R : Addr} {Ls : Addr} {dG : Addr} {Lg : Addr} {Rw : Addr} {β : BT} {pt : Int} {zv : Int} {ti : Int} {ci : Int} {tp : Tok} {tz : Tok} {tt : Tok} {tc : Tok} {x : Int} {y : Int} {tx : Tok} {ty : Tok} (B : Below A₀ base outer h₀) (F : Fr h₀ L s.heap m) (X : (Mine.hd.heap_1 w.params).In h₀) (N : News h₀ L s.heap news) (T : Top p loose mean mg mb h₀) (hk : cs.kind = .function) (hdp : dp ≤ 590) (hun : un ≤ 4900) (mB : (Bf, instObj 361 dB) ∈ news) (mdB : (dB, dictOf (bufD w.params β G M Ls (.int pt tp) (.int zv tz) (.int ti tt) (.int ci tc)) 20) ∈ news) (adr : AdrOk D dB Bf dT G Cs dM M R Ls dG Lg Rw) (k : ∀ h' tk', Fr h₀ L h' m → News h₀ L h' (news) → Q (.none) { s with heap := h', toks := tk' }) : wpAny (model prog w) (ktrTop dp un gd cn cs L a ccd cl outer) (call (.ref 432) [.ref Bf, .int x tx, .int y ty]) Q E s := hung_out_specU (hkl dp [un, a, L, D, dB, Bf, dT, G, Cs, dM, M, R, Ls, dG, Lg, Rw, tp, tz, tt, tc, tx, ty], hkl pt [zv, ti, ci, x, y], hkl ccd [], uVs u0, uIs u0, hkl mg [mb, m], hkl prog [p], hkl w [], hkl Q [E], hkl cn [], hkl s [], uO u0, hkl news [], hkl base [h₀], hkl A₀ [], uSt u0, uGT u0, hkl β [], uLT u0, uMT u0, hkl cs [], hkl gd [], hkl loose [], hkl outer [], hkl mean [], hkl cl [], uB u0, uOA u0, uSm u0, uRs u0, uF u0, uOs u0, uAr u0) B F X N T hk hdp hun mB mdB adr k
set_option maxRecDepth 100000 in
set_option maxHeartbeats 8000000 in
theorem hung_in_specU (v : U) : (fun (prog : Program) (w : World) (p : Program) (loose : List Str) (mean : ExcName → Option Value) (mg : Str → Option Value) (mb : Str → Option Value) (dp : Nat) (un : Nat) (gd : Option (List Code)) (cn : Str) (cs : Scope) (a : Addr) (ccd : Value) (cl : List (Str × Addr)) (outer : List Env) (A₀ : Around) (base : Heap) (h₀ : Heap) (L : Addr) (m : Str → Option Value) (news : List (Addr × Obj)) (s : Shared) (Q : Value → Shared → Prop) (E : Value → Shared → Prop) (D : Addr) (dB : Addr) (Bf : Addr) (dT : Addr) (G : Addr) (Cs : Addr) (dM : Addr) (M : Addr) (R : Addr) (Ls : Addr) (dG : Addr) (Lg : Addr) (Rw : Addr) (β : BT) (pt : Int) (zv : Int) (ti : Int) (ci : Int) (tp : Tok) (tz : Tok) (tt : Tok) (tc : Tok) (x : Int) (y : Int) (tx : Tok) (ty : Tok) (bb : Bool) => ∀ (B : Below A₀ base outer h₀) (F : Fr h₀ L s.heap m) (X : (Mine.hd.heap_1 w.params).In h₀) (N : News h₀ L s.heap news) (T : Top p loose mean mg mb h₀) (hk : cs.kind = .function) (hdp : dp ≤ 590) (hun : un ≤ 4900) (mB : (Bf, instObj 361 dB) ∈ news) (mdB : (dB, dictOf (bufD w.params β G M Ls (.int pt tp) (.int zv tz) (.int ti tt) (.int ci tc)) 20) ∈ news) (adr : AdrOk D dB Bf dT G Cs dM M R Ls dG Lg Rw) (k : ∀ h' tk', Fr h₀ L h' m → News h₀ L h' (news) → Q (.none) { s with heap := h', toks := tk' }), wpAny (model prog w) (ktrTop dp un gd cn cs L a ccd cl outer) (call (.ref 439) [.ref Bf, .int x tx, .int y ty, .bool bb]) Q E s) (uPr v 0) (uW v 0) (uPr v 1) (uSs v 0) (uX v 0) (uM v 0) (uM v 1) (uN v 0) (uN v 1) (uCs v 0) (uS v 0) (uSc v 0) (uN v 2) (uV v 0) (uCl v 0) (uEs v 0) (uA v 0) (uH v 0) (uH v 1) (uN v 3) (uM v 2) (uL v 0) (uSh v 0) (uQ v 0) (uQ v 1) (uN v 4) (uN v 5) (uN v 6) (uN v 7) (uN v 8) (uN v 9) (uN v 10) (uN v 11) (uN v 12) (uN v 13) (uN v 14) (uN v 15) (uN v 16) (uBT v 0) (uI v 0) (uI v 1) (uI v 2) (uI v 3) (uN v 17) (uN v 18) (uN v 19) (uN v 20) (uI v 4) (uI v 5) (uN v 21) (uN v 22) (uB v 0) := by
  revert v
  refine hkU ?_
  generalize ep _ _ = eU
  generalize uPr eU 0 = prog, uW eU 0 = w, uPr eU 1 = p, uSs eU 0 = loose, uX eU 0 = mean, uM eU 0 = mg, uM eU 1 = mb, uN eU 0 = dp, uN eU 1 = un, uCs eU 0 = gd, uS eU 0 = cn, uSc eU 0 = cs, uN eU 2 = a, uV eU 0 = ccd, uCl eU 0 = cl, uEs eU 0 = outer, uA eU 0 = A₀, uH eU 0 = base, uH eU 1 = h₀, uN eU 3 = L, uM eU 2 = m, uL eU 0 = news, uSh eU 0 = s, uQ eU 0 = Q, uQ eU 1 = E, uN eU 4 = D, uN eU 5 = dB, uN eU 6 = Bf, uN eU 7 = dT, uN eU 8 = G, uN eU 9 = Cs, uN eU 10 = dM, uN eU 11 = M, uN eU 12 = R, uN eU 13 = Ls, uN eU 14 = dG, uN eU 15 = Lg, uN eU 16 = Rw, uBT eU 0 = β, uI eU 0 = pt, uI eU 1 = zv, uI eU 2 = ti, uI eU 3 = ci, uN eU 17 = tp, uN eU 18 = tz, uN eU 19 = tt, uN eU 20 = tc, uI eU 4 = x, uI eU 5 = y, uN eU 21 = tx, uN eU 22 = ty, uB eU 0 = bb
  clear eU
  refine fun B F X N T hk hdp hun mB mdB adr k => ?_
  have N1 : News h₀ L s.heap ((Bf, instObj 361 dB) :: (dB, dictOf (bufD w.params β G M Ls (.int pt tp) (.int zv tz) (.int ti tt) (.int ci tc)) 20) :: news) := by
    refine news_cons ?_ N mB
    refine news_cons ?_ N mdB
    exact N
  have k' := k
  clear N k mB mdB
  refine wpAny_call ?_
  k_dflt ktr_enter
  have adr' := adr
  obtain ⟨ad0, ad1, ad2, ad3, ad4, ad5, ad6, ad7, ad8, ad9, ad10, ad11⟩ := adr'
  obtain ⟨al0, al1, al2, al3, al4, al5, al6, al7, al8, al9, al10, al11⟩ := adr_lts adr
  (repeat' (first | (with_reducible (((with_reducible show wpAny _ _ (pyIter (Value.ref _)) (fun it s₂ => LoopAtV _ _ _ _ _ _ _ _ _ it s₂) _ _); (rename Fr _ _ _ _ => lF'); (rename News _ _ _ _ => lN'); (with_unfolding_all refine' iter_listUnr (by rfl) lF' lN' (by k_mem) (by exact rfl) (by exact rfl) ?_); clear lF'; intro i' l1; (try k_lt l1)))) | ((with_reducible show UnrEnd ..); (refine' unrEnd_pull (by k_asm) (by k_asm) (by k_upd) ⟨(by k_mem), ?_⟩)) | (k_unfold; (try dsimp only)) | (k_end; kc_close) | walk1 | (dsimp only; walk1) | (leave1; walk_say "STEP leave1"; (try dsimp only)) | fail "no step"))
  exact k' _ _ (by assumption) (by ktr_rel)
theorem hung_in_spec {prog : Program} {w : World} {p : Program} {loose : List Str} {mean : ExcName → Option Value} {mg : Str → Option Value} {mb : Str → Option Value} {dp : Nat} {un : Nat} {gd : Option (List Code)} {cn : Str} {cs : Scope} {a : Addr} {ccd : Value} {cl : List (Str × Addr)} {outer : List Env} {A₀ : Around} {base : Heap} {h₀ : Heap} {L : Addr} {m : Str → Option Value} {news : List (Addr × Obj)} {s : Shared} {Q : Value → Shared → Prop} {E : Value → Shared → Prop} {D : Addr} {dB : Addr} {Bf : Addr} {dT : Addr} {G : Addr} {Cs : Addr} {dM : Addr} {M : Addr} {R : Addr} {Ls : Addr} {dG : Addr} {Lg : Addr} {Rw : Addr} {β : BT} {pt : Int} {zv : Int} {ti : Int} {ci : Int} {tp : Tok} {tz : Tok} {tt : Tok} {tc : Tok} {x : Int} {y : Int} {tx : Tok} {ty : Tok} {bb : Bool} (B : Below A₀ base outer h₀) (F : Fr h₀ L s.heap m) (X : (Mine.hd.heap_1 w.params).In h₀) (N : News h₀ L s.heap news) (T : Top p loose mean mg mb h₀) (hk : cs.kind = .function) (hdp : dp ≤ 590) (hun : un ≤ 4900) (mB : (Bf, instObj 361 dB) ∈ news) (mdB : (dB, dictOf (bufD w.params β G M Ls (.int pt tp) (.int zv tz) (.int ti tt) (.int ci tc)) 20) ∈ news) (adr : AdrOk D dB Bf dT G Cs dM M R Ls dG Lg Rw) (k : ∀ h' tk', Fr h₀ L h' m → News h₀ L h' (news) → Q (.none) { s with heap := h', toks := tk' }) : wpAny (model prog w) (ktrTop dp un gd cn cs L a ccd cl outer) (call (.ref 439) [.ref Bf, .int x tx, .int y ty, .bool bb]) Q E s := hung_in_specU (hkl dp [un, a, L, D, dB, Bf, dT, G, Cs, dM, M, R, Ls, dG, Lg, Rw, tp, tz, tt, tc, tx, ty], hkl pt [zv, ti, ci, x, y], hkl ccd [], uVs u0, uIs u0, hkl mg [mb, m], hkl prog [p], hkl w [], hkl Q [E], hkl cn [], hkl s [], uO u0, hkl news [], hkl base [h₀], hkl A₀ [], uSt u0, uGT u0, hkl β [], uLT u0, uMT u0, hkl cs [], hkl gd [], hkl loose [], hkl outer [], hkl mean [], hkl cl [], hkl bb [], uOA u0, uSm u0, uRs u0, uF u0, uOs u0, uAr u0) B F X N T hk hdp hun mB mdB adr k
end
end
section
def JStop (P : Prop) : Prop := P
theorem jstop_of {P : Prop} (h : JStop P) : P := h
def JEnd (R : Shared → Prop) (fl : Flow) (s : Shared) : Prop := fl = .next ∧ R s
theorem join_pt {M : Model} {A : Around} {env : Env} {st : Stmt} {rest : List Stmt} {Q : Flow → Shared → Prop} {E : Value → Shared → Prop} {s : Shared} {h₀ : Heap} {L : Addr} {m : Str → Option Value} {news : List (Addr × Obj)} {d : Addr} {P : Params} {β : BT} {G N Ls : Addr} {pt0 : Int} {tp0 : Tok} {zv ti ci : Value} {news' : Int → Tok → List (Addr × Obj)}
  (_F : Fr h₀ L s.heap m) (_N : News h₀ L s.heap news) (_U : ∀ pt tp, Upds [(d, dictOf (bufD P β G N Ls (.int pt0 tp0) zv ti ci) 20, dictOf (bufD P β G N Ls (.int pt tp) zv ti ci) 20)] news (news' pt tp))
  (h1 : ∀ R : Shared → Prop, (∀ pt tp h' tk', Fr h₀ L h' m → News h₀ L h' (news' pt tp) → R { s with heap := h', toks := tk' }) → wpAny M A (exec st env) (JEnd R) E s)
  (h2 : ∀ pt tp h' tk', Fr h₀ L h' m → News h₀ L h' (news' pt tp) → wpAny M A (execs rest env) Q E { s with heap := h', toks := tk' }) :
  wpAny M A (execs (st :: rest) env) Q E s := by
  refine wpAny_execs_cons (wpAny_mono (h1 (fun s' => wpAny M A (execs rest env) Q E s') h2) ?_ fun _ _ h => h)
  intro f s' h
  obtain ⟨e, h⟩ := h
  subst e
  exact h
section
set_option maxRecDepth 100000 in
set_option maxHeartbeats 8000000 in
theorem reached_specU (v : U) : (fun (prog : Program) (w : World) (p : Program) (loose : List Str) (mean : ExcName → Option Value) (mg : Str → Option Value) (mb : Str → Option Value) (dp : Nat) (un : Nat) (gd : Option (List Code)) (cn : Str) (cs : Scope) (a : Addr) (ccd : Value) (cl : List (Str × Addr)) (outer : List Env) (A₀ : Around) (base : Heap) (h₀ : Heap) (L : Addr) (m : Str → Option Value) (news : List (Addr × Obj)) (s : Shared) (Q : Value → Shared → Prop) (E : Value → Shared → Prop) (D : Addr) (dB : Addr) (Bf : Addr) (dT : Addr) (G : Addr) (Cs : Addr) (dM : Addr) (M : Addr) (R : Addr) (Ls : Addr) (dG : Addr) (Lg : Addr) (Rw : Addr) (β : BT) (pt : Int) (zv : Int) (ti : Int) (ci : Int) (tp : Tok) (tz : Tok) (tt : Tok) (tc : Tok) (x : Int) (y : Int) (tx : Tok) (ty : Tok) => ∀ (B : Below A₀ base outer h₀) (F : Fr h₀ L s.heap m) (X : (Mine.hd.heap_1 w.params).In h₀) (N : News h₀ L s.heap news) (T : Top p loose mean mg mb h₀) (hk : cs.kind = .function) (hdp : dp ≤ 590) (hun : un ≤ 4900) (mB : (Bf, instObj 361 dB) ∈ news) (mdB : (dB, dictOf (bufD w.params β G M Ls (.int pt tp) (.int zv tz) (.int ti tt) (.int ci tc)) 20) ∈ news) (adr : AdrOk D dB Bf dT G Cs dM M R Ls dG Lg Rw) (ha0 : 1 ≤ x) (ha1 : x ≤ y) (ha2 : y ≤ zv) (k : ∀ q to1 to2 h' tk', Fr h₀ L h' m → News h₀ L h' ((q, tup2 x y to1 to2) :: news) → AllLt q news → Q (.ref q) { s with heap := h', toks := tk' }), wpAny (model prog w) (ktrTop dp un gd cn cs L a ccd cl outer) (call (.ref 397) [.ref Bf, .int x tx, .int y ty]) Q E s) (uPr v 0) (uW v 0) (uPr v 1) (uSs v 0) (uX v 0) (uM v 0) (uM v 1) (uN v 0) (uN v 1) (uCs v 0) (uS v 0) (uSc v 0) (uN v 2) (uV v 0) (uCl v 0) (uEs v 0) (uA v 0) (uH v 0) (uH v 1) (uN v 3) (uM v 2) (uL v 0) (uSh v 0) (uQ v 0) (uQ v 1) (uN v 4) (uN v 5) (uN v 6) (uN v 7) (uN v 8) (uN v 9) (uN v 10) (uN v 11) (uN v 12) (uN v 13) (uN v 14) (uN v 15) (uN v 16) (uBT v 0) (uI v 0) (uI v 1) (uI v 2) (uI v 3) (uN v 17) (uN v 18) (uN v 19) (uN v 20) (uI v 4) (uI v 5) (uN v 21) (uN v 22) := by
  revert v
  refine hkU ?_
  generalize ep _ _ = eU
  generalize uPr eU 0 = prog, uW eU 0 = w, uPr eU 1 = p, uSs eU 0 = loose, uX eU 0 = mean, uM eU 0 = mg, uM eU 1 = mb, uN eU 0 = dp, uN eU 1 = un, uCs eU 0 = gd, uS eU 0 = cn, uSc eU 0 = cs, uN eU 2 = a, uV eU 0 = ccd, uCl eU 0 = cl, uEs eU 0 = outer, uA eU 0 = A₀, uH eU 0 = base, uH eU 1 = h₀, uN eU 3 = L, uM eU 2 = m, uL eU 0 = news, uSh eU 0 = s, uQ eU 0 = Q, uQ eU 1 = E, uN eU 4 = D, uN eU 5 = dB, uN eU 6 = Bf, uN eU 7 = dT, uN eU 8 = G, uN eU 9 = Cs, uN eU 10 = dM, uN eU 11 = M, uN eU 12 = R, uN eU 13 = Ls, uN eU 14 = dG, uN eU 15 = Lg, uN eU 16 = Rw, uBT eU 0 = β, uI eU 0 = pt, uI eU 1 = zv, uI eU 2 = ti, uI eU 3 = ci, uN eU 17 = tp, uN eU 18 = tz, uN eU 19 = tt, uN eU 20 = tc, uI eU 4 = x, uI eU 5 = y, uN eU 21 = tx, uN eU 22 = ty
  clear eU
  refine fun B F X N T hk hdp hun mB mdB adr ha0 ha1 ha2 k => ?_
  have N1 : News h₀ L s.heap ((Bf, instObj 361 dB) :: (dB, dictOf (bufD w.params β G M Ls (.int pt tp) (.int zv tz) (.int ti tt) (.int ci tc)) 20) :: news) := by
    refine news_cons ?_ N mB
    refine news_cons ?_ N mdB
    exact N
  have k' := k
  clear N k mB mdB
  refine wpAny_call ?_
  k_dflt ktr_enter
  have adr' := adr
  obtain ⟨ad0, ad1, ad2, ad3, ad4, ad5, ad6, ad7, ad8, ad9, ad10, ad11⟩ := adr'
  obtain ⟨al0, al1, al2, al3, al4, al5, al6, al7, al8, al9, al10, al11⟩ := adr_lts adr
  have e1 : (if y < x then y else x) = x := if_neg (by omega)
  have e2 : (if y > x then y else x) = y := by split <;> omega
  (repeat' (first | (with_reducible ((with_reducible show wpAny _ _ (execs (_ :: _) _) _ _ _); ((with_reducible show wpAny _ _ (execs [Stmt.If .., Stmt.Expr .., Stmt.Expr .., Stmt.Expr .., Stmt.Expr .., Stmt.Return ..] _) _ _ _); (refine jstop_of ?_)))) | (with_reducible ((with_reducible show wpAny _ _ (call (Value.builtin "len") _) _ _ _); ((with_unfolding_all (refine' len_ints_fit (by is_list) (by l_ints) (by l_fit) ?_; k_whole)); (try simp only [List.length_append, List.length_cons, List.length_nil, Nat.zero_add])))) | (with_reducible (((with_reducible show wpAny _ _ (pyIter (Value.ref _)) (fun it s₂ => LoopAtV _ _ _ _ _ _ _ _ _ it s₂) _ _); (rename Fr _ _ _ _ => lF'); (rename News _ _ _ _ => lN'); (with_unfolding_all refine' iter_listUnr (by rfl) lF' lN' (by k_mem) (by exact rfl) (by exact rfl) ?_); clear lF'; intro i' l1; (try k_lt l1)))) | ((with_reducible show UnrEnd ..); (refine' unrEnd_pull (by k_asm) (by k_asm) (by k_upd) ⟨(by k_mem), ?_⟩)) | (k_unfold; (try dsimp only)) | (k_end; kc_close) | walk1 | (dsimp only; walk1) | (leave1; walk_say "STEP leave1"; (try dsimp only)) | fail "no step"))
  all_goals (rename News _ _ _ _ => nN9; rw [e1, e2] at nN9; exact k' _ _ _ _ _ (by assumption) (by ktr_rel) (by tb_start))
theorem reached_spec {prog : Program} {w : World} {p : Program} {loose : List Str} {mean : ExcName → Option Value} {mg : Str → Option Value} {mb : Str → Option Value} {dp : Nat} {un : Nat} {gd : Option (List Code)} {cn : Str} {cs : Scope} {a : Addr} {ccd : Value} {cl : List (Str × Addr)} {outer : List Env} {A₀ : Around} {base : Heap} {h₀ : Heap} {L : Addr} {m : Str → Option Value} {news : List (Addr × Obj)} {s : Shared} {Q : Value → Shared → Prop} {E : Value → Shared → Prop} {D : Addr} {dB : Addr} {Bf : Addr} {dT : Addr} {G : Addr} {Cs : Addr} {dM : Addr} {M : Addr} {R : Addr} {Ls : Addr} {dG : Addr} {Lg : Addr} {Rw : Addr} {β : BT} {pt : Int} {zv : Int} {ti : Int} {ci : Int} {tp : Tok} {tz : Tok} {tt : Tok} {tc : Tok} {x : Int} {y : Int} {tx : Tok} {ty : Tok} (B : Below A₀ base outer h₀) (F : Fr h₀ L s.heap m) (X : (Mine.hd.heap_1 w.params).In h₀) (N : News h₀ L s.heap news) (T : Top p loose mean mg mb h₀) (hk : cs.kind = .function) (hdp : dp ≤ 590) (hun : un ≤ 4900) (mB : (Bf, instObj 361 dB) ∈ news) (mdB : (dB, dictOf (bufD w.params β G M Ls (.int pt tp) (.int zv tz) (.int ti tt) (.int ci tc)) 20) ∈ news) (adr : AdrOk D dB Bf dT G Cs dM M R Ls dG Lg Rw) (ha0 : 1 ≤ x) (ha1 : x ≤ y) (ha2 : y ≤ zv) (k : ∀ q to1 to2 h' tk', Fr h₀ L h' m → News h₀ L h' ((q, tup2 x y to1 to2) :: news) → AllLt q news → Q (.ref q) { s with heap := h', toks := tk' }) : wpAny (model prog w) (ktrTop dp un gd cn cs L a ccd cl outer) (call (.ref 397) [.ref Bf, .int x tx, .int y ty]) Q E s := reached_specU (hkl dp [un, a, L, D, dB, Bf, dT, G, Cs, dM, M, R, Ls, dG, Lg, Rw, tp, tz, tt, tc, tx, ty], hkl pt [zv, ti, ci, x, y], hkl ccd [], uVs u0, uIs u0, hkl mg [mb, m], hkl prog [p], hkl w [], hkl Q [E], hkl cn [], hkl s [], uO u0, hkl news [], hkl base [h₀], hkl A₀ [], uSt u0, uGT u0, hkl β [], uLT u0, uMT u0, hkl cs [], hkl gd [], hkl loose [], hkl outer [], hkl mean [], hkl cl [], uB u0, uOA u0, uSm u0, uRs u0, uF u0, uOs u0, uAr u0) B F X N T hk hdp hun mB mdB adr ha0 ha1 ha2 k
set_option maxRecDepth 100000 in
set_option maxHeartbeats 8000000 in
theorem put_in_specU (v : U) : (fun (prog : Program) (w : World) (p : Program) (loose : List Str) (mean : ExcName → Option Value) (mg : Str → Option Value) (mb : Str → Option Value) (dp : Nat) (un : Nat) (gd : Option (List Code)) (cn : Str) (cs : Scope) (a : Addr) (ccd : Value) (cl : List (Str × Addr)) (outer : List Env) (A₀ : Around) (base : Heap) (h₀ : Heap) (L : Addr) (m : Str → Option Value) (news : List (Addr × Obj)) (s : Shared) (Q : Value → Shared → Prop) (E : Value → Shared → Prop) (D : Addr) (dB : Addr) (Bf : Addr) (dT : Addr) (G : Addr) (Cs : Addr) (dM : Addr) (M : Addr) (R : Addr) (Ls : Addr) (dG : Addr) (Lg : Addr) (Rw : Addr) (γ : GT) (vs : List Value) (cells : List Int) (n : Nat) (gs : Int) (ge : Int) (t1 : Tok) (t2 : Tok) (β : BT) (pt : Int) (zv : Int) (ti : Int) (ci : Int) (tp : Tok) (tz : Tok) (tt : Tok) (tc : Tok) (δ : LT) (bv : Value) (ev : Value) (gr : Int) (tg : Tok) (rv : List Value) (nr : Nat) (st : Option (Int × Int)) (μ : MT) (oR : Obj) (nls : Nat) (Lc : Addr) (us : List Value) (ms : List Int) (nl : Nat) (x : Int) (tx : Tok) => ∀ (B : Below A₀ base outer h₀) (F : Fr h₀ L s.heap m) (X : (Mine.hd.heap_1 w.params).In h₀) (N : News h₀ L s.heap news) (T : Top p loose mean mg mb h₀) (hk : cs.kind = .function) (hdp : dp ≤ 560) (hun : un ≤ 4600) (mB : (Bf, instObj 361 dB) ∈ news) (mG : (G, instObj 150 dT) ∈ news) (mM : (M, instObj 220 dM) ∈ news) (mdM : (dM, dictOf (mkD w.params μ R) 1) ∈ news) (mR : (R, oR) ∈ news) (mLs : (Ls, listOf #[.ref Lg] nls) ∈ news) (mLg : (Lg, instObj 59 dG) ∈ news) (mLc : (Lc, listOf us.toArray nl) ∈ news) (mdB : (dB, dictOf (bufD w.params β G M Ls (.int pt tp) (.int zv tz) (.int ti tt) (.int ci tc)) 20) ∈ news) (mdT : (dT, dictOf (gapD w.params γ Cs (.int gs t1) (.int ge t2)) 4) ∈ news) (mCs : (Cs, listOf vs.toArray n) ∈ news) (mdG : (dG, dictOf (logD w.params δ Rw bv ev (.int gr tg)) 4) ∈ news) (mRw : (Rw, listOf rv.toArray nr) ∈ news) (ne_dB_Lc : @Ne Nat dB Lc) (ne_dT_Lc : @Ne Nat dT Lc) (ne_Cs_Lc : @Ne Nat Cs Lc) (ne_dG_Lc : @Ne Nat dG Lc) (ne_Rw_Lc : @Ne Nat Rw Lc) (adr : AdrOk D dB Bf dT G Cs dM M R Ls dG Lg Rw) (hi : IntsAre vs cells) (ok : GapOk cells gs ge) (hr1 : oR.IsDictOf (strKind prog w) []) (hr2 : (R == sysModules) = false) (hst : StV st bv ev) (hrv : rv.length ≤ 900) (hi2 : IntsAre us ms) (hz : cells.length ≤ 600000) (hz2 : ms.length ≤ 1000) (hm1 : 1 ≤ ms.length) (ha0 : 1 ≤ x) (ha1 : x - 1 + (ge - gs) ≤ cells.length) (hzv : zv = (cells.length : Int) - (ge - gs) + 1) (k : ∀ q to1 to2 to3 pt' tp' tz' ti' tt' ci' tc' t1' t2' gs' ge' (vs' : List Value) (cells' : List Int) n' bv' ev' tg' nr' h' tk', Fr h₀ L h' m → NewsAll h₀ L h' [(dB, dictOf (bufD w.params β G M Ls (.int pt tp) (.int zv tz) (.int ti tt) (.int ci tc)) 20, dictOf (bufD w.params β G M Ls (.int pt' tp') (.int (zv + (ms.length : Int)) tz') (.int ti' tt') (.int ci' tc')) 20), (dT, dictOf (gapD w.params γ Cs (.int gs t1) (.int ge t2)) 4, dictOf (gapD w.params γ Cs (.int gs' t1') (.int ge' t2')) 4), (Cs, listOf vs.toArray n, listOf vs'.toArray n'), (dG, dictOf (logD w.params δ Rw bv ev (.int gr tg)) 4, dictOf (logD w.params δ Rw bv' ev' (.int (gr + (x + (ms.length : Int) - x - 0)) tg')) 4), (Rw, listOf rv.toArray nr, listOf (rv ++ [Value.ref q]).toArray nr')] news [(q, tup3 x (x + (ms.length : Int)) 0 to1 to2 to3)] → AllLt q news → IntsAre vs' cells' → GapOk cells' gs' ge' → gapText cells' gs' ge' = (gapText cells gs ge).take (x - 1).toNat ++ ms ++ (gapText cells gs ge).drop (x - 1).toNat → (cells'.length : Int) ≤ cells.length + ms.length + 8 → (cells'.length : Int) - (ge' - gs') = cells.length - (ge - gs) + (x + (ms.length : Int) - x - 0) → StV (stNext st x (x + (ms.length : Int)) (0)) bv' ev' → Q (.none) { s with heap := h', toks := tk' }), wpAny (model prog w) (ktrTop dp un gd cn cs L a ccd cl outer) (call (.ref 446) [.ref Bf, .int x tx, .ref Lc, .bool false, .bool false]) Q E s) (uPr v 0) (uW v 0) (uPr v 1) (uSs v 0) (uX v 0) (uM v 0) (uM v 1) (uN v 0) (uN v 1) (uCs v 0) (uS v 0) (uSc v 0) (uN v 2) (uV v 0) (uCl v 0) (uEs v 0) (uA v 0) (uH v 0) (uH v 1) (uN v 3) (uM v 2) (uL v 0) (uSh v 0) (uQ v 0) (uQ v 1) (uN v 4) (uN v 5) (uN v 6) (uN v 7) (uN v 8) (uN v 9) (uN v 10) (uN v 11) (uN v 12) (uN v 13) (uN v 14) (uN v 15) (uN v 16) (uGT v 0) (uVs v 0) (uIs v 0) (uN v 17) (uI v 0) (uI v 1) (uN v 18) (uN v 19) (uBT v 0) (uI v 2) (uI v 3) (uI v 4) (uI v 5) (uN v 20) (uN v 21) (uN v 22) (uN v 23) (uLT v 0) (uV v 1) (uV v 2) (uI v 6) (uN v 24) (uVs v 1) (uN v 25) (uSt v 0) (uMT v 0) (uO v 0) (uN v 26) (uN v 27) (uVs v 2) (uIs v 1) (uN v 28) (uI v 7) (uN v 29) := by
  revert v
  refine hkU ?_
  generalize ep _ _ = eU
  generalize uPr eU 0 = prog, uW eU 0 = w, uPr eU 1 = p, uSs eU 0 = loose, uX eU 0 = mean, uM eU 0 = mg, uM eU 1 = mb, uN eU 0 = dp, uN eU 1 = un, uCs eU 0 = gd, uS eU 0 = cn, uSc eU 0 = cs, uN eU 2 = a, uV eU 0 = ccd, uCl eU 0 = cl, uEs eU 0 = outer, uA eU 0 = A₀, uH eU 0 = base, uH eU 1 = h₀, uN eU 3 = L, uM eU 2 = m, uL eU 0 = news, uSh eU 0 = s, uQ eU 0 = Q, uQ eU 1 = E, uN eU 4 = D, uN eU 5 = dB, uN eU 6 = Bf, uN eU 7 = dT, uN eU 8 = G, uN eU 9 = Cs, uN eU 10 = dM, uN eU 11 = M, uN eU 12 = R, uN eU 13 = Ls, uN eU 14 = dG, uN eU 15 = Lg, uN eU 16 = Rw, uGT eU 0 = γ, uVs eU 0 = vs, uIs eU 0 = cells, uN eU 17 = n, uI eU 0 = gs, uI eU 1 = ge, uN eU 18 = t1, uN eU 19 = t2, uBT eU 0 = β, uI eU 2 = pt, uI eU 3 = zv, uI eU 4 = ti, uI eU 5 = ci, uN eU 20 = tp, uN eU 21 = tz, uN eU 22 = tt, uN eU 23 = tc, uLT eU 0 = δ, uV eU 1 = bv, uV eU 2 = ev, uI eU 6 = gr, uN eU 24 = tg, uVs eU 1 = rv, uN eU 25 = nr, uSt eU 0 = st, uMT eU 0 = μ, uO eU 0 = oR, uN eU 26 = nls, uN eU 27 = Lc, uVs eU 2 = us, uIs eU 1 = ms, uN eU 28 = nl, uI eU 7 = x, uN eU 29 = tx
  clear eU
  refine fun B F X N T hk hdp hun mB mG mM mdM mR mLs mLg mLc mdB mdT mCs mdG mRw ne_dB_Lc ne_dT_Lc ne_Cs_Lc ne_dG_Lc ne_Rw_Lc adr hi ok hr1 hr2 hst hrv hi2 hz hz2 hm1 ha0 ha1 hzv k => ?_
  have N1 : News h₀ L s.heap ((Bf, instObj 361 dB) :: (G, instObj 150 dT) :: (M, instObj 220 dM) :: (dM, dictOf (mkD w.params μ R) 1) :: (R, oR) :: (Ls, listOf #[.ref Lg] nls) :: (Lg, instObj 59 dG) :: (Lc, listOf us.toArray nl) :: (dB, dictOf (bufD w.params β G M Ls (.int pt tp) (.int zv tz) (.int ti tt) (.int ci tc)) 20) :: (dT, dictOf (gapD w.params γ Cs (.int gs t1) (.int ge t2)) 4) :: (Cs, listOf vs.toArray n) :: (dG, dictOf (logD w.params δ Rw bv ev (.int gr tg)) 4) :: (Rw, listOf rv.toArray nr) :: (restOf [dB, dT, Cs, dG, Rw] news)) := by
    refine news_cons ?_ N mB
    refine news_cons ?_ N mG
    refine news_cons ?_ N mM
    refine news_cons ?_ N mdM
    refine news_cons ?_ N mR
    refine news_cons ?_ N mLs
    refine news_cons ?_ N mLg
    refine news_cons ?_ N mLc
    refine news_cons ?_ N mdB
    refine news_cons ?_ N mdT
    refine news_cons ?_ N mCs
    refine news_cons ?_ N mdG
    refine news_cons ?_ N mRw
    exact news_sub N restOf_in
  have off_dB : Off dB ((restOf [dB, dT, Cs, dG, Rw] news)) := restOf_off (by simp)
  have off_dT : Off dT ((restOf [dB, dT, Cs, dG, Rw] news)) := restOf_off (by simp)
  have off_Cs : Off Cs ((restOf [dB, dT, Cs, dG, Rw] news)) := restOf_off (by simp)
  have off_dG : Off dG ((restOf [dB, dT, Cs, dG, Rw] news)) := restOf_off (by simp)
  have off_Rw : Off Rw ((restOf [dB, dT, Cs, dG, Rw] news)) := restOf_off (by simp)
  have k' : ∀ q to1 to2 to3 pt' tp' tz' ti' tt' ci' tc' t1' t2' gs' ge' (vs' : List Value) (cells' : List Int) n' bv' ev' tg' nr' h' tk', Fr h₀ L h' m → News h₀ L h' ((q, tup3 x (x + (ms.length : Int)) 0 to1 to2 to3) :: (dB, dictOf (bufD w.params β G M Ls (.int pt' tp') (.int (zv + (ms.length : Int)) tz') (.int ti' tt') (.int ci' tc')) 20) :: (dT, dictOf (gapD w.params γ Cs (.int gs' t1') (.int ge' t2')) 4) :: (Cs, listOf vs'.toArray n') :: (dG, dictOf (logD w.params δ Rw bv' ev' (.int (gr + (x + (ms.length : Int) - x - 0)) tg')) 4) :: (Rw, listOf (rv ++ [Value.ref q]).toArray nr') :: (restOf [dB, dT, Cs, dG, Rw] news)) → @LT.lt Nat _ dB q → @LT.lt Nat _ dT q → @LT.lt Nat _ Cs q → @LT.lt Nat _ dG q → @LT.lt Nat _ Rw q → AllLt q ((restOf [dB, dT, Cs, dG, Rw] news)) → IntsAre vs' cells' → GapOk cells' gs' ge' → gapText cells' gs' ge' = (gapText cells gs ge).take (x - 1).toNat ++ ms ++ (gapText cells gs ge).drop (x - 1).toNat → (cells'.length : Int) ≤ cells.length + ms.length + 8 → (cells'.length : Int) - (ge' - gs') = cells.length - (ge - gs) + (x + (ms.length : Int) - x - 0) → StV (stNext st x (x + (ms.length : Int)) (0)) bv' ev' → Q (.none) { s with heap := h', toks := tk' } := by
    intro q to1 to2 to3 pt' tp' tz' ti' tt' ci' tc' t1' t2' gs' ge' vs' cells' n' bv' ev' tg' nr' h' tk' F' N' l0_0 l0_1 l0_2 l0_3 l0_4 lr0 f0 f1 f2 f3 f4 f5
    exact k _ _ _ _ _ _ _ _ _ _ _ _ _ _ _ _ _ _ _ _ _ _ _ _ F' (fun news' U => news_back (fresh := [(q, tup3 x (x + (ms.length : Int)) 0 to1 to2 to3)]) U N') (lt_back (foot := [dB, dT, Cs, dG, Rw]) (fun b hb => by simp only [List.mem_cons, List.not_mem_nil, or_false] at hb; rcases hb with rfl | rfl | rfl | rfl | rfl <;> assumption) lr0) f0 f1 f2 f3 f4 f5
  generalize (restOf [dB, dT, Cs, dG, Rw] news) = rest at *
  clear N k mB mG mM mdM mR mLs mLg mLc mdB mdT mCs mdG mRw
  refine wpAny_call ?_
  k_dflt ktr_enter
  have ok' := ok
  have adr' := adr
  obtain ⟨ok0, ok1, ok2⟩ := ok'
  obtain ⟨ad0, ad1, ad2, ad3, ad4, ad5, ad6, ad7, ad8, ad9, ad10, ad11⟩ := adr'
  obtain ⟨al0, al1, al2, al3, al4, al5, al6, al7, al8, al9, al10, al11⟩ := adr_lts adr
  (repeat' (first | (with_reducible ((with_reducible show wpAny _ _ (execs (_ :: _) _) _ _ _); ((with_reducible show wpAny _ _ (execs [Stmt.If .., Stmt.Expr .., Stmt.Expr .., Stmt.Expr .., Stmt.Expr .., Stmt.Return ..] _) _ _ _); (refine jstop_of ?_)))) | (with_reducible ((with_reducible show wpAny _ _ (call (Value.builtin "len") _) _ _ _); ((with_unfolding_all (refine' len_ints_fit (by is_list) (by l_ints) (by l_fit) ?_; k_whole)); (try simp only [List.length_append, List.length_cons, List.length_nil, Nat.zero_add])))) | (with_reducible (((with_reducible show wpAny _ _ (pyIter (Value.ref _)) (fun it s₂ => LoopAtV _ _ _ _ _ _ _ _ _ it s₂) _ _); (rename Fr _ _ _ _ => lF'); (rename News _ _ _ _ => lN'); (with_unfolding_all refine' iter_listUnr (by rfl) lF' lN' (by k_mem) (by exact rfl) (by exact rfl) ?_); clear lF'; intro i' l1; (try k_lt l1)))) | ((with_reducible show UnrEnd ..); (refine' unrEnd_pull (by k_asm) (by k_asm) (by k_upd) ⟨(by k_mem), ?_⟩)) | (k_unfold; (try dsimp only)) | (k_end; kc_close) | walk1 | (dsimp only; walk1) | (leave1; walk_say "STEP leave1"; (try dsimp only)) | fail "no step"))
  exact k' _ _ _ _ _ _ _ _ _ _ _ _ _ _ _ _ _ _ _ _ _ _ _ _ (by assumption) (by ktr_rel) (by tb_start) (by tb_start) (by tb_start) (by tb_start) (by tb_start) (by tb_start) (by assumption) (by assumption) (by assumption) (by assumption) (by omega) (by assumption)
theorem put_in_spec {prog : Program} {w : World} {p : Program} {loose : List Str} {mean : ExcName → Option Value} {mg : Str → Option Value} {mb : Str → Option Value} {dp : Nat} {un : Nat} {gd : Option (List Code)} {cn : Str} {cs : Scope} {a : Addr} {ccd : Value} {cl : List (Str × Addr)} {outer : List Env} {A₀ : Around} {base : Heap} {h₀ : Heap} {L : Addr} {m : Str → Option Value} {news : List (Addr × Obj)} {s : Shared} {Q : Value → Shared → Prop} {E : Value → Shared → Prop} {D : Addr} {dB : Addr} {Bf : Addr} {dT : Addr} {G : Addr} {Cs : Addr} {dM : Addr} {M : Addr} {R : Addr} {Ls : Addr} {dG : Addr} {Lg : Addr} {Rw : Addr} {γ : GT} {vs : List Value} {cells : List Int} {n : Nat} {gs : Int} {ge : Int} {t1 : Tok} {t2 : Tok} {β : BT} {pt : Int} {zv : Int} {ti : Int} {ci : Int} {tp : Tok} {tz : Tok} {tt : Tok} {tc : Tok} {δ : LT} {bv : Value} {ev : Value} {gr : Int} {tg : Tok} {rv : List Value} {nr : Nat} {st : Option (Int × Int)} {μ : MT} {oR : Obj} {nls : Nat} {Lc : Addr} {us : List Value} {ms : List Int} {nl : Nat} {x : Int} {tx : Tok} (B : Below A₀ base outer h₀) (F : Fr h₀ L s.heap m) (X : (Mine.hd.heap_1 w.params).In h₀) (N : News h₀ L s.heap news) (T : Top p loose mean mg mb h₀) (hk : cs.kind = .function) (hdp : dp ≤ 560) (hun : un ≤ 4600) (mB : (Bf, instObj 361 dB) ∈ news) (mG : (G, instObj 150 dT) ∈ news) (mM : (M, instObj 220 dM) ∈ news) (mdM : (dM, dictOf (mkD w.params μ R) 1) ∈ news) (mR : (R, oR) ∈ news) (mLs : (Ls, listOf #[.ref Lg] nls) ∈ news) (mLg : (Lg, instObj 59 dG) ∈ news) (mLc : (Lc, listOf us.toArray nl) ∈ news) (mdB : (dB, dictOf (bufD w.params β G M Ls (.int pt tp) (.int zv tz) (.int ti tt) (.int ci tc)) 20) ∈ news) (mdT : (dT, dictOf (gapD w.params γ Cs (.int gs t1) (.int ge t2)) 4) ∈ news) (mCs : (Cs, listOf vs.toArray n) ∈ news) (mdG : (dG, dictOf (logD w.params δ Rw bv ev (.int gr tg)) 4) ∈ news) (mRw : (Rw, listOf rv.toArray nr) ∈ news) (ne_dB_Lc : @Ne Nat dB Lc) (ne_dT_Lc : @Ne Nat dT Lc) (ne_Cs_Lc : @Ne Nat Cs Lc) (ne_dG_Lc : @Ne Nat dG Lc) (ne_Rw_Lc : @Ne Nat Rw Lc) (adr : AdrOk D dB Bf dT G Cs dM M R Ls dG Lg Rw) (hi : IntsAre vs cells) (ok : GapOk cells gs ge) (hr1 : oR.IsDictOf (strKind prog w) []) (hr2 : (R == sysModules) = false) (hst : StV st bv ev) (hrv : rv.length ≤ 900) (hi2 : IntsAre us ms) (hz : cells.length ≤ 600000) (hz2 : ms.length ≤ 1000) (hm1 : 1 ≤ ms.length) (ha0 : 1 ≤ x) (ha1 : x - 1 + (ge - gs) ≤ cells.length) (hzv : zv = (cells.length : Int) - (ge - gs) + 1) (k : ∀ q to1 to2 to3 pt' tp' tz' ti' tt' ci' tc' t1' t2' gs' ge' (vs' : List Value) (cells' : List Int) n' bv' ev' tg' nr' h' tk', Fr h₀ L h' m → NewsAll h₀ L h' [(dB, dictOf (bufD w.params β G M Ls (.int pt tp) (.int zv tz) (.int ti tt) (.int ci tc)) 20, dictOf (bufD w.params β G M Ls (.int pt' tp') (.int (zv + (ms.length : Int)) tz') (.int ti' tt') (.int ci' tc')) 20), (dT, dictOf (gapD w.params γ Cs (.int gs t1) (.int ge t2)) 4, dictOf (gapD w.params γ Cs (.int gs' t1') (.int ge' t2')) 4), (Cs, listOf vs.toArray n, listOf vs'.toArray n'), (dG, dictOf (logD w.params δ Rw bv ev (.int gr tg)) 4, dictOf (logD w.params δ Rw bv' ev' (.int (gr + (x + (ms.length : Int) - x - 0)) tg')) 4), (Rw, listOf rv.toArray nr, listOf (rv ++ [Value.ref q]).toArray nr')] news [(q, tup3 x (x + (ms.length : Int)) 0 to1 to2 to3)] → AllLt q news → IntsAre vs' cells' → GapOk cells' gs' ge' → gapText cells' gs' ge' = (gapText cells gs ge).take (x - 1).toNat ++ ms ++ (gapText cells gs ge).drop (x - 1).toNat → (cells'.length : Int) ≤ cells.length + ms.length + 8 → (cells'.length : Int) - (ge' - gs') = cells.length - (ge - gs) + (x + (ms.length : Int) - x - 0) → StV (stNext st x (x + (ms.length : Int)) (0)) bv' ev' → Q (.none) { s with heap := h', toks := tk' }) : wpAny (model prog w) (ktrTop dp un gd cn cs L a ccd cl outer) (call (.ref 446) [.ref Bf, .int x tx, .ref Lc, .bool false, .bool false]) Q E s := put_in_specU (hkl dp [un, a, L, D, dB, Bf, dT, G, Cs, dM, M, R, Ls, dG, Lg, Rw, n, t1, t2, tp, tz, tt, tc, tg, nr, nls, Lc, nl, tx], hkl gs [ge, pt, zv, ti, ci, gr, x], hkl ccd [bv, ev], hkl vs [rv, us], hkl cells [ms], hkl mg [mb, m], hkl prog [p], hkl w [], hkl Q [E], hkl cn [], hkl s [], hkl oR [], hkl news [], hkl base [h₀], hkl A₀ [], hkl st [], hkl γ [], hkl β [], hkl δ [], hkl μ [], hkl cs [], hkl gd [], hkl loose [], hkl outer [], hkl mean [], hkl cl [], uB u0, uOA u0, uSm u0, uRs u0, uF u0, uOs u0, uAr u0) B F X N T hk hdp hun mB mG mM mdM mR mLs mLg mLc mdB mdT mCs mdG mRw ne_dB_Lc ne_dT_Lc ne_Cs_Lc ne_dG_Lc ne_Rw_Lc adr hi ok hr1 hr2 hst hrv hi2 hz hz2 hm1 ha0 ha1 hzv k
set_option maxRecDepth 100000 in
set_option maxHeartbeats 8000000 in
theorem put_nil_specU (v : U) : (fun (prog : Program) (w : World) (p : Program) (loose : List Str) (mean : ExcName → Option Value) (mg : Str → Option Value) (mb : Str → Option Value) (dp : Nat) (un : Nat) (gd : Option (List Code)) (cn : Str) (cs : Scope) (a : Addr) (ccd : Value) (cl : List (Str × Addr)) (outer : List Env) (A₀ : Around) (base : Heap) (h₀ : Heap) (L : Addr) (m : Str → Option Value) (news : List (Addr × Obj)) (s : Shared) (Q : Value → Shared → Prop) (E : Value → Shared → Prop) (D : Addr) (dB : Addr) (Bf : Addr) (dT : Addr) (G : Addr) (Cs : Addr) (dM : Addr) (M : Addr) (R : Addr) (Ls : Addr) (dG : Addr) (Lg : Addr) (Rw : Addr) (β : BT) (pt : Int) (zv : Int) (ti : Int) (ci : Int) (tp : Tok) (tz : Tok) (tt : Tok) (tc : Tok) (Lc : Addr) (us : List Value) (ms : List Int) (nl : Nat) (x : Int) (tx : Tok) => ∀ (B : Below A₀ base outer h₀) (F : Fr h₀ L s.heap m) (X : (Mine.hd.heap_1 w.params).In h₀) (N : News h₀ L s.heap news) (T : Top p loose mean mg mb h₀) (hk : cs.kind = .function) (hdp : dp ≤ 560) (hun : un ≤ 4600) (mB : (Bf, instObj 361 dB) ∈ news) (mdB : (dB, dictOf (bufD w.params β G M Ls (.int pt tp) (.int zv tz) (.int ti tt) (.int ci tc)) 20) ∈ news) (mLc : (Lc, listOf us.toArray nl) ∈ news) (adr : AdrOk D dB Bf dT G Cs dM M R Ls dG Lg Rw) (hi2 : IntsAre us ms) (hm1 : ms.length = 0) (ha0 : 1 ≤ x) (ha1 : x ≤ zv) (k : ∀ h' tk', Fr h₀ L h' m → News h₀ L h' (news) → Q (.none) { s with heap := h', toks := tk' }), wpAny (model prog w) (ktrTop dp un gd cn cs L a ccd cl outer) (call (.ref 446) [.ref Bf, .int x tx, .ref Lc, .bool false, .bool false]) Q E s) (uPr v 0) (uW v 0) (uPr v 1) (uSs v 0) (uX v 0) (uM v 0) (uM v 1) (uN v 0) (uN v 1) (uCs v 0) (uS v 0) (uSc v 0) (uN v 2) (uV v 0) (uCl v 0) (uEs v 0) (uA v 0) (uH v 0) (uH v 1) (uN v 3) (uM v 2) (uL v 0) (uSh v 0) (uQ v 0) (uQ v 1) (uN v 4) (uN v 5) (uN v 6) (uN v 7) (uN v 8) (uN v 9) (uN v 10) (uN v 11) (uN v 12) (uN v 13) (uN v 14) (uN v 15) (uN v 16) (uBT v 0) (uI v 0) (uI v 1) (uI v 2) (uI v 3) (uN v 17) (uN v 18) (uN v 19) (uN v 20) (uN v 21) (uVs v 0) (uIs v 0) (uN v 22) (uI v 4) (uN v 23) := by
  revert v
  refine hkU ?_
  generalize ep _ _ = eU
  generalize uPr eU 0 = prog, uW eU 0 = w, uPr eU 1 = p, uSs eU 0 = loose, uX eU 0 = mean, uM eU 0 = mg, uM eU 1 = mb, uN eU 0 = dp, uN eU 1 = un, uCs eU 0 = gd, uS eU 0 = cn, uSc eU 0 = cs, uN eU 2 = a, uV eU 0 = ccd, uCl eU 0 = cl, uEs eU 0 = outer, uA eU 0 = A₀, uH eU 0 = base, uH eU 1 = h₀, uN eU 3 = L, uM eU 2 = m, uL eU 0 = news, uSh eU 0 = s, uQ eU 0 = Q, uQ eU 1 = E, uN eU 4 = D, uN eU 5 = dB, uN eU 6 = Bf, uN eU 7 = dT, uN eU 8 = G, uN eU 9 = Cs, uN eU 10 = dM, uN eU 11 = M, uN eU 12 = R, uN eU 13 = Ls, uN eU 14 = dG, uN eU 15 = Lg, uN eU 16 = Rw, uBT eU 0 = β, uI eU 0 = pt, uI eU 1 = zv, uI eU 2 = ti, uI eU 3 = ci, uN eU 17 = tp, uN eU 18 = tz, uN eU 19 = tt, uN eU 20 = tc, uN eU 21 = Lc, uVs eU 0 = us, uIs eU 0 = ms, uN eU 22 = nl, uI eU 4 = x, uN eU 23 = tx
  clear eU
  refine fun B F X N T hk hdp hun mB mdB mLc adr hi2 hm1 ha0 ha1 k => ?_
  have N1 : News h₀ L s.heap ((Bf, instObj 361 dB) :: (dB, dictOf (bufD w.params β G M Ls (.int pt tp) (.int zv tz) (.int ti tt) (.int ci tc)) 20) :: (Lc, listOf us.toArray nl) :: news) := by
    refine news_cons ?_ N mB
    refine news_cons ?_ N mdB
    refine news_cons ?_ N mLc
    exact N
  have k' := k
  clear N k mB mdB mLc
  refine wpAny_call ?_
  k_dflt ktr_enter
  have adr' := adr
  obtain ⟨ad0, ad1, ad2, ad3, ad4, ad5, ad6, ad7, ad8, ad9, ad10, ad11⟩ := adr'
  obtain ⟨al0, al1, al2, al3, al4, al5, al6, al7, al8, al9, al10, al11⟩ := adr_lts adr
  have hm0 : ms = [] := List.eq_nil_of_length_eq_zero hm1
  subst hm0
  cases hi2
  (repeat' (first | (with_reducible ((with_reducible show wpAny _ _ (execs (_ :: _) _) _ _ _); ((with_reducible show wpAny _ _ (execs [Stmt.If .., Stmt.Expr .., Stmt.Expr .., Stmt.Expr .., Stmt.Expr .., Stmt.Return ..] _) _ _ _); (refine jstop_of ?_)))) | (with_reducible ((with_reducible show wpAny _ _ (call (Value.builtin "len") _) _ _ _); ((with_unfolding_all (refine' len_ints_fit (by is_list) (by l_ints) (by l_fit) ?_; k_whole)); (try simp only [List.length_append, List.length_cons, List.length_nil, Nat.zero_add])))) | (with_reducible (((with_reducible show wpAny _ _ (pyIter (Value.ref _)) (fun it s₂ => LoopAtV _ _ _ _ _ _ _ _ _ it s₂) _ _); (rename Fr _ _ _ _ => lF'); (rename News _ _ _ _ => lN'); (with_unfolding_all refine' iter_listUnr (by rfl) lF' lN' (by k_mem) (by exact rfl) (by exact rfl) ?_); clear lF'; intro i' l1; (try k_lt l1)))) | ((with_reducible show UnrEnd ..); (refine' unrEnd_pull (by k_asm) (by k_asm) (by k_upd) ⟨(by k_mem), ?_⟩)) | (k_unfold; (try dsimp only)) | (k_end; kc_close) | walk1 | (dsimp only; walk1) | (leave1; walk_say "STEP leave1"; (try dsimp only)) | fail "no step"))
  exact k' _ _ (by assumption) (by ktr_rel)
theorem put_nil_spec {prog : Program} {w : World} {p : Program} {loose : List Str} {mean : ExcName → Option Value} {mg : Str → Option Value} {mb : Str → Option Value} {dp : Nat} {un : Nat} {gd : Option (List Code)} {cn : Str} {cs : Scope} {a : Addr} {ccd : Value} {cl : List (Str × Addr)} {outer : List Env} {A₀ : Around} {base : Heap} {h₀ : Heap} {L : Addr} {m : Str → Option Value} {news : List (Addr × Obj)} {s : Shared} {Q : Value → Shared → Prop} {E : Value → Shared → Prop} {D : Addr} {dB : Addr} {Bf : Addr} {dT : Addr} {G : Addr} {Cs : Addr} {dM : Addr} {M : Addr} {R : Addr} {Ls : Addr} {dG : Addr} {Lg : Addr} {Rw : Addr} {β : BT} {pt : Int} {zv : Int} {ti : Int} {ci : Int} {tp : Tok} {tz : Tok} {tt : Tok} {tc : Tok} {Lc : Addr} {us : List Value} {ms : List Int} {nl : Nat} {x : Int} {tx : Tok} (B : Below A₀ base outer h₀) (F : Fr h₀ L s.heap m) (X : (Mine.hd.heap_1 w.params).In h₀) (N : News h₀ L s.heap news) (T : Top p loose mean mg mb h₀) (hk : cs.kind = .function) (hdp : dp ≤ 560) (hun : un ≤ 4600) (mB : (Bf, instObj 361 dB) ∈ news) (mdB : (dB, dictOf (bufD w.params β G M Ls (.int pt tp) (.int zv tz) (.int ti tt) (.int ci tc)) 20) ∈ news) (mLc : (Lc, listOf us.toArray nl) ∈ news) (adr : AdrOk D dB Bf dT G Cs dM M R Ls dG Lg Rw) (hi2 : IntsAre us ms) (hm1 : ms.length = 0) (ha0 : 1 ≤ x) (ha1 : x ≤ zv) (k : ∀ h' tk', Fr h₀ L h' m → News h₀ L h' (news) → Q (.none) { s with heap := h', toks := tk' }) : wpAny (model prog w) (ktrTop dp un gd cn cs L a ccd cl outer) (call (.ref 446) [.ref Bf, .int x tx, .ref Lc, .bool false, .bool false]) Q E s := put_nil_specU (hkl dp [un, a, L, D, dB, Bf, dT, G, Cs, dM, M, R, Ls, dG, Lg, Rw, tp, tz, tt, tc, Lc, nl, tx], hkl pt [zv, ti, ci, x], hkl ccd [], hkl us [], hkl ms [], hkl mg [mb, m], hkl prog [p], hkl w [], hkl Q [E], hkl cn [], hkl s [], uO u0, hkl news [], hkl base [h₀], hkl A₀ [], uSt u0, uGT u0, hkl β [], uLT u0, uMT u0, hkl cs [], hkl gd [], hkl loose [], hkl outer [], hkl mean [], hkl cl [], uB u0, uOA u0, uSm u0, uRs u0, uF u0, uOs u0, uAr u0) B F X N T hk hdp hun mB mdB mLc adr hi2 hm1 ha0 ha1 k
set_option maxRecDepth 100000 in
set_option maxHeartbeats 8000000 in
theorem delete_ed_specU (v : U) : (fun (prog : Program) (w : World) (p : Program) (loose : List Str) (mean : ExcName → Option Value) (mg : Str → Option Value) (mb : Str → Option Value) (dp : Nat) (un : Nat) (gd : Option (List Code)) (cn : Str) (cs : Scope) (a : Addr) (ccd : Value) (cl : List (Str × Addr)) (outer : List Env) (A₀ : Around) (base : Heap) (h₀ : Heap) (L : Addr) (m : Str → Option Value) (news : List (Addr × Obj)) (s : Shared) (Q : Value → Shared → Prop) (E : Value → Shared → Prop) (D : Addr) (dB : Addr) (Bf : Addr) (dT : Addr) (G : Addr) (Cs : Addr) (dM : Addr) (M : Addr) (R : Addr) (Ls : Addr) (dG : Addr) (Lg : Addr) (Rw : Addr) (γ : GT) (vs : List Value) (cells : List Int) (n : Nat) (gs : Int) (ge : Int) (t1 : Tok) (t2 : Tok) (β : BT) (pt : Int) (zv : Int) (ti : Int) (ci : Int) (tp : Tok) (tz : Tok) (tt : Tok) (tc : Tok) (δ : LT) (bv : Value) (ev : Value) (gr : Int) (tg : Tok) (rv : List Value) (nr : Nat) (st : Option (Int × Int)) (μ : MT) (oR : Obj) (nls : Nat) (x : Int) (y : Int) (tx : Tok) (ty : Tok) => ∀ (B : Below A₀ base outer h₀) (F : Fr h₀ L s.heap m) (X : (Mine.hd.heap_1 w.params).In h₀) (N : News h₀ L s.heap news) (T : Top p loose mean mg mb h₀) (hk : cs.kind = .function) (hdp : dp ≤ 560) (hun : un ≤ 4600) (mB : (Bf, instObj 361 dB) ∈ news) (mG : (G, instObj 150 dT) ∈ news) (mM : (M, instObj 220 dM) ∈ news) (mdM : (dM, dictOf (mkD w.params μ R) 1) ∈ news) (mR : (R, oR) ∈ news) (mLs : (Ls, listOf #[.ref Lg] nls) ∈ news) (mLg : (Lg, instObj 59 dG) ∈ news) (mdB : (dB, dictOf (bufD w.params β G M Ls (.int pt tp) (.int zv tz) (.int ti tt) (.int ci tc)) 20) ∈ news) (mdT : (dT, dictOf (gapD w.params γ Cs (.int gs t1) (.int ge t2)) 4) ∈ news) (mCs : (Cs, listOf vs.toArray n) ∈ news) (mdG : (dG, dictOf (logD w.params δ Rw bv ev (.int gr tg)) 4) ∈ news) (mRw : (Rw, listOf rv.toArray nr) ∈ news) (adr : AdrOk D dB Bf dT G Cs dM M R Ls dG Lg Rw) (hi : IntsAre vs cells) (ok : GapOk cells gs ge) (hr1 : oR.IsDictOf (strKind prog w) []) (hr2 : (R == sysModules) = false) (hst : StV st bv ev) (hrv : rv.length ≤ 900) (hz : cells.length ≤ 600000) (ha0 : 1 ≤ x) (hm1 : x < y) (ha1 : y - 1 + (ge - gs) ≤ cells.length) (hzv : zv = (cells.length : Int) - (ge - gs) + 1) (k : ∀ q q2 (ws : List Value) n2' to1 to2 to3 pt' tp' tz' ti' tt' ci' tc' t1' t2' gs' ge' (vs' : List Value) (cells' : List Int) n' bv' ev' tg' nr' h' tk', Fr h₀ L h' m → NewsAll h₀ L h' [(dB, dictOf (bufD w.params β G M Ls (.int pt tp) (.int zv tz) (.int ti tt) (.int ci tc)) 20, dictOf (bufD w.params β G M Ls (.int pt' tp') (.int (zv - (y - x)) tz') (.int ti' tt') (.int ci' tc')) 20), (dT, dictOf (gapD w.params γ Cs (.int gs t1) (.int ge t2)) 4, dictOf (gapD w.params γ Cs (.int gs' t1') (.int ge' t2')) 4), (Cs, listOf vs.toArray n, listOf vs'.toArray n'), (dG, dictOf (logD w.params δ Rw bv ev (.int gr tg)) 4, dictOf (logD w.params δ Rw bv' ev' (.int (gr + (x - x - (y - x))) tg')) 4), (Rw, listOf rv.toArray nr, listOf (rv ++ [Value.ref q]).toArray nr')] news [(q, tup3 x x (y - x) to1 to2 to3), (q2, listOf ws.toArray n2')] → AllLt q news → AllLt q2 news → IntsAre vs' cells' → GapOk cells' gs' ge' → gapText cells' gs' ge' = (gapText cells gs ge).take (x - 1).toNat ++ (gapText cells gs ge).drop (y - 1).toNat → (cells'.length : Int) ≤ cells.length + 0 + 8 → (cells'.length : Int) - (ge' - gs') = cells.length - (ge - gs) + (x - x - (y - x)) → StV (stNext st x (x) ((y - x))) bv' ev' → Q (.ref q2) { s with heap := h', toks := tk' }), wpAny (model prog w) (ktrTop dp un gd cn cs L a ccd cl outer) (call (.ref 461) [.ref Bf, .int x tx, .int y ty]) Q E s) (uPr v 0) (uW v 0) (uPr v 1) (uSs v 0) (uX v 0) (uM v 0) (uM v 1) (uN v 0) (uN v 1) (uCs v 0) (uS v 0) (uSc v 0) (uN v 2) (uV v 0) (uCl v 0) (uEs v 0) (uA v 0) (uH v 0) (uH v 1) (uN v 3) (uM v 2) (uL v 0) (uSh v 0) (uQ v 0) (uQ v 1) (uN v 4) (uN v 5) (uN v 6) (uN v 7) (uN v 8) (uN v 9) (uN v 10) (uN v 11) (uN v 12) (uN v 13) (uN v 14) (uN v 15) (uN v 16) (uGT v 0) (uVs v 0) (uIs v 0) (uN v 17) (uI v 0) (uI v 1) (uN v 18) (uN v 19) (uBT v 0) (uI v 2) (uI v 3) (uI v 4) (uI v 5) (uN v 20) (uN v 21) (uN v 22) (uN v 23) (uLT v 0) (uV v 1) (uV v 2) (uI v 6) (uN v 24) (uVs v 1) (uN v 25) (uSt v 0) (uMT v 0) (uO v 0) (uN v 26) (uI v 7) (uI v 8) (uN v 27) (uN v 28) := by
  revert v
  refine hkU ?_
  generalize ep _ _ = eU
  generalize uPr eU 0 = prog, uW eU 0 = w, uPr eU 1 = p, uSs eU 0 = loose, uX eU 0 = mean, uM eU 0 = mg, uM eU 1 = mb, uN eU 0 = dp, uN eU 1 = un, uCs eU 0 = gd, uS eU 0 = cn, uSc eU 0 = cs, uN eU 2 = a, uV eU 0 = ccd, uCl eU 0 = cl, uEs eU 0 = outer, uA eU 0 = A₀, uH eU 0 = base, uH eU 1 = h₀, uN eU 3 = L, uM eU 2 = m, uL eU 0 = news, uSh eU 0 = s, uQ eU 0 = Q, uQ eU 1 = E, uN eU 4 = D, uN eU 5 = dB, uN eU 6 = Bf, uN eU 7 = dT, uN eU 8 = G, uN eU 9 = Cs, uN eU 10 = dM, uN eU 11 = M, uN eU 12 = R, uN eU 13 = Ls, uN eU 14 = dG, uN eU 15 = Lg, uN eU 16 = Rw, uGT eU 0 = γ, uVs eU 0 = vs, uIs eU 0 = cells, uN eU 17 = n, uI eU 0 = gs, uI eU 1 = ge, uN eU 18 = t1, uN eU 19 = t2, uBT eU 0 = β, uI eU 2 = pt, uI eU 3 = zv, uI eU 4 = ti, uI eU 5 = ci, uN eU 20 = tp, uN eU 21 = tz, uN eU 22 = tt, uN eU 23 = tc, uLT eU 0 = δ, uV eU 1 = bv, uV eU 2 = ev, uI eU 6 = gr, uN eU 24 = tg, uVs eU 1 = rv, uN eU 25 = nr, uSt eU 0 = st, uMT eU 0 = μ, uO eU 0 = oR, uN eU 26 = nls, uI eU 7 = x, uI eU 8 = y, uN eU 27 = tx, uN eU 28 = ty
  clear eU
  refine fun B F X N T hk hdp hun mB mG mM mdM mR mLs mLg mdB mdT mCs mdG mRw adr hi ok hr1 hr2 hst hrv hz ha0 hm1 ha1 hzv k => ?_
  have N1 : News h₀ L s.heap ((Bf, instObj 361 dB) :: (G, instObj 150 dT) :: (M, instObj 220 dM) :: (dM, dictOf (mkD w.params μ R) 1) :: (R, oR) :: (Ls, listOf #[.ref Lg] nls) :: (Lg, instObj 59 dG) :: (dB, dictOf (bufD w.params β G M Ls (.int pt tp) (.int zv tz) (.int ti tt) (.int ci tc)) 20) :: (dT, dictOf (gapD w.params γ Cs (.int gs t1) (.int ge t2)) 4) :: (Cs, listOf vs.toArray n) :: (dG, dictOf (logD w.params δ Rw bv ev (.int gr tg)) 4) :: (Rw, listOf rv.toArray nr) :: (restOf [dB, dT, Cs, dG, Rw] news)) := by
    refine news_cons ?_ N mB
    refine news_cons ?_ N mG
    refine news_cons ?_ N mM
    refine news_cons ?_ N mdM
    refine news_cons ?_ N mR
    refine news_cons ?_ N mLs
    refine news_cons ?_ N mLg
    refine news_cons ?_ N mdB
    refine news_cons ?_ N mdT
    refine news_cons ?_ N mCs
    refine news_cons ?_ N mdG
    refine news_cons ?_ N mRw
    exact news_sub N restOf_in
  have off_dB : Off dB ((restOf [dB, dT, Cs, dG, Rw] news)) := restOf_off (by simp)
  have off_dT : Off dT ((restOf [dB, dT, Cs, dG, Rw] news)) := restOf_off (by simp)
  have off_Cs : Off Cs ((restOf [dB, dT, Cs, dG, Rw] news)) := restOf_off (by simp)
  have off_dG : Off dG ((restOf [dB, dT, Cs, dG, Rw] news)) := restOf_off (by simp)
  have off_Rw : Off Rw ((restOf [dB, dT, Cs, dG, Rw] news)) := restOf_off (by simp)
  have k' : ∀ q q2 (ws : List Value) n2' to1 to2 to3 pt' tp' tz' ti' tt' ci' tc' t1' t2' gs' ge' (vs' : List Value) (cells' : List Int) n' bv' ev' tg' nr' h' tk', Fr h₀ L h' m → News h₀ L h' ((q, tup3 x x (y - x) to1 to2 to3) :: (q2, listOf ws.toArray n2') :: (dB, dictOf (bufD w.params β G M Ls (.int pt' tp') (.int (zv - (y - x)) tz') (.int ti' tt') (.int ci' tc')) 20) :: (dT, dictOf (gapD w.params γ Cs (.int gs' t1') (.int ge' t2')) 4) :: (Cs, listOf vs'.toArray n') :: (dG, dictOf (logD w.params δ Rw bv' ev' (.int (gr + (x - x - (y - x))) tg')) 4) :: (Rw, listOf (rv ++ [Value.ref q]).toArray nr') :: (restOf [dB, dT, Cs, dG, Rw] news)) → @LT.lt Nat _ dB q → @LT.lt Nat _ dT q → @LT.lt Nat _ Cs q → @LT.lt Nat _ dG q → @LT.lt Nat _ Rw q → AllLt q ((restOf [dB, dT, Cs, dG, Rw] news)) → @LT.lt Nat _ dB q2 → @LT.lt Nat _ dT q2 → @LT.lt Nat _ Cs q2 → @LT.lt Nat _ dG q2 → @LT.lt Nat _ Rw q2 → AllLt q2 ((restOf [dB, dT, Cs, dG, Rw] news)) → IntsAre vs' cells' → GapOk cells' gs' ge' → gapText cells' gs' ge' = (gapText cells gs ge).take (x - 1).toNat ++ (gapText cells gs ge).drop (y - 1).toNat → (cells'.length : Int) ≤ cells.length + 0 + 8 → (cells'.length : Int) - (ge' - gs') = cells.length - (ge - gs) + (x - x - (y - x)) → StV (stNext st x (x) ((y - x))) bv' ev' → Q (.ref q2) { s with heap := h', toks := tk' } := by
    intro q q2 ws n2' to1 to2 to3 pt' tp' tz' ti' tt' ci' tc' t1' t2' gs' ge' vs' cells' n' bv' ev' tg' nr' h' tk' F' N' l0_0 l0_1 l0_2 l0_3 l0_4 lr0 l1_0 l1_1 l1_2 l1_3 l1_4 lr1 f0 f1 f2 f3 f4 f5
    exact k _ _ _ _ _ _ _ _ _ _ _ _ _ _ _ _ _ _ _ _ _ _ _ _ _ _ _ F' (fun news' U => news_back (fresh := [(q, tup3 x x (y - x) to1 to2 to3), (q2, listOf ws.toArray n2')]) U N') (lt_back (foot := [dB, dT, Cs, dG, Rw]) (fun b hb => by simp only [List.mem_cons, List.not_mem_nil, or_false] at hb; rcases hb with rfl | rfl | rfl | rfl | rfl <;> assumption) lr0) (lt_back (foot := [dB, dT, Cs, dG, Rw]) (fun b hb => by simp only [List.mem_cons, List.not_mem_nil, or_false] at hb; rcases hb with rfl | rfl | rfl | rfl | rfl <;> assumption) lr1) f0 f1 f2 f3 f4 f5
  generalize (restOf [dB, dT, Cs, dG, Rw] news) = rest at *
  clear N k mB mG mM mdM mR mLs mLg mdB mdT mCs mdG mRw
  refine wpAny_call ?_
  k_dflt ktr_enter
  have ok' := ok
  have adr' := adr
  obtain ⟨ok0, ok1, ok2⟩ := ok'
  obtain ⟨ad0, ad1, ad2, ad3, ad4, ad5, ad6, ad7, ad8, ad9, ad10, ad11⟩ := adr'
  obtain ⟨al0, al1, al2, al3, al4, al5, al6, al7, al8, al9, al10, al11⟩ := adr_lts adr
  (repeat' (first | (with_reducible ((with_reducible show wpAny _ _ (execs (_ :: _) _) _ _ _); ((with_reducible show wpAny _ _ (execs [Stmt.If .., Stmt.Expr .., Stmt.Expr .., Stmt.Expr .., Stmt.Expr .., Stmt.Return ..] _) _ _ _); (refine jstop_of ?_)))) | (with_reducible ((with_reducible show wpAny _ _ (call (Value.builtin "len") _) _ _ _); ((with_unfolding_all (refine' len_ints_fit (by is_list) (by l_ints) (by l_fit) ?_; k_whole)); (try simp only [List.length_append, List.length_cons, List.length_nil, Nat.zero_add])))) | (with_reducible (((with_reducible show wpAny _ _ (pyIter (Value.ref _)) (fun it s₂ => LoopAtV _ _ _ _ _ _ _ _ _ it s₂) _ _); (rename Fr _ _ _ _ => lF'); (rename News _ _ _ _ => lN'); (with_unfolding_all refine' iter_listUnr (by rfl) lF' lN' (by k_mem) (by exact rfl) (by exact rfl) ?_); clear lF'; intro i' l1; (try k_lt l1)))) | ((with_reducible show UnrEnd ..); (refine' unrEnd_pull (by k_asm) (by k_asm) (by k_upd) ⟨(by k_mem), ?_⟩)) | (k_unfold; (try dsimp only)) | (k_end; kc_close) | walk1 | (dsimp only; walk1) | (leave1; walk_say "STEP leave1"; (try dsimp only)) | fail "no step"))
  exact k' _ _ _ _ _ _ _ _ _ _ _ _ _ _ _ _ _ _ _ _ _ _ _ _ _ _ _ (by assumption) (by ktr_rel) (by tb_start) (by tb_start) (by tb_start) (by tb_start) (by tb_start) (by tb_start) (by tb_start) (by tb_start) (by tb_start) (by tb_start) (by tb_start) (by tb_start) (by assumption) (by assumption) (by assumption) (by omega) (by omega) (by assumption)
theorem delete_ed_spec {prog : Program} {w : World} {p : Program} {loose : List Str} {mean : ExcName → Option Value} {mg : Str → Option Value} {mb : Str → Option Value} {dp : Nat} {un : Nat} {gd : Option (List Code)} {cn : Str} {cs : Scope} {a : Addr} {ccd : Value} {cl : List (Str × Addr)} {outer : List Env} {A₀ : Around} {base : Heap} {h₀ : Heap} {L : Addr} {m : Str → Option Value} {news : List (Addr × Obj)} {s : Shared} {Q : Value → Shared → Prop} {E : Value → Shared → Prop} {D : Addr} {dB : Addr} {Bf : Addr} {dT : Addr} {G : Addr} {Cs : Addr} {dM : Addr} {M : Addr} {R : Addr} {Ls : Addr} {dG : Addr} {Lg : Addr} {Rw : Addr} {γ : GT} {vs : List Value} {cells : List Int} {n : Nat} {gs : Int} {ge : Int} {t1 : Tok} {t2 : Tok} {β : BT} {pt : Int} {zv : Int} {ti : Int} {ci : Int} {tp : Tok} {tz : Tok} {tt : Tok} {tc : Tok} {δ : LT} {bv : Value} {ev : Value} {gr : Int} {tg : Tok} {rv : List Value} {nr : Nat} {st : Option (Int × Int)} {μ : MT} {oR : Obj} {nls : Nat} {x : Int} {y : Int} {tx : Tok} {ty : Tok} (B : Below A₀ base outer h₀) (F : Fr h₀ L s.heap m) (X : (Mine.hd.heap_1 w.params).In h₀) (N : News h₀ L s.heap news) (T : Top p loose mean mg mb h₀) (hk : cs.kind = .function) (hdp : dp ≤ 560) (hun : un ≤ 4600) (mB : (Bf, instObj 361 dB) ∈ news) (mG : (G, instObj 150 dT) ∈ news) (mM : (M, instObj 220 dM) ∈ news) (mdM : (dM, dictOf (mkD w.params μ R) 1) ∈ news) (mR : (R, oR) ∈ news) (mLs : (Ls, listOf #[.ref Lg] nls) ∈ news) (mLg : (Lg, instObj 59 dG) ∈ news) (mdB : (dB, dictOf (bufD w.params β G M Ls (.int pt tp) (.int zv tz) (.int ti tt) (.int ci tc)) 20) ∈ news) (mdT : (dT, dictOf (gapD w.params γ Cs (.int gs t1) (.int ge t2)) 4) ∈ news) (mCs : (Cs, listOf vs.toArray n) ∈ news) (mdG : (dG, dictOf (logD w.params δ Rw bv ev (.int gr tg)) 4) ∈ news) (mRw : (Rw, listOf rv.toArray nr) ∈ news) (adr : AdrOk D dB Bf dT G Cs dM M R Ls dG Lg Rw) (hi : IntsAre vs cells) (ok : GapOk cells gs ge) (hr1 : oR.IsDictOf (strKind prog w) []) (hr2 : (R == sysModules) = false) (hst : StV st bv ev) (hrv : rv.length ≤ 900) (hz : cells.length ≤ 600000) (ha0 : 1 ≤ x) (hm1 : x < y) (ha1 : y - 1 + (ge - gs) ≤ cells.length) (hzv : zv = (cells.length : Int) - (ge - gs) + 1) (k : ∀ q q2 (ws : List Value) n2' to1 to2 to3 pt' tp' tz' ti' tt' ci' tc' t1' t2' gs' ge' (vs' : List Value) (cells' : List Int) n' bv' ev' tg' nr' h' tk', Fr h₀ L h' m → NewsAll h₀ L h' [(dB, dictOf (bufD w.params β G M Ls (.int pt tp) (.int zv tz) (.int ti tt) (.int ci tc)) 20, dictOf (bufD w.params β G M Ls (.int pt' tp') (.int (zv - (y - x)) tz') (.int ti' tt') (.int ci' tc')) 20), (dT, dictOf (gapD w.params γ Cs (.int gs t1) (.int ge t2)) 4, dictOf (gapD w.params γ Cs (.int gs' t1') (.int ge' t2')) 4), (Cs, listOf vs.toArray n, listOf vs'.toArray n'), (dG, dictOf (logD w.params δ Rw bv ev (.int gr tg)) 4, dictOf (logD w.params δ Rw bv' ev' (.int (gr + (x - x - (y - x))) tg')) 4), (Rw, listOf rv.toArray nr, listOf (rv ++ [Value.ref q]).toArray nr')] news [(q, tup3 x x (y - x) to1 to2 to3), (q2, listOf ws.toArray n2')] → AllLt q news → AllLt q2 news → IntsAre vs' cells' → GapOk cells' gs' ge' → gapText cells' gs' ge' = (gapText cells gs ge).take (x - 1).toNat ++ (gapText cells gs ge).drop (y - 1).toNat → (cells'.length : Int) ≤ cells.length + 0 + 8 → (cells'.length : Int) - (ge' - gs') = cells.length - (ge - gs) + (x - x - (y - x)) → StV (stNext st x (x) ((y - x))) bv' ev' → Q (.ref q2) { s with heap := h', toks := tk' }) : wpAny (model prog w) (ktrTop dp un gd cn cs L a ccd cl outer) (call (.ref 461) [.ref Bf, .int x tx, .int y ty]) Q E s := delete_ed_specU (hkl dp [un, a, L, D, dB, Bf, dT, G, Cs, dM, M, R, Ls, dG, Lg, Rw, n, t1, t2, tp, tz, tt, tc, tg, nr, nls, tx, ty], hkl gs [ge, pt, zv, ti, ci, gr, x, y], hkl ccd [bv, ev], hkl vs [rv], hkl cells [], hkl mg [mb, m], hkl prog [p], hkl w [], hkl Q [E], hkl cn [], hkl s [], hkl oR [], hkl news [], hkl base [h₀], hkl A₀ [], hkl st [], hkl γ [], hkl β [], hkl δ [], hkl μ [], hkl cs [], hkl gd [], hkl loose [], hkl outer [], hkl mean [], hkl cl [], uB u0, uOA u0, uSm u0, uRs u0, uF u0, uOs u0, uAr u0) B F X N T hk hdp hun mB mG mM mdM mR mLs mLg mdB mdT mCs mdG mRw adr hi ok hr1 hr2 hst hrv hz ha0 hm1 ha1 hzv k
set_option maxRecDepth 100000 in
set_option maxHeartbeats 8000000 in
theorem replace_specU (v : U) : (fun (prog : Program) (w : World) (p : Program) (loose : List Str) (mean : ExcName → Option Value) (mg : Str → Option Value) (mb : Str → Option Value) (dp : Nat) (un : Nat) (gd : Option (List Code)) (cn : Str) (cs : Scope) (a : Addr) (ccd : Value) (cl : List (Str × Addr)) (outer : List Env) (A₀ : Around) (base : Heap) (h₀ : Heap) (L : Addr) (m : Str → Option Value) (news : List (Addr × Obj)) (s : Shared) (Q : Value → Shared → Prop) (E : Value → Shared → Prop) (D : Addr) (dB : Addr) (Bf : Addr) (dT : Addr) (G : Addr) (Cs : Addr) (dM : Addr) (M : Addr) (R : Addr) (Ls : Addr) (dG : Addr) (Lg : Addr) (Rw : Addr) (γ : GT) (vs : List Value) (cells : List Int) (n : Nat) (gs : Int) (ge : Int) (t1 : Tok) (t2 : Tok) (β : BT) (pt : Int) (zv : Int) (ti : Int) (ci : Int) (tp : Tok) (tz : Tok) (tt : Tok) (tc : Tok) (δ : LT) (bv : Value) (ev : Value) (gr : Int) (tg : Tok) (rv : List Value) (nr : Nat) (st : Option (Int × Int)) (μ : MT) (oR : Obj) (nls : Nat) (Lc : Addr) (us : List Value) (ms : List Int) (nl : Nat) (x : Int) (y : Int) (tx : Tok) (ty : Tok) => ∀ (B : Below A₀ base outer h₀) (F : Fr h₀ L s.heap m) (X : (Mine.hd.heap_1 w.params).In h₀) (N : News h₀ L s.heap news) (T : Top p loose mean mg mb h₀) (hk : cs.kind = .function) (hdp : dp ≤ 530) (hun : un ≤ 4300) (mB : (Bf, instObj 361 dB) ∈ news) (mG : (G, instObj 150 dT) ∈ news) (mM : (M, instObj 220 dM) ∈ news) (mdM : (dM, dictOf (mkD w.params μ R) 1) ∈ news) (mR : (R, oR) ∈ news) (mLs : (Ls, listOf #[.ref Lg] nls) ∈ news) (mLg : (Lg, instObj 59 dG) ∈ news) (mLc : (Lc, listOf us.toArray nl) ∈ news) (mdB : (dB, dictOf (bufD w.params β G M Ls (.int pt tp) (.int zv tz) (.int ti tt) (.int ci tc)) 20) ∈ news) (mdT : (dT, dictOf (gapD w.params γ Cs (.int gs t1) (.int ge t2)) 4) ∈ news) (mCs : (Cs, listOf vs.toArray n) ∈ news) (mdG : (dG, dictOf (logD w.params δ Rw bv ev (.int gr tg)) 4) ∈ news) (mRw : (Rw, listOf rv.toArray nr) ∈ news) (ne_dB_Lc : @Ne Nat dB Lc) (ne_dT_Lc : @Ne Nat dT Lc) (ne_Cs_Lc : @Ne Nat Cs Lc) (ne_dG_Lc : @Ne Nat dG Lc) (ne_Rw_Lc : @Ne Nat Rw Lc) (adr : AdrOk D dB Bf dT G Cs dM M R Ls dG Lg Rw) (hi : IntsAre vs cells) (ok : GapOk cells gs ge) (hr1 : oR.IsDictOf (strKind prog w) []) (hr2 : (R == sysModules) = false) (hst : StV st bv ev) (hrv : rv.length ≤ 900) (hi2 : IntsAre us ms) (hz : cells.length ≤ 600000) (hz2 : ms.length ≤ 1000) (hm1 : x < y ∨ 1 ≤ ms.length) (ha0 : 1 ≤ x) (hxy : x ≤ y) (ha1 : y - 1 + (ge - gs) ≤ cells.length) (hzv : zv = (cells.length : Int) - (ge - gs) + 1) (k : ∀ q q2 (ws : List Value) n2' zz' to1 to2 to3 pt' tp' tz' ti' tt' ci' tc' t1' t2' gs' ge' (vs' : List Value) (cells' : List Int) n' bv' ev' tg' nr' h' tk', Fr h₀ L h' m → NewsAll h₀ L h' [(dB, dictOf (bufD w.params β G M Ls (.int pt tp) (.int zv tz) (.int ti tt) (.int ci tc)) 20, dictOf (bufD w.params β G M Ls (.int pt' tp') (.int (zz') tz') (.int ti' tt') (.int ci' tc')) 20), (dT, dictOf (gapD w.params γ Cs (.int gs t1) (.int ge t2)) 4, dictOf (gapD w.params γ Cs (.int gs' t1') (.int ge' t2')) 4), (Cs, listOf vs.toArray n, listOf vs'.toArray n'), (dG, dictOf (logD w.params δ Rw bv ev (.int gr tg)) 4, dictOf (logD w.params δ Rw bv' ev' (.int (gr + (x + (ms.length : Int) - x - (y - x))) tg')) 4), (Rw, listOf rv.toArray nr, listOf (rv ++ [Value.ref q]).toArray nr')] news [(q, tup3 x (x + (ms.length : Int)) (y - x) to1 to2 to3), (q2, listOf ws.toArray n2')] → AllLt q news → AllLt q2 news → IntsAre vs' cells' → GapOk cells' gs' ge' → gapText cells' gs' ge' = (gapText cells gs ge).take (x - 1).toNat ++ ms ++ (gapText cells gs ge).drop (y - 1).toNat → (cells'.length : Int) ≤ cells.length + ms.length + 8 → (cells'.length : Int) - (ge' - gs') = cells.length - (ge - gs) + (x + (ms.length : Int) - x - (y - x)) → StV (stNext st x (x + (ms.length : Int)) ((y - x))) bv' ev' → zz' = zv + ((x + (ms.length : Int)) - x - (y - x)) → Q (.ref q2) { s with heap := h', toks := tk' }), wpAny (model prog w) (ktrTop dp un gd cn cs L a ccd cl outer) (call (.ref 468) [.ref Bf, .int x tx, .int y ty, .ref Lc]) Q E s) (uPr v 0) (uW v 0) (uPr v 1) (uSs v 0) (uX v 0) (uM v 0) (uM v 1) (uN v 0) (uN v 1) (uCs v 0) (uS v 0) (uSc v 0) (uN v 2) (uV v 0) (uCl v 0) (uEs v 0) (uA v 0) (uH v 0) (uH v 1) (uN v 3) (uM v 2) (uL v 0) (uSh v 0) (uQ v 0) (uQ v 1) (uN v 4) (uN v 5) (uN v 6) (uN v 7) (uN v 8) (uN v 9) (uN v 10) (uN v 11) (uN v 12) (uN v 13) (uN v 14) (uN v 15) (uN v 16) (uGT v 0) (uVs v 0) (uIs v 0) (uN v 17) (uI v 0) (uI v 1) (uN v 18) (uN v 19) (uBT v 0) (uI v 2) (uI v 3) (uI v 4) (uI v 5) (uN v 20) (uN v 21) (uN v 22) (uN v 23) (uLT v 0) (uV v 1) (uV v 2) (uI v 6) (uN v 24) (uVs v 1) (uN v 25) (uSt v 0) (uMT v 0) (uO v 0) (uN v 26) (uN v 27) (uVs v 2) (uIs v 1) (uN v 28) (uI v 7) (uI v 8) (uN v 29) (uN v 30) := by
  revert v
  refine hkU ?_
  generalize ep _ _ = eU
  generalize uPr eU 0 = prog, uW eU 0 = w, uPr eU 1 = p, uSs eU 0 = loose, uX eU 0 = mean, uM eU 0 = mg, uM eU 1 = mb, uN eU 0 = dp, uN eU 1 = un, uCs eU 0 = gd, uS eU 0 = cn, uSc eU 0 = cs, uN eU 2 = a, uV eU 0 = ccd, uCl eU 0 = cl, uEs eU 0 = outer, uA eU 0 = A₀, uH eU 0 = base, uH eU 1 = h₀, uN eU 3 = L, uM eU 2 = m, uL eU 0 = news, uSh eU 0 = s, uQ eU 0 = Q, uQ eU 1 = E, uN eU 4 = D, uN eU 5 = dB, uN eU 6 = Bf, uN eU 7 = dT, uN eU 8 = G, uN eU 9 = Cs, uN eU 10 = dM, uN eU 11 = M, uN eU 12 = R, uN eU 13 = Ls, uN eU 14 = dG, uN eU 15 = Lg, uN eU 16 = Rw, uGT eU 0 = γ, uVs eU 0 = vs, uIs eU 0 = cells, uN eU 17 = n, uI eU 0 = gs, uI eU 1 = ge, uN eU 18 = t1, uN eU 19 = t2, uBT eU 0 = β, uI eU 2 = pt, uI eU 3 = zv, uI eU 4 = ti, uI eU 5 = ci, uN eU 20 = tp, uN eU 21 = tz, uN eU 22 = tt, uN eU 23 = tc, uLT eU 0 = δ, uV eU 1 = bv, uV eU 2 = ev, uI eU 6 = gr, uN eU 24 = tg, uVs eU 1 = rv, uN eU 25 = nr, uSt eU 0 = st, uMT eU 0 = μ, uO eU 0 = oR, uN eU 26 = nls, uN eU 27 = Lc, uVs eU 2 = us, uIs eU 1 = ms, uN eU 28 = nl, uI eU 7 = x, uI eU 8 = y, uN eU 29 = tx, uN eU 30 = ty
  clear eU
  refine fun B F X N T hk hdp hun mB mG mM mdM mR mLs mLg mLc mdB mdT mCs mdG mRw ne_dB_Lc ne_dT_Lc ne_Cs_Lc ne_dG_Lc ne_Rw_Lc adr hi ok hr1 hr2 hst hrv hi2 hz hz2 hm1 ha0 hxy ha1 hzv k => ?_
  have N1 : News h₀ L s.heap ((Bf, instObj 361 dB) :: (G, instObj 150 dT) :: (M, instObj 220 dM) :: (dM, dictOf (mkD w.params μ R) 1) :: (R, oR) :: (Ls, listOf #[.ref Lg] nls) :: (Lg, instObj 59 dG) :: (Lc, listOf us.toArray nl) :: (dB, dictOf (bufD w.params β G M Ls (.int pt tp) (.int zv tz) (.int ti tt) (.int ci tc)) 20) :: (dT, dictOf (gapD w.params γ Cs (.int gs t1) (.int ge t2)) 4) :: (Cs, listOf vs.toArray n) :: (dG, dictOf (logD w.params δ Rw bv ev (.int gr tg)) 4) :: (Rw, listOf rv.toArray nr) :: (restOf [dB, dT, Cs, dG, Rw] news)) := by
    refine news_cons ?_ N mB
    refine news_cons ?_ N mG
    refine news_cons ?_ N mM
    refine news_cons ?_ N mdM
    refine news_cons ?_ N mR
    refine news_cons ?_ N mLs
    refine news_cons ?_ N mLg
    refine news_cons ?_ N mLc
    refine news_cons ?_ N mdB
    refine news_cons ?_ N mdT
    refine news_cons ?_ N mCs
    refine news_cons ?_ N mdG
    refine news_cons ?_ N mRw
    exact news_sub N restOf_in
  have off_dB : Off dB ((restOf [dB, dT, Cs, dG, Rw] news)) := restOf_off (by simp)
  have off_dT : Off dT ((restOf [dB, dT, Cs, dG, Rw] news)) := restOf_off (by simp)
  have off_Cs : Off Cs ((restOf [dB, dT, Cs, dG, Rw] news)) := restOf_off (by simp)
  have off_dG : Off dG ((restOf [dB, dT, Cs, dG, Rw] news)) := restOf_off (by simp)
  have off_Rw : Off Rw ((restOf [dB, dT, Cs, dG, Rw] news)) := restOf_off (by simp)
  have k' : ∀ q q2 (ws : List Value) n2' zz' to1 to2 to3 pt' tp' tz' ti' tt' ci' tc' t1' t2' gs' ge' (vs' : List Value) (cells' : List Int) n' bv' ev' tg' nr' h' tk', Fr h₀ L h' m → News h₀ L h' ((q, tup3 x (x + (ms.length : Int)) (y - x) to1 to2 to3) :: (q2, listOf ws.toArray n2') :: (dB, dictOf (bufD w.params β G M Ls (.int pt' tp') (.int (zz') tz') (.int ti' tt') (.int ci' tc')) 20) :: (dT, dictOf (gapD w.params γ Cs (.int gs' t1') (.int ge' t2')) 4) :: (Cs, listOf vs'.toArray n') :: (dG, dictOf (logD w.params δ Rw bv' ev' (.int (gr + (x + (ms.length : Int) - x - (y - x))) tg')) 4) :: (Rw, listOf (rv ++ [Value.ref q]).toArray nr') :: (restOf [dB, dT, Cs, dG, Rw] news)) → @LT.lt Nat _ dB q → @LT.lt Nat _ dT q → @LT.lt Nat _ Cs q → @LT.lt Nat _ dG q → @LT.lt Nat _ Rw q → AllLt q ((restOf [dB, dT, Cs, dG, Rw] news)) → @LT.lt Nat _ dB q2 → @LT.lt Nat _ dT q2 → @LT.lt Nat _ Cs q2 → @LT.lt Nat _ dG q2 → @LT.lt Nat _ Rw q2 → AllLt q2 ((restOf [dB, dT, Cs, dG, Rw] news)) → IntsAre vs' cells' → GapOk cells' gs' ge' → gapText cells' gs' ge' = (gapText cells gs ge).take (x - 1).toNat ++ ms ++ (gapText cells gs ge).drop (y - 1).toNat → (cells'.length : Int) ≤ cells.length + ms.length + 8 → (cells'.length : Int) - (ge' - gs') = cells.length - (ge - gs) + (x + (ms.length : Int) - x - (y - x)) → StV (stNext st x (x + (ms.length : Int)) ((y - x))) bv' ev' → zz' = zv + ((x + (ms.length : Int)) - x - (y - x)) → Q (.ref q2) { s with heap := h', toks := tk' } := by
    intro q q2 ws n2' zz' to1 to2 to3 pt' tp' tz' ti' tt' ci' tc' t1' t2' gs' ge' vs' cells' n' bv' ev' tg' nr' h' tk' F' N' l0_0 l0_1 l0_2 l0_3 l0_4 lr0 l1_0 l1_1 l1_2 l1_3 l1_4 lr1 f0 f1 f2 f3 f4 f5 f6
    exact k _ _ _ _ _ _ _ _ _ _ _ _ _ _ _ _ _ _ _ _ _ _ _ _ _ _ _ _ F' (fun news' U => news_back (fresh := [(q, tup3 x (x + (ms.length : Int)) (y - x) to1 to2 to3), (q2, listOf ws.toArray n2')]) U N') (lt_back (foot := [dB, dT, Cs, dG, Rw]) (fun b hb => by simp only [List.mem_cons, List.not_mem_nil, or_false] at hb; rcases hb with rfl | rfl | rfl | rfl | rfl <;> assumption) lr0) (lt_back (foot := [dB, dT, Cs, dG, Rw]) (fun b hb => by simp only [List.mem_cons, List.not_mem_nil, or_false] at hb; rcases hb with rfl | rfl | rfl | rfl | rfl <;> assumption) lr1) f0 f1 f2 f3 f4 f5 f6
  generalize (restOf [dB, dT, Cs, dG, Rw] news) = rest at *
  clear N k mB mG mM mdM mR mLs mLg mLc mdB mdT mCs mdG mRw
  refine wpAny_call ?_
  k_dflt ktr_enter
  have ok' := ok
  have adr' := adr
  obtain ⟨ok0, ok1, ok2⟩ := ok'
  obtain ⟨ad0, ad1, ad2, ad3, ad4, ad5, ad6, ad7, ad8, ad9, ad10, ad11⟩ := adr'
  obtain ⟨al0, al1, al2, al3, al4, al5, al6, al7, al8, al9, al10, al11⟩ := adr_lts adr
  (repeat' (first | (with_reducible ((with_reducible show wpAny _ _ (execs (_ :: _) _) _ _ _); ((with_reducible show wpAny _ _ (execs [Stmt.If .., Stmt.Expr .., Stmt.Expr .., Stmt.Expr .., Stmt.Expr .., Stmt.Return ..] _) _ _ _); (refine jstop_of ?_)))) | (with_reducible ((with_reducible show wpAny _ _ (call (Value.builtin "len") _) _ _ _); ((with_unfolding_all (refine' len_ints_fit (by is_list) (by l_ints) (by l_fit) ?_; k_whole)); (try simp only [List.length_append, List.length_cons, List.length_nil, Nat.zero_add])))) | (with_reducible (((with_reducible show wpAny _ _ (pyIter (Value.ref _)) (fun it s₂ => LoopAtV _ _ _ _ _ _ _ _ _ it s₂) _ _); (rename Fr _ _ _ _ => lF'); (rename News _ _ _ _ => lN'); (with_unfolding_all refine' iter_listUnr (by rfl) lF' lN' (by k_mem) (by exact rfl) (by exact rfl) ?_); clear lF'; intro i' l1; (try k_lt l1)))) | ((with_reducible show UnrEnd ..); (refine' unrEnd_pull (by k_asm) (by k_asm) (by k_upd) ⟨(by k_mem), ?_⟩)) | (k_unfold; (try dsimp only)) | (k_end; kc_close) | walk1 | (dsimp only; walk1) | (leave1; walk_say "STEP leave1"; (try dsimp only)) | fail "no step"))
  · have hxy2 : y = x := by omega
    subst hxy2
    simp only [Int.sub_self] at k'
    exact k' _ _ _ _ _ _ _ _ _ _ _ _ _ _ _ _ _ _ _ _ _ _ _ _ _ _ _ _ (by assumption) (by ktr_rel) (by tb_start) (by tb_start) (by tb_start) (by tb_start) (by tb_start) (by tb_start) (by tb_start) (by tb_start) (by tb_start) (by tb_start) (by tb_start) (by tb_start) (by assumption) (by assumption) (by assumption) (by assumption) (by omega) (by assumption) (by omega)
  · have hm0 : ms = [] := List.eq_nil_of_length_eq_zero (by omega)
    subst hm0
    simp only [List.length_nil, Int.natCast_zero, Int.add_zero, List.append_nil] at k'
    exact k' _ _ _ _ _ _ _ _ _ _ _ _ _ _ _ _ _ _ _ _ _ _ _ _ _ _ _ _ (by assumption) (by ktr_rel) (by tb_start) (by tb_start) (by tb_start) (by tb_start) (by tb_start) (by tb_start) (by tb_start) (by tb_start) (by tb_start) (by tb_start) (by tb_start) (by tb_start) (by assumption) (by assumption) (by assumption) (by omega) (by omega) (by assumption) (by omega)
  unfold JStop
  refine join_pt (d := dB) (by k_asm) (by k_asm) (by intro pt tp; k_dflt top_args) ?h1 ?h2
  case h1 =>
    intro R kI
    (repeat' (first | (with_reducible ((with_reducible show wpAny _ _ (execs (_ :: _) _) _ _ _); ((with_reducible show wpAny _ _ (execs [Stmt.If .., Stmt.Expr .., Stmt.Expr .., Stmt.Expr .., Stmt.Expr .., Stmt.Return ..] _) _ _ _); (refine jstop_of ?_)))) | (with_reducible ((with_reducible show wpAny _ _ (call (Value.builtin "len") _) _ _ _); ((with_unfolding_all (refine' len_ints_fit (by is_list) (by l_ints) (by l_fit) ?_; k_whole)); (try simp only [List.length_append, List.length_cons, List.length_nil, Nat.zero_add])))) | (with_reducible (((with_reducible show wpAny _ _ (pyIter (Value.ref _)) (fun it s₂ => LoopAtV _ _ _ _ _ _ _ _ _ it s₂) _ _); (rename Fr _ _ _ _ => lF'); (rename News _ _ _ _ => lN'); (with_unfolding_all refine' iter_listUnr (by rfl) lF' lN' (by k_mem) (by exact rfl) (by exact rfl) ?_); clear lF'; intro i' l1; (try k_lt l1)))) | ((with_reducible show UnrEnd ..); (refine' unrEnd_pull (by k_asm) (by k_asm) (by k_upd) ⟨(by k_mem), ?_⟩)) | (k_unfold; (try dsimp only)) | (k_end; kc_close) | walk1 | (dsimp only; walk1) | (leave1; walk_say "STEP leave1"; (try dsimp only)) | fail "no step"))
    all_goals exact ⟨rfl, kI _ _ _ _ (by assumption) (by ktr_rel)⟩
  case h2 =>
    intro pt2 tp2 h2 tk2 F2 N2
    (try dsimp only at N2)
    (try dsimp only)
    (try k_sweep)
    (repeat' (first | (with_reducible ((with_reducible show wpAny _ _ (execs (_ :: _) _) _ _ _); ((with_reducible show wpAny _ _ (execs [Stmt.If .., Stmt.Expr .., Stmt.Expr .., Stmt.Expr .., Stmt.Expr .., Stmt.Return ..] _) _ _ _); (refine jstop_of ?_)))) | (with_reducible ((with_reducible show wpAny _ _ (call (Value.builtin "len") _) _ _ _); ((with_unfolding_all (refine' len_ints_fit (by is_list) (by l_ints) (by l_fit) ?_; k_whole)); (try simp only [List.length_append, List.length_cons, List.length_nil, Nat.zero_add])))) | (with_reducible (((with_reducible show wpAny _ _ (pyIter (Value.ref _)) (fun it s₂ => LoopAtV _ _ _ _ _ _ _ _ _ it s₂) _ _); (rename Fr _ _ _ _ => lF'); (rename News _ _ _ _ => lN'); (with_unfolding_all refine' iter_listUnr (by rfl) lF' lN' (by k_mem) (by exact rfl) (by exact rfl) ?_); clear lF'; intro i' l1; (try k_lt l1)))) | ((with_reducible show UnrEnd ..); (refine' unrEnd_pull (by k_asm) (by k_asm) (by k_upd) ⟨(by k_mem), ?_⟩)) | (k_unfold; (try dsimp only)) | (k_end; kc_close) | walk1 | (dsimp only; walk1) | (leave1; walk_say "STEP leave1"; (try dsimp only)) | fail "no step"))
    have hlt : (x - 1).toNat ≤ (gapText cells gs ge).length := by
      have := gapText_len ok
      omega
    rename gapText _ (x - 1) _ = _ => e1
    rename gapText _ _ _ = _ ++ _ ++ _ => e2
    rw [e1, rep_text hlt] at e2
    exact k' _ _ _ _ _ _ _ _ _ _ _ _ _ _ _ _ _ _ _ _ _ _ _ _ _ _ _ _ (by assumption) (by ktr_rel) (by tb_start) (by tb_start) (by tb_start) (by tb_start) (by tb_start) (by tb_start) (by tb_start) (by tb_start) (by tb_start) (by tb_start) (by tb_start) (by tb_start) (by assumption) (by assumption) e2 (by omega) (by omega) (by assumption) (by omega)
theorem replace_spec {prog : Program} {w : World} {p : Program} {loose : List Str} {mean : ExcName → Option Value} {mg : Str → Option Value} {mb : Str → Option Value} {dp : Nat} {un : Nat} {gd : Option (List Code)} {cn : Str} {cs : Scope} {a : Addr} {ccd : Value} {cl : List (Str × Addr)} {outer : List Env} {A₀ : Around} {base : Heap} {h₀ : Heap} {L : Addr} {m : Str → Option Value} {news : List (Addr × Obj)} {s : Shared} {Q : Value → Shared → Prop} {E : Value → Shared → Prop} {D : Addr} {dB : Addr} {Bf : Addr} {dT : Addr} {G : Addr} {Cs : Addr} {dM : Addr} {M : Addr} {R : Addr} {Ls : Addr} {dG : Addr} {Lg : Addr} {Rw : Addr} {γ : GT} {vs : List Value} {cells : List Int} {n : Nat} {gs : Int} {ge : Int} {t1 : Tok} {t2 : Tok} {β : BT} {pt : Int} {zv : Int} {ti : Int} {ci : Int} {tp : Tok} {tz : Tok} {tt : Tok} {tc : Tok} {δ : LT} {bv : Value} {ev : Value} {gr : Int} {tg : Tok} {rv : List Value} {nr : Nat} {st : Option (Int × Int)} {μ : MT} {oR : Obj} {nls : Nat} {Lc : Addr} {us : List Value} {ms : List Int} {nl : Nat} {x : Int} {y : Int} {tx : Tok} {ty : Tok} (B : Below A₀ base outer h₀) (F : Fr h₀ L s.heap m) (X : (Mine.hd.heap_1 w.params).In h₀) (N : News h₀ L s.heap news) (T : Top p loose mean mg mb h₀) (hk : cs.kind = .function) (hdp : dp ≤ 530) (hun : un ≤ 4300) (mB : (Bf, instObj 361 dB) ∈ news) (mG : (G, instObj 150 dT) ∈ news) (mM : (M, instObj 220 dM) ∈ news) (mdM : (dM, dictOf (mkD w.params μ R) 1) ∈ news) (mR : (R, oR) ∈ news) (mLs : (Ls, listOf #[.ref Lg] nls) ∈ news) (mLg : (Lg, instObj 59 dG) ∈ news) (mLc : (Lc, listOf us.toArray nl) ∈ news) (mdB : (dB, dictOf (bufD w.params β G M Ls (.int pt tp) (.int zv tz) (.int ti tt) (.int ci tc)) 20) ∈ news) (mdT : (dT, dictOf (gapD w.params γ Cs (.int gs t1) (.int ge t2)) 4) ∈ news) (mCs : (Cs, listOf vs.toArray n) ∈ news) (mdG : (dG, dictOf (logD w.params δ Rw bv ev (.int gr tg)) 4) ∈ news) (mRw : (Rw, listOf rv.toArray nr) ∈ news) (ne_dB_Lc : @Ne Nat dB Lc) (ne_dT_Lc : @Ne Nat dT Lc) (ne_Cs_Lc : @Ne Nat Cs Lc) (ne_dG_Lc : @Ne Nat dG Lc) (ne_Rw_Lc : @Ne Nat Rw Lc) (adr : AdrOk D dB Bf dT G Cs dM M R Ls dG Lg Rw) (hi : IntsAre vs cells) (ok : GapOk cells gs ge) (hr1 : oR.IsDictOf (strKind prog w) []) (hr2 : (R == sysModules) = false) (hst : StV st bv ev) (hrv : rv.length ≤ 900) (hi2 : IntsAre us ms) (hz : cells.length ≤ 600000) (hz2 : ms.length ≤ 1000) (hm1 : x < y ∨ 1 ≤ ms.length) (ha0 : 1 ≤ x) (hxy : x ≤ y) (ha1 : y - 1 + (ge - gs) ≤ cells.length) (hzv : zv = (cells.length : Int) - (ge - gs) + 1) (k : ∀ q q2 (ws : List Value) n2' zz' to1 to2 to3 pt' tp' tz' ti' tt' ci' tc' t1' t2' gs' ge' (vs' : List Value) (cells' : List Int) n' bv' ev' tg' nr' h' tk', Fr h₀ L h' m → NewsAll h₀ L h' [(dB, dictOf (bufD w.params β G M Ls (.int pt tp) (.int zv tz) (.int ti tt) (.int ci tc)) 20, dictOf (bufD w.params β G M Ls (.int pt' tp') (.int (zz') tz') (.int ti' tt') (.int ci' tc')) 20), (dT, dictOf (gapD w.params γ Cs (.int gs t1) (.int ge t2)) 4, dictOf (gapD w.params γ Cs (.int gs' t1') (.int ge' t2')) 4), (Cs, listOf vs.toArray n, listOf vs'.toArray n'), (dG, dictOf (logD w.params δ Rw bv ev (.int gr tg)) 4, dictOf (logD w.params δ Rw bv' ev' (.int (gr + (x + (ms.length : Int) - x - (y - x))) tg')) 4), (Rw, listOf rv.toArray nr, listOf (rv ++ [Value.ref q]).toArray nr')] news [(q, tup3 x (x + (ms.length : Int)) (y - x) to1 to2 to3), (q2, listOf ws.toArray n2')] → AllLt q news → AllLt q2 news → IntsAre vs' cells' → GapOk cells' gs' ge' → gapText cells' gs' ge' = (gapText cells gs ge).take (x - 1).toNat ++ ms ++ (gapText cells gs ge).drop (y - 1).toNat → (cells'.length : Int) ≤ cells.length + ms.length + 8 → (cells'.length : Int) - (ge' - gs') = cells.length - (ge - gs) + (x + (ms.length : Int) - x - (y - x)) → StV (stNext st x (x + (ms.length : Int)) ((y - x))) bv' ev' → zz' = zv + ((x + (ms.length : Int)) - x - (y - x)) → Q (.ref q2) { s with heap := h', toks := tk' }) : wpAny (model prog w) (ktrTop dp un gd cn cs L a ccd cl outer) (call (.ref 468) [.ref Bf, .int x tx, .int y ty, .ref Lc]) Q E s := replace_specU (hkl dp [un, a, L, D, dB, Bf, dT, G, Cs, dM, M, R, Ls, dG, Lg, Rw, n, t1, t2, tp, tz, tt, tc, tg, nr, nls, Lc, nl, tx, ty], hkl gs [ge, pt, zv, ti, ci, gr, x, y], hkl ccd [bv, ev], hkl vs [rv, us], hkl cells [ms], hkl mg [mb, m], hkl prog [p], hkl w [], hkl Q [E], hkl cn [], hkl s [], hkl oR [], hkl news [], hkl base [h₀], hkl A₀ [], hkl st [], hkl γ [], hkl β [], hkl δ [], hkl μ [], hkl cs [], hkl gd [], hkl loose [], hkl outer [], hkl mean [], hkl cl [], uB u0, uOA u0, uSm u0, uRs u0, uF u0, uOs u0, uAr u0) B F X N T hk hdp hun mB mG mM mdM mR mLs mLg mLc mdB mdT mCs mdG mRw ne_dB_Lc ne_dT_Lc ne_Cs_Lc ne_dG_Lc ne_Rw_Lc adr hi ok hr1 hr2 hst hrv hi2 hz hz2 hm1 ha0 hxy ha1 hzv k
end
end
section
section
set_option maxRecDepth 100000 in
set_option maxHeartbeats 8000000 in
theorem replace_nil_specU (v : U) : (fun (prog : Program) (w : World) (p : Program) (loose : List Str) (mean : ExcName → Option Value) (mg : Str → Option Value) (mb : Str → Option Value) (dp : Nat) (un : Nat) (gd : Option (List Code)) (cn : Str) (cs : Scope) (a : Addr) (ccd : Value) (cl : List (Str × Addr)) (outer : List Env) (A₀ : Around) (base : Heap) (h₀ : Heap) (L : Addr) (m : Str → Option Value) (news : List (Addr × Obj)) (s : Shared) (Q : Value → Shared → Prop) (E : Value → Shared → Prop) (D : Addr) (dB : Addr) (Bf : Addr) (dT : Addr) (G : Addr) (Cs : Addr) (dM : Addr) (M : Addr) (R : Addr) (Ls : Addr) (dG : Addr) (Lg : Addr) (Rw : Addr) (β : BT) (pt : Int) (zv : Int) (ti : Int) (ci : Int) (tp : Tok) (tz : Tok) (tt : Tok) (tc : Tok) (Lc : Addr) (us : List Value) (ms : List Int) (nl : Nat) (x : Int) (y : Int) (tx : Tok) (ty : Tok) => ∀ (B : Below A₀ base outer h₀) (F : Fr h₀ L s.heap m) (X : (Mine.hd.heap_1 w.params).In h₀) (N : News h₀ L s.heap news) (T : Top p loose mean mg mb h₀) (hk : cs.kind = .function) (hdp : dp ≤ 540) (hun : un ≤ 4400) (mB : (Bf, instObj 361 dB) ∈ news) (mdB : (dB, dictOf (bufD w.params β G M Ls (.int pt tp) (.int zv tz) (.int ti tt) (.int ci tc)) 20) ∈ news) (mLc : (Lc, listOf us.toArray nl) ∈ news) (adr : AdrOk D dB Bf dT G Cs dM M R Ls dG Lg Rw) (hi2 : IntsAre us ms) (hm1 : ms.length = 0) (ha0 : 1 ≤ x) (hxy : y = x) (ha1 : x ≤ zv) (k : ∀ q2 (ws : List Value) n2' h' tk', Fr h₀ L h' m → News h₀ L h' ((q2, listOf ws.toArray n2') :: news) → AllLt q2 news → Q (.ref q2) { s with heap := h', toks := tk' }), wpAny (model prog w) (ktrTop dp un gd cn cs L a ccd cl outer) (call (.ref 468) [.ref Bf, .int x tx, .int y ty, .ref Lc]) Q E s) (uPr v 0) (uW v 0) (uPr v 1) (uSs v 0) (uX v 0) (uM v 0) (uM v 1) (uN v 0) (uN v 1) (uCs v 0) (uS v 0) (uSc v 0) (uN v 2) (uV v 0) (uCl v 0) (uEs v 0) (uA v 0) (uH v 0) (uH v 1) (uN v 3) (uM v 2) (uL v 0) (uSh v 0) (uQ v 0) (uQ v 1) (uN v 4) (uN v 5) (uN v 6) (uN v 7) (uN v 8) (uN v 9) (uN v 10) (uN v 11) (uN v 12) (uN v 13) (uN v 14) (uN v 15) (uN v 16) (uBT v 0) (uI v 0) (uI v 1) (uI v 2) (uI v 3) (uN v 17) (uN v 18) (uN v 19) (uN v 20) (uN v 21) (uVs v 0) (uIs v 0) (uN v 22) (uI v 4) (uI v 5) (uN v 23) (uN v 24) := by
  revert v
  refine hkU ?_
  generalize ep _ _ = eU
  generalize uPr eU 0 = prog, uW eU 0 = w, uPr eU 1 = p, uSs eU 0 = loose, uX eU 0 = mean, uM eU 0 = mg, uM eU 1 = mb, uN eU 0 = dp, uN eU 1 = un, uCs eU 0 = gd, uS eU 0 = cn, uSc eU 0 = cs, uN eU 2 = a, uV eU 0 = ccd, uCl eU 0 = cl, uEs eU 0 = outer, uA eU 0 = A₀, uH eU 0 = base, uH eU 1 = h₀, uN eU 3 = L, uM eU 2 = m, uL eU 0 = news, uSh eU 0 = s, uQ eU 0 = Q, uQ eU 1 = E, uN eU 4 = D, uN eU 5 = dB, uN eU 6 = Bf, uN eU 7 = dT, uN eU 8 = G, uN eU 9 = Cs, uN eU 10 = dM, uN eU 11 = M, uN eU 12 = R, uN eU 13 = Ls, uN eU 14 = dG, uN eU 15 = Lg, uN eU 16 = Rw, uBT eU 0 = β, uI eU 0 = pt, uI eU 1 = zv, uI eU 2 = ti, uI eU 3 = ci, uN eU 17 = tp, uN eU 18 = tz, uN eU 19 = tt, uN eU 20 = tc, uN eU 21 = Lc, uVs eU 0 = us, uIs eU 0 = ms, uN eU 22 = nl, uI eU 4 = x, uI eU 5 = y, uN eU 23 = tx, uN eU 24 = ty
  clear eU
  refine fun B F X N T hk hdp hun mB mdB mLc adr hi2 hm1 ha0 hxy ha1 k => ?_
  have N1 : News h₀ L s.heap ((Bf, instObj 361 dB) :: (dB, dictOf (bufD w.params β G M Ls (.int pt tp) (.int zv tz) (.int ti tt) (.int ci tc)) 20) :: (Lc, listOf us.toArray nl) :: news) := by
    refine news_cons ?_ N mB
    refine news_cons ?_ N mdB
    refine news_cons ?_ N mLc
    exact N
  have k' := k
  clear N k mB mdB mLc
  refine wpAny_call ?_
  k_dflt ktr_enter
  have adr' := adr
  obtain ⟨ad0, ad1, ad2, ad3, ad4, ad5, ad6, ad7, ad8, ad9, ad10, ad11⟩ := adr'
  obtain ⟨al0, al1, al2, al3, al4, al5, al6, al7, al8, al9, al10, al11⟩ := adr_lts adr
  have hm0 : ms = [] := List.eq_nil_of_length_eq_zero hm1
  subst hm0
  subst hxy
  k_steps
  · exact k' _ _ _ _ _ (by assumption) (by ktr_rel) (by tb_start)
  all_goals (exfalso; omega)
theorem replace_nil_spec {prog : Program} {w : World} {p : Program} {loose : List Str} {mean : ExcName → Option Value} {mg : Str → Option Value} {mb : Str → Option Value} {dp : Nat} {un : Nat} {gd : Option (List Code)} {cn : Str} {cs : Scope} {a : Addr} {ccd : Value} {cl : List (Str × Addr)} {outer : List Env} {A₀ : Around} {base : Heap} {h₀ : Heap} {L : Addr} {m : Str → Option Value} {news : List (Addr × Obj)} {s : Shared} {Q : Value → Shared → Prop} {E : Value → Shared → Prop} {D : Addr} {dB : Addr} {Bf : Addr} {dT : Addr} {G : Addr} {Cs : Addr} {dM : Addr} {M : Addr} {R : Addr} {Ls : Addr} {dG : Addr} {Lg : Addr} {Rw : Addr} {β : BT} {pt : Int} {zv : Int} {ti : Int} {ci : Int} {tp : Tok} {tz : Tok} {tt : Tok} {tc : Tok} {Lc : Addr} {us : List Value} {ms : List Int} {nl : Nat} {x : Int} {y : Int} {tx : Tok} {ty : Tok} (B : Below A₀ base outer h₀) (F : Fr h₀ L s.heap m) (X : (Mine.hd.heap_1 w.params).In h₀) (N : News h₀ L s.heap news) (T : Top p loose mean mg mb h₀) (hk : cs.kind = .function) (hdp : dp ≤ 540) (hun : un ≤ 4400) (mB : (Bf, instObj 361 dB) ∈ news) (mdB : (dB, dictOf (bufD w.params β G M Ls (.int pt tp) (.int zv tz) (.int ti tt) (.int ci tc)) 20) ∈ news) (mLc : (Lc, listOf us.toArray nl) ∈ news) (adr : AdrOk D dB Bf dT G Cs dM M R Ls dG Lg Rw) (hi2 : IntsAre us ms) (hm1 : ms.length = 0) (ha0 : 1 ≤ x) (hxy : y = x) (ha1 : x ≤ zv) (k : ∀ q2 (ws : List Value) n2' h' tk', Fr h₀ L h' m → News h₀ L h' ((q2, listOf ws.toArray n2') :: news) → AllLt q2 news → Q (.ref q2) { s with heap := h', toks := tk' }) : wpAny (model prog w) (ktrTop dp un gd cn cs L a ccd cl outer) (call (.ref 468) [.ref Bf, .int x tx, .int y ty, .ref Lc]) Q E s := replace_nil_specU (hkl dp [un, a, L, D, dB, Bf, dT, G, Cs, dM, M, R, Ls, dG, Lg, Rw, tp, tz, tt, tc, Lc, nl, tx, ty], hkl pt [zv, ti, ci, x, y], hkl ccd [], hkl us [], hkl ms [], hkl mg [mb, m], hkl prog [p], hkl w [], hkl Q [E], hkl cn [], hkl s [], uO u0, hkl news [], hkl base [h₀], hkl A₀ [], uSt u0, uGT u0, hkl β [], uLT u0, uMT u0, hkl cs [], hkl gd [], hkl loose [], hkl outer [], hkl mean [], hkl cl [], uB u0, uOA u0, uSm u0, uRs u0, uF u0, uOs u0, uAr u0) B F X N T hk hdp hun mB mdB mLc adr hi2 hm1 ha0 hxy ha1 k
set_option maxRecDepth 100000 in
set_option maxHeartbeats 8000000 in
theorem put_any_specU (v : U) : (fun (prog : Program) (w : World) (p : Program) (loose : List Str) (mean : ExcName → Option Value) (mg : Str → Option Value) (mb : Str → Option Value) (dp : Nat) (un : Nat) (gd : Option (List Code)) (cn : Str) (cs : Scope) (a : Addr) (ccd : Value) (cl : List (Str × Addr)) (outer : List Env) (A₀ : Around) (base : Heap) (h₀ : Heap) (L : Addr) (m : Str → Option Value) (news : List (Addr × Obj)) (s : Shared) (Q : Value → Shared → Prop) (E : Value → Shared → Prop) (D : Addr) (dB : Addr) (Bf : Addr) (dT : Addr) (G : Addr) (Cs : Addr) (dM : Addr) (M : Addr) (R : Addr) (Ls : Addr) (dG : Addr) (Lg : Addr) (Rw : Addr) (γ : GT) (vs : List Value) (cells : List Int) (n : Nat) (gs : Int) (ge : Int) (t1 : Tok) (t2 : Tok) (β : BT) (pt : Int) (zv : Int) (ti : Int) (ci : Int) (tp : Tok) (tz : Tok) (tt : Tok) (tc : Tok) (δ : LT) (bv : Value) (ev : Value) (gr : Int) (tg : Tok) (rv : List Value) (nr : Nat) (st : Option (Int × Int)) (μ : MT) (oR : Obj) (nls : Nat) (Lc : Addr) (us : List Value) (ms : List Int) (nl : Nat) (x : Int) (tx : Tok) => ∀ (B : Below A₀ base outer h₀) (F : Fr h₀ L s.heap m) (X : (Mine.hd.heap_1 w.params).In h₀) (N : News h₀ L s.heap news) (T : Top p loose mean mg mb h₀) (hk : cs.kind = .function) (hdp : dp ≤ 560) (hun : un ≤ 4600) (mB : (Bf, instObj 361 dB) ∈ news) (mG : (G, instObj 150 dT) ∈ news) (mM : (M, instObj 220 dM) ∈ news) (mdM : (dM, dictOf (mkD w.params μ R) 1) ∈ news) (mR : (R, oR) ∈ news) (mLs : (Ls, listOf #[.ref Lg] nls) ∈ news) (mLg : (Lg, instObj 59 dG) ∈ news) (mLc : (Lc, listOf us.toArray nl) ∈ news) (mdB : (dB, dictOf (bufD w.params β G M Ls (.int pt tp) (.int zv tz) (.int ti tt) (.int ci tc)) 20) ∈ news) (mdT : (dT, dictOf (gapD w.params γ Cs (.int gs t1) (.int ge t2)) 4) ∈ news) (mCs : (Cs, listOf vs.toArray n) ∈ news) (mdG : (dG, dictOf (logD w.params δ Rw bv ev (.int gr tg)) 4) ∈ news) (mRw : (Rw, listOf rv.toArray nr) ∈ news) (ne_dB_Lc : @Ne Nat dB Lc) (ne_dT_Lc : @Ne Nat dT Lc) (ne_Cs_Lc : @Ne Nat Cs Lc) (ne_dG_Lc : @Ne Nat dG Lc) (ne_Rw_Lc : @Ne Nat Rw Lc) (adr : AdrOk D dB Bf dT G Cs dM M R Ls dG Lg Rw) (hi : IntsAre vs cells) (ok : GapOk cells gs ge) (hr1 : oR.IsDictOf (strKind prog w) []) (hr2 : (R == sysModules) = false) (hst : StV st bv ev) (hrv : rv.length ≤ 900) (hi2 : IntsAre us ms) (hz : cells.length ≤ 600000) (hz2 : ms.length ≤ 1000) (ha0 : 1 ≤ x) (ha1 : x - 1 + (ge - gs) ≤ cells.length) (hzv : zv = (cells.length : Int) - (ge - gs) + 1) (kA : ∀ h' tk', Fr h₀ L h' m → News h₀ L h' (news) → Q (.none) { s with heap := h', toks := tk' }) (kB : ∀ q to1 to2 to3 pt' tp' tz' ti' tt' ci' tc' t1' t2' gs' ge' (vs' : List Value) (cells' : List Int) n' bv' ev' tg' nr' h' tk', Fr h₀ L h' m → NewsAll h₀ L h' [(dB, dictOf (bufD w.params β G M Ls (.int pt tp) (.int zv tz) (.int ti tt) (.int ci tc)) 20, dictOf (bufD w.params β G M Ls (.int pt' tp') (.int (zv + (ms.length : Int)) tz') (.int ti' tt') (.int ci' tc')) 20), (dT, dictOf (gapD w.params γ Cs (.int gs t1) (.int ge t2)) 4, dictOf (gapD w.params γ Cs (.int gs' t1') (.int ge' t2')) 4), (Cs, listOf vs.toArray n, listOf vs'.toArray n'), (dG, dictOf (logD w.params δ Rw bv ev (.int gr tg)) 4, dictOf (logD w.params δ Rw bv' ev' (.int (gr + (x + (ms.length : Int) - x - 0)) tg')) 4), (Rw, listOf rv.toArray nr, listOf (rv ++ [Value.ref q]).toArray nr')] news [(q, tup3 x (x + (ms.length : Int)) 0 to1 to2 to3)] → AllLt q news → IntsAre vs' cells' → GapOk cells' gs' ge' → gapText cells' gs' ge' = (gapText cells gs ge).take (x - 1).toNat ++ ms ++ (gapText cells gs ge).drop (x - 1).toNat → (cells'.length : Int) ≤ cells.length + ms.length + 8 → (cells'.length : Int) - (ge' - gs') = cells.length - (ge - gs) + (x + (ms.length : Int) - x - 0) → StV (stNext st x (x + (ms.length : Int)) (0)) bv' ev' → 1 ≤ ms.length → Q (.none) { s with heap := h', toks := tk' }), wpAny (model prog w) (ktrTop dp un gd cn cs L a ccd cl outer) (call (.ref 446) [.ref Bf, .int x tx, .ref Lc, .bool false, .bool false]) Q E s) (uPr v 0) (uW v 0) (uPr v 1) (uSs v 0) (uX v 0) (uM v 0) (uM v 1) (uN v 0) (uN v 1) (uCs v 0) (uS v 0) (uSc v 0) (uN v 2) (uV v 0) (uCl v 0) (uEs v 0) (uA v 0) (uH v 0) (uH v 1) (uN v 3) (uM v 2) (uL v 0) (uSh v 0) (uQ v 0) (uQ v 1) (uN v 4) (uN v 5) (uN v 6) (uN v 7) (uN v 8) (uN v 9) (uN v 10) (uN v 11) (uN v 12) (uN v 13) (uN v 14) (uN v 15) (uN v 16) (uGT v 0) (uVs v 0) (uIs v 0) (uN v 17) (uI v 0) (uI v 1) (uN v 18) (uN v 19) (uBT v 0) (uI v 2) (uI v 3) (uI v 4) (uI v 5) (uN v 20) (uN v 21) (uN v 22) (uN v 23) (uLT v 0) (uV v 1) (uV v 2) (uI v 6) (uN v 24) (uVs v 1) (uN v 25) (uSt v 0) (uMT v 0) (uO v 0) (uN v 26) (uN v 27) (uVs v 2) (uIs v 1) (uN v 28) (uI v 7) (uN v 29) := by
  revert v
  refine hkU ?_
  generalize ep _ _ = eU
  generalize uPr eU 0 = prog, uW eU 0 = w, uPr eU 1 = p, uSs eU 0 = loose, uX eU 0 = mean, uM eU 0 = mg, uM eU 1 = mb, uN eU 0 = dp, uN eU 1 = un, uCs eU 0 = gd, uS eU 0 = cn, uSc eU 0 = cs, uN eU 2 = a, uV eU 0 = ccd, uCl eU 0 = cl, uEs eU 0 = outer, uA eU 0 = A₀, uH eU 0 = base, uH eU 1 = h₀, uN eU 3 = L, uM eU 2 = m, uL eU 0 = news, uSh eU 0 = s, uQ eU 0 = Q, uQ eU 1 = E, uN eU 4 = D, uN eU 5 = dB, uN eU 6 = Bf, uN eU 7 = dT, uN eU 8 = G, uN eU 9 = Cs, uN eU 10 = dM, uN eU 11 = M, uN eU 12 = R, uN eU 13 = Ls, uN eU 14 = dG, uN eU 15 = Lg, uN eU 16 = Rw, uGT eU 0 = γ, uVs eU 0 = vs, uIs eU 0 = cells, uN eU 17 = n, uI eU 0 = gs, uI eU 1 = ge, uN eU 18 = t1, uN eU 19 = t2, uBT eU 0 = β, uI eU 2 = pt, uI eU 3 = zv, uI eU 4 = ti, uI eU 5 = ci, uN eU 20 = tp, uN eU 21 = tz, uN eU 22 = tt, uN eU 23 = tc, uLT eU 0 = δ, uV eU 1 = bv, uV eU 2 = ev, uI eU 6 = gr, uN eU 24 = tg, uVs eU 1 = rv, uN eU 25 = nr, uSt eU 0 = st, uMT eU 0 = μ, uO eU 0 = oR, uN eU 26 = nls, uN eU 27 = Lc, uVs eU 2 = us, uIs eU 1 = ms, uN eU 28 = nl, uI eU 7 = x, uN eU 29 = tx
  clear eU
  refine fun B F X N T hk hdp hun mB mG mM mdM mR mLs mLg mLc mdB mdT mCs mdG mRw ne_dB_Lc ne_dT_Lc ne_Cs_Lc ne_dG_Lc ne_Rw_Lc adr hi ok hr1 hr2 hst hrv hi2 hz hz2 ha0 ha1 hzv kA kB => ?_
  by_cases hc9 : 1 ≤ ms.length
  · exact put_in_spec B F X N T hk (by omega) (by omega) mB mG mM mdM mR mLs mLg mLc mdB mdT mCs mdG mRw ne_dB_Lc ne_dT_Lc ne_Cs_Lc ne_dG_Lc ne_Rw_Lc adr hi ok hr1 hr2 hst (by omega) hi2 (by omega) (by omega) (by omega) (by omega) (by omega) (by omega) (fun x0 x1 x2 x3 x4 x5 x6 x7 x8 x9 x10 x11 x12 x13 x14 x15 x16 x17 x18 x19 x20 x21 x22 x23 F' N' l0 f0 f1 f2 f3 f4 f5 => kB x0 x1 x2 x3 x4 x5 x6 x7 x8 x9 x10 x11 x12 x13 x14 x15 x16 x17 x18 x19 x20 x21 x22 x23 F' N' l0 f0 f1 f2 f3 f4 f5 (by omega))
  · exact put_nil_spec B F X N T hk (by omega) (by omega) mB mdB mLc  adr hi2 (by omega) (by omega) (by omega) kA
theorem put_any_spec {prog : Program} {w : World} {p : Program} {loose : List Str} {mean : ExcName → Option Value} {mg : Str → Option Value} {mb : Str → Option Value} {dp : Nat} {un : Nat} {gd : Option (List Code)} {cn : Str} {cs : Scope} {a : Addr} {ccd : Value} {cl : List (Str × Addr)} {outer : List Env} {A₀ : Around} {base : Heap} {h₀ : Heap} {L : Addr} {m : Str → Option Value} {news : List (Addr × Obj)} {s : Shared} {Q : Value → Shared → Prop} {E : Value → Shared → Prop} {D : Addr} {dB : Addr} {Bf : Addr} {dT : Addr} {G : Addr} {Cs : Addr} {dM : Addr} {M : Addr} {R : Addr} {Ls : Addr} {dG : Addr} {Lg : Addr} {Rw : Addr} {γ : GT} {vs : List Value} {cells : List Int} {n : Nat} {gs : Int} {ge : Int} {t1 : Tok} {t2 : Tok} {β : BT} {pt : Int} {zv : Int} {ti : Int} {ci : Int} {tp : Tok} {tz : Tok} {tt : Tok} {tc : Tok} {δ : LT} {bv : Value} {ev : Value} {gr : Int} {tg : Tok} {rv : List Value} {nr : Nat} {st : Option (Int × Int)} {μ : MT} {oR : Obj} {nls : Nat} {Lc : Addr} {us : List Value} {ms : List Int} {nl : Nat} {x : Int} {tx : Tok} (B : Below A₀ base outer h₀) (F : Fr h₀ L s.heap m) (X : (Mine.hd.heap_1 w.params).In h₀) (N : News h₀ L s.heap news) (T : Top p loose mean mg mb h₀) (hk : cs.kind = .function) (hdp : dp ≤ 560) (hun : un ≤ 4600) (mB : (Bf, instObj 361 dB) ∈ news) (mG : (G, instObj 150 dT) ∈ news) (mM : (M, instObj 220 dM) ∈ news) (mdM : (dM, dictOf (mkD w.params μ R) 1) ∈ news) (mR : (R, oR) ∈ news) (mLs : (Ls, listOf #[.ref Lg] nls) ∈ news) (mLg : (Lg, instObj 59 dG) ∈ news) (mLc : (Lc, listOf us.toArray nl) ∈ news) (mdB : (dB, dictOf (bufD w.params β G M Ls (.int pt tp) (.int zv tz) (.int ti tt) (.int ci tc)) 20) ∈ news) (mdT : (dT, dictOf (gapD w.params γ Cs (.int gs t1) (.int ge t2)) 4) ∈ news) (mCs : (Cs, listOf vs.toArray n) ∈ news) (mdG : (dG, dictOf (logD w.params δ Rw bv ev (.int gr tg)) 4) ∈ news) (mRw : (Rw, listOf rv.toArray nr) ∈ news) (ne_dB_Lc : @Ne Nat dB Lc) (ne_dT_Lc : @Ne Nat dT Lc) (ne_Cs_Lc : @Ne Nat Cs Lc) (ne_dG_Lc : @Ne Nat dG Lc) (ne_Rw_Lc : @Ne Nat Rw Lc) (adr : AdrOk D dB Bf dT G Cs dM M R Ls dG Lg Rw) (hi : IntsAre vs cells) (ok : GapOk cells gs ge) (hr1 : oR.IsDictOf (strKind prog w) []) (hr2 : (R == sysModules) = false) (hst : StV st bv ev) (hrv : rv.length ≤ 900) (hi2 : IntsAre us ms) (hz : cells.length ≤ 600000) (hz2 : ms.length ≤ 1000) (ha0 : 1 ≤ x) (ha1 : x - 1 + (ge - gs) ≤ cells.length) (hzv : zv = (cells.length : Int) - (ge - gs) + 1) (kA : ∀ h' tk', Fr h₀ L h' m → News h₀ L h' (news) → Q (.none) { s with heap := h', toks := tk' }) (kB : ∀ q to1 to2 to3 pt' tp' tz' ti' tt' ci' tc' t1' t2' gs' ge' (vs' : List Value) (cells' : List Int) n' bv' ev' tg' nr' h' tk', Fr h₀ L h' m → NewsAll h₀ L h' [(dB, dictOf (bufD w.params β G M Ls (.int pt tp) (.int zv tz) (.int ti tt) (.int ci tc)) 20, dictOf (bufD w.params β G M Ls (.int pt' tp') (.int (zv + (ms.length : Int)) tz') (.int ti' tt') (.int ci' tc')) 20), (dT, dictOf (gapD w.params γ Cs (.int gs t1) (.int ge t2)) 4, dictOf (gapD w.params γ Cs (.int gs' t1') (.int ge' t2')) 4), (Cs, listOf vs.toArray n, listOf vs'.toArray n'), (dG, dictOf (logD w.params δ Rw bv ev (.int gr tg)) 4, dictOf (logD w.params δ Rw bv' ev' (.int (gr + (x + (ms.length : Int) - x - 0)) tg')) 4), (Rw, listOf rv.toArray nr, listOf (rv ++ [Value.ref q]).toArray nr')] news [(q, tup3 x (x + (ms.length : Int)) 0 to1 to2 to3)] → AllLt q news → IntsAre vs' cells' → GapOk cells' gs' ge' → gapText cells' gs' ge' = (gapText cells gs ge).take (x - 1).toNat ++ ms ++ (gapText cells gs ge).drop (x - 1).toNat → (cells'.length : Int) ≤ cells.length + ms.length + 8 → (cells'.length : Int) - (ge' - gs') = cells.length - (ge - gs) + (x + (ms.length : Int) - x - 0) → StV (stNext st x (x + (ms.length : Int)) (0)) bv' ev' → 1 ≤ ms.length → Q (.none) { s with heap := h', toks := tk' }) : wpAny (model prog w) (ktrTop dp un gd cn cs L a ccd cl outer) (call (.ref 446) [.ref Bf, .int x tx, .ref Lc, .bool false, .bool false]) Q E s := put_any_specU (hkl dp [un, a, L, D, dB, Bf, dT, G, Cs, dM, M, R, Ls, dG, Lg, Rw, n, t1, t2, tp, tz, tt, tc, tg, nr, nls, Lc, nl, tx], hkl gs [ge, pt, zv, ti, ci, gr, x], hkl ccd [bv, ev], hkl vs [rv, us], hkl cells [ms], hkl mg [mb, m], hkl prog [p], hkl w [], hkl Q [E], hkl cn [], hkl s [], hkl oR [], hkl news [], hkl base [h₀], hkl A₀ [], hkl st [], hkl γ [], hkl β [], hkl δ [], hkl μ [], hkl cs [], hkl gd [], hkl loose [], hkl outer [], hkl mean [], hkl cl [], uB u0, uOA u0, uSm u0, uRs u0, uF u0, uOs u0, uAr u0) B F X N T hk hdp hun mB mG mM mdM mR mLs mLg mLc mdB mdT mCs mdG mRw ne_dB_Lc ne_dT_Lc ne_Cs_Lc ne_dG_Lc ne_Rw_Lc adr hi ok hr1 hr2 hst hrv hi2 hz hz2 ha0 ha1 hzv kA kB
set_option maxRecDepth 100000 in
set_option maxHeartbeats 8000000 in
theorem replace_any_specU (v : U) : (fun (prog : Program) (w : World) (p : Program) (loose : List Str) (mean : ExcName → Option Value) (mg : Str → Option Value) (mb : Str → Option Value) (dp : Nat) (un : Nat) (gd : Option (List Code)) (cn : Str) (cs : Scope) (a : Addr) (ccd : Value) (cl : List (Str × Addr)) (outer : List Env) (A₀ : Around) (base : Heap) (h₀ : Heap) (L : Addr) (m : Str → Option Value) (news : List (Addr × Obj)) (s : Shared) (Q : Value → Shared → Prop) (E : Value → Shared → Prop) (D : Addr) (dB : Addr) (Bf : Addr) (dT : Addr) (G : Addr) (Cs : Addr) (dM : Addr) (M : Addr) (R : Addr) (Ls : Addr) (dG : Addr) (Lg : Addr) (Rw : Addr) (γ : GT) (vs : List Value) (cells : List Int) (n : Nat) (gs : Int) (ge : Int) (t1 : Tok) (t2 : Tok) (β : BT) (pt : Int) (zv : Int) (ti : Int) (ci : Int) (tp : Tok) (tz : Tok) (tt : Tok) (tc : Tok) (δ : LT) (bv : Value) (ev : Value) (gr : Int) (tg : Tok) (rv : List Value) (nr : Nat) (st : Option (Int × Int)) (μ : MT) (oR : Obj) (nls : Nat) (Lc : Addr) (us : List Value) (ms : List Int) (nl : Nat) (x : Int) (y : Int) (tx : Tok) (ty : Tok) => ∀ (B : Below A₀ base outer h₀) (F : Fr h₀ L s.heap m) (X : (Mine.hd.heap_1 w.params).In h₀) (N : News h₀ L s.heap news) (T : Top p loose mean mg mb h₀) (hk : cs.kind = .function) (hdp : dp ≤ 530) (hun : un ≤ 4300) (mB : (Bf, instObj 361 dB) ∈ news) (mG : (G, instObj 150 dT) ∈ news) (mM : (M, instObj 220 dM) ∈ news) (mdM : (dM, dictOf (mkD w.params μ R) 1) ∈ news) (mR : (R, oR) ∈ news) (mLs : (Ls, listOf #[.ref Lg] nls) ∈ news) (mLg : (Lg, instObj 59 dG) ∈ news) (mLc : (Lc, listOf us.toArray nl) ∈ news) (mdB : (dB, dictOf (bufD w.params β G M Ls (.int pt tp) (.int zv tz) (.int ti tt) (.int ci tc)) 20) ∈ news) (mdT : (dT, dictOf (gapD w.params γ Cs (.int gs t1) (.int ge t2)) 4) ∈ news) (mCs : (Cs, listOf vs.toArray n) ∈ news) (mdG : (dG, dictOf (logD w.params δ Rw bv ev (.int gr tg)) 4) ∈ news) (mRw : (Rw, listOf rv.toArray nr) ∈ news) (ne_dB_Lc : @Ne Nat dB Lc) (ne_dT_Lc : @Ne Nat dT Lc) (ne_Cs_Lc : @Ne Nat Cs Lc) (ne_dG_Lc : @Ne Nat dG Lc) (ne_Rw_Lc : @Ne Nat Rw Lc) (adr : AdrOk D dB Bf dT G Cs dM M R Ls dG Lg Rw) (hi : IntsAre vs cells) (ok : GapOk cells gs ge) (hr1 : oR.IsDictOf (strKind prog w) []) (hr2 : (R == sysModules) = false) (hst : StV st bv ev) (hrv : rv.length ≤ 900) (hi2 : IntsAre us ms) (hz : cells.length ≤ 600000) (hz2 : ms.length ≤ 1000) (ha0 : 1 ≤ x) (hxy : x ≤ y) (ha1 : y - 1 + (ge - gs) ≤ cells.length) (hzv : zv = (cells.length : Int) - (ge - gs) + 1) (kA : ∀ q2 (ws : List Value) n2' h' tk', Fr h₀ L h' m → News h₀ L h' ((q2, listOf ws.toArray n2') :: news) → AllLt q2 news → Q (.ref q2) { s with heap := h', toks := tk' }) (kB : ∀ q q2 (ws : List Value) n2' zz' to1 to2 to3 pt' tp' tz' ti' tt' ci' tc' t1' t2' gs' ge' (vs' : List Value) (cells' : List Int) n' bv' ev' tg' nr' h' tk', Fr h₀ L h' m → NewsAll h₀ L h' [(dB, dictOf (bufD w.params β G M Ls (.int pt tp) (.int zv tz) (.int ti tt) (.int ci tc)) 20, dictOf (bufD w.params β G M Ls (.int pt' tp') (.int (zz') tz') (.int ti' tt') (.int ci' tc')) 20), (dT, dictOf (gapD w.params γ Cs (.int gs t1) (.int ge t2)) 4, dictOf (gapD w.params γ Cs (.int gs' t1') (.int ge' t2')) 4), (Cs, listOf vs.toArray n, listOf vs'.toArray n'), (dG, dictOf (logD w.params δ Rw bv ev (.int gr tg)) 4, dictOf (logD w.params δ Rw bv' ev' (.int (gr + (x + (ms.length : Int) - x - (y - x))) tg')) 4), (Rw, listOf rv.toArray nr, listOf (rv ++ [Value.ref q]).toArray nr')] news [(q, tup3 x (x + (ms.length : Int)) (y - x) to1 to2 to3), (q2, listOf ws.toArray n2')] → AllLt q news → AllLt q2 news → IntsAre vs' cells' → GapOk cells' gs' ge' → gapText cells' gs' ge' = (gapText cells gs ge).take (x - 1).toNat ++ ms ++ (gapText cells gs ge).drop (y - 1).toNat → (cells'.length : Int) ≤ cells.length + ms.length + 8 → (cells'.length : Int) - (ge' - gs') = cells.length - (ge - gs) + (x + (ms.length : Int) - x - (y - x)) → StV (stNext st x (x + (ms.length : Int)) ((y - x))) bv' ev' → zz' = zv + ((x + (ms.length : Int)) - x - (y - x)) → Q (.ref q2) { s with heap := h', toks := tk' }), wpAny (model prog w) (ktrTop dp un gd cn cs L a ccd cl outer) (call (.ref 468) [.ref Bf, .int x tx, .int y ty, .ref Lc]) Q E s) (uPr v 0) (uW v 0) (uPr v 1) (uSs v 0) (uX v 0) (uM v 0) (uM v 1) (uN v 0) (uN v 1) (uCs v 0) (uS v 0) (uSc v 0) (uN v 2) (uV v 0) (uCl v 0) (uEs v 0) (uA v 0) (uH v 0) (uH v 1) (uN v 3) (uM v 2) (uL v 0) (uSh v 0) (uQ v 0) (uQ v 1) (uN v 4) (uN v 5) (uN v 6) (uN v 7) (uN v 8) (uN v 9) (uN v 10) (uN v 11) (uN v 12) (uN v 13) (uN v 14) (uN v 15) (uN v 16) (uGT v 0) (uVs v 0) (uIs v 0) (uN v 17) (uI v 0) (uI v 1) (uN v 18) (uN v 19) (uBT v 0) (uI v 2) (uI v 3) (uI v 4) (uI v 5) (uN v 20) (uN v 21) (uN v 22) (uN v 23) (uLT v 0) (uV v 1) (uV v 2) (uI v 6) (uN v 24) (uVs v 1) (uN v 25) (uSt v 0) (uMT v 0) (uO v 0) (uN v 26) (uN v 27) (uVs v 2) (uIs v 1) (uN v 28) (uI v 7) (uI v 8) (uN v 29) (uN v 30) := by
  revert v
  refine hkU ?_
  generalize ep _ _ = eU
  generalize uPr eU 0 = prog, uW eU 0 = w, uPr eU 1 = p, uSs eU 0 = loose, uX eU 0 = mean, uM eU 0 = mg, uM eU 1 = mb, uN eU 0 = dp, uN eU 1 = un, uCs eU 0 = gd, uS eU 0 = cn, uSc eU 0 = cs, uN eU 2 = a, uV eU 0 = ccd, uCl eU 0 = cl, uEs eU 0 = outer, uA eU 0 = A₀, uH eU 0 = base, uH eU 1 = h₀, uN eU 3 = L, uM eU 2 = m, uL eU 0 = news, uSh eU 0 = s, uQ eU 0 = Q, uQ eU 1 = E, uN eU 4 = D, uN eU 5 = dB, uN eU 6 = Bf, uN eU 7 = dT, uN eU 8 = G, uN eU 9 = Cs, uN eU 10 = dM, uN eU 11 = M, uN eU 12 = R, uN eU 13 = Ls, uN eU 14 = dG, uN eU 15 = Lg, uN eU 16 = Rw, uGT eU 0 = γ, uVs eU 0 = vs, uIs eU 0 = cells, uN eU 17 = n, uI eU 0 = gs, uI eU 1 = ge, uN eU 18 = t1, uN eU 19 = t2, uBT eU 0 = β, uI eU 2 = pt, uI eU 3 = zv, uI eU 4 = ti, uI eU 5 = ci, uN eU 20 = tp, uN eU 21 = tz, uN eU 22 = tt, uN eU 23 = tc, uLT eU 0 = δ, uV eU 1 = bv, uV eU 2 = ev, uI eU 6 = gr, uN eU 24 = tg, uVs eU 1 = rv, uN eU 25 = nr, uSt eU 0 = st, uMT eU 0 = μ, uO eU 0 = oR, uN eU 26 = nls, uN eU 27 = Lc, uVs eU 2 = us, uIs eU 1 = ms, uN eU 28 = nl, uI eU 7 = x, uI eU 8 = y, uN eU 29 = tx, uN eU 30 = ty
  clear eU
  refine fun B F X N T hk hdp hun mB mG mM mdM mR mLs mLg mLc mdB mdT mCs mdG mRw ne_dB_Lc ne_dT_Lc ne_Cs_Lc ne_dG_Lc ne_Rw_Lc adr hi ok hr1 hr2 hst hrv hi2 hz hz2 ha0 hxy ha1 hzv kA kB => ?_
  by_cases hc9 : x < y ∨ 1 ≤ ms.length
  · exact replace_spec B F X N T hk (by omega) (by omega) mB mG mM mdM mR mLs mLg mLc mdB mdT mCs mdG mRw ne_dB_Lc ne_dT_Lc ne_Cs_Lc ne_dG_Lc ne_Rw_Lc adr hi ok hr1 hr2 hst (by omega) hi2 (by omega) (by omega) (by omega) (by omega) (by omega) (by omega) (by omega) (fun x0 x1 x2 x3 x4 x5 x6 x7 x8 x9 x10 x11 x12 x13 x14 x15 x16 x17 x18 x19 x20 x21 x22 x23 x24 x25 x26 x27 F' N' l0 l1 f0 f1 f2 f3 f4 f5 f6 => kB x0 x1 x2 x3 x4 x5 x6 x7 x8 x9 x10 x11 x12 x13 x14 x15 x16 x17 x18 x19 x20 x21 x22 x23 x24 x25 x26 x27 F' N' l0 l1 f0 f1 f2 f3 f4 f5 f6 )
  · exact replace_nil_spec B F X N T hk (by omega) (by omega) mB mdB mLc  adr hi2 (by omega) (by omega) (by omega) (by omega) kA
theorem replace_any_spec {prog : Program} {w : World} {p : Program} {loose : List Str} {mean : ExcName → Option Value} {mg : Str → Option Value} {mb : Str → Option Value} {dp : Nat} {un : Nat} {gd : Option (List Code)} {cn : Str} {cs : Scope} {a : Addr} {ccd : Value} {cl : List (Str × Addr)} {outer : List Env} {A₀ : Around} {base : Heap} {h₀ : Heap} {L : Addr} {m : Str → Option Value} {news : List (Addr × Obj)} {s : Shared} {Q : Value → Shared → Prop} {E : Value → Shared → Prop} {D : Addr} {dB : Addr} {Bf : Addr} {dT : Addr} {G : Addr} {Cs : Addr} {dM : Addr} {M : Addr} {R : Addr} {Ls : Addr} {dG : Addr} {Lg : Addr} {Rw : Addr} {γ : GT} {vs : List Value} {cells : List Int} {n : Nat} {gs : Int} {ge : Int} {t1 : Tok} {t2 : Tok} {β : BT} {pt : Int} {zv : Int} {ti : Int} {ci : Int} {tp : Tok} {tz : Tok} {tt : Tok} {tc : Tok} {δ : LT} {bv : Value} {ev : Value} {gr : Int} {tg : Tok} {rv : List Value} {nr : Nat} {st : Option (Int × Int)} {μ : MT} {oR : Obj} {nls : Nat} {Lc : Addr} {us : List Value} {ms : List Int} {nl : Nat} {x : Int} {y : Int} {tx : Tok} {ty : Tok} (B : Below A₀ base outer h₀) (F : Fr h₀ L s.heap m) (X : (Mine.hd.heap_1 w.params).In h₀) (N : News h₀ L s.heap news) (T : Top p loose mean mg mb h₀) (hk : cs.kind = .function) (hdp : dp ≤ 530) (hun : un ≤ 4300) (mB : (Bf, instObj 361 dB) ∈ news) (mG : (G, instObj 150 dT) ∈ news) (mM : (M, instObj 220 dM) ∈ news) (mdM : (dM, dictOf (mkD w.params μ R) 1) ∈ news) (mR : (R, oR) ∈ news) (mLs : (Ls, listOf #[.ref Lg] nls) ∈ news) (mLg : (Lg, instObj 59 dG) ∈ news) (mLc : (Lc, listOf us.toArray nl) ∈ news) (mdB : (dB, dictOf (bufD w.params β G M Ls (.int pt tp) (.int zv tz) (.int ti tt) (.int ci tc)) 20) ∈ news) (mdT : (dT, dictOf (gapD w.params γ Cs (.int gs t1) (.int ge t2)) 4) ∈ news) (mCs : (Cs, listOf vs.toArray n) ∈ news) (mdG : (dG, dictOf (logD w.params δ Rw bv ev (.int gr tg)) 4) ∈ news) (mRw : (Rw, listOf rv.toArray nr) ∈ news) (ne_dB_Lc : @Ne Nat dB Lc) (ne_dT_Lc : @Ne Nat dT Lc) (ne_Cs_Lc : @Ne Nat Cs Lc) (ne_dG_Lc : @Ne Nat dG Lc) (ne_Rw_Lc : @Ne Nat Rw Lc) (adr : AdrOk D dB Bf dT G Cs dM M R Ls dG Lg Rw) (hi : IntsAre vs cells) (ok : GapOk cells gs ge) (hr1 : oR.IsDictOf (strKind prog w) []) (hr2 : (R == sysModules) = false) (hst : StV st bv ev) (hrv : rv.length ≤ 900) (hi2 : IntsAre us ms) (hz : cells.length ≤ 600000) (hz2 : ms.length ≤ 1000) (ha0 : 1 ≤ x) (hxy : x ≤ y) (ha1 : y - 1 + (ge - gs) ≤ cells.length) (hzv : zv = (cells.length : Int) - (ge - gs) + 1) (kA : ∀ q2 (ws : List Value) n2' h' tk', Fr h₀ L h' m → News h₀ L h' ((q2, listOf ws.toArray n2') :: news) → AllLt q2 news → Q (.ref q2) { s with heap := h', toks := tk' }) (kB : ∀ q q2 (ws : List Value) n2' zz' to1 to2 to3 pt' tp' tz' ti' tt' ci' tc' t1' t2' gs' ge' (vs' : List Value) (cells' : List Int) n' bv' ev' tg' nr' h' tk', Fr h₀ L h' m → NewsAll h₀ L h' [(dB, dictOf (bufD w.params β G M Ls (.int pt tp) (.int zv tz) (.int ti tt) (.int ci tc)) 20, dictOf (bufD w.params β G M Ls (.int pt' tp') (.int (zz') tz') (.int ti' tt') (.int ci' tc')) 20), (dT, dictOf (gapD w.params γ Cs (.int gs t1) (.int ge t2)) 4, dictOf (gapD w.params γ Cs (.int gs' t1') (.int ge' t2')) 4), (Cs, listOf vs.toArray n, listOf vs'.toArray n'), (dG, dictOf (logD w.params δ Rw bv ev (.int gr tg)) 4, dictOf (logD w.params δ Rw bv' ev' (.int (gr + (x + (ms.length : Int) - x - (y - x))) tg')) 4), (Rw, listOf rv.toArray nr, listOf (rv ++ [Value.ref q]).toArray nr')] news [(q, tup3 x (x + (ms.length : Int)) (y - x) to1 to2 to3), (q2, listOf ws.toArray n2')] → AllLt q news → AllLt q2 news → IntsAre vs' cells' → GapOk cells' gs' ge' → gapText cells' gs' ge' = (gapText cells gs ge).take (x - 1).toNat ++ ms ++ (gapText cells gs ge).drop (y - 1).toNat → (cells'.length : Int) ≤ cells.length + ms.length + 8 → (cells'.length : Int) - (ge' - gs') = cells.length - (ge - gs) + (x + (ms.length : Int) - x - (y - x)) → StV (stNext st x (x + (ms.length : Int)) ((y - x))) bv' ev' → zz' = zv + ((x + (ms.length : Int)) - x - (y - x)) → Q (.ref q2) { s with heap := h', toks := tk' }) : wpAny (model prog w) (ktrTop dp un gd cn cs L a ccd cl outer) (call (.ref 468) [.ref Bf, .int x tx, .int y ty, .ref Lc]) Q E s := replace_any_specU (hkl dp [un, a, L, D, dB, Bf, dT, G, Cs, dM, M, R, Ls, dG, Lg, Rw, n, t1, t2, tp, tz, tt, tc, tg, nr, nls, Lc, nl, tx, ty], hkl gs [ge, pt, zv, ti, ci, gr, x, y], hkl ccd [bv, ev], hkl vs [rv, us], hkl cells [ms], hkl mg [mb, m], hkl prog [p], hkl w [], hkl Q [E], hkl cn [], hkl s [], hkl oR [], hkl news [], hkl base [h₀], hkl A₀ [], hkl st [], hkl γ [], hkl β [], hkl δ [], hkl μ [], hkl cs [], hkl gd [], hkl loose [], hkl outer [], hkl mean [], hkl cl [], uB u0, uOA u0, uSm u0, uRs u0, uF u0, uOs u0, uAr u0) B F X N T hk hdp hun mB mG mM mdM mR mLs mLg mLc mdB mdT mCs mdG mRw ne_dB_Lc ne_dT_Lc ne_Cs_Lc ne_dG_Lc ne_Rw_Lc adr hi ok hr1 hr2 hst hrv hi2 hz hz2 ha0 hxy ha1 hzv kA kB
end
end
section
section
local macro_rules | `(tactic| kmk_sum) => `(tactic| (simp only [sizeLine_eq]; first | omega | (rw [List.length_append]; omega)))
set_option maxRecDepth 100000 in
set_option maxHeartbeats 8000000 in
theorem transp_specU (v : U) : (fun (prog : Program) (w : World) (p : Program) (loose : List Str) (mean : ExcName → Option Value) (mg : Str → Option Value) (mb : Str → Option Value) (dp : Nat) (un : Nat) (gd : Option (List Code)) (cn : Str) (cs : Scope) (a : Addr) (ccd : Value) (cl : List (Str × Addr)) (outer : List Env) (A₀ : Around) (base : Heap) (h₀ : Heap) (L : Addr) (m : Str → Option Value) (news : List (Addr × Obj)) (s : Shared) (Q : Value → Shared → Prop) (E : Value → Shared → Prop) (D : Addr) (dB : Addr) (Bf : Addr) (dT : Addr) (G : Addr) (Cs : Addr) (dM : Addr) (M : Addr) (R : Addr) (Ls : Addr) (dG : Addr) (Lg : Addr) (Rw : Addr) (γ : GT) (vs : List Value) (cells : List Int) (n : Nat) (gs : Int) (ge : Int) (t1 : Tok) (t2 : Tok) (β : BT) (pt : Int) (zv : Int) (ti : Int) (ci : Int) (tp : Tok) (tz : Tok) (tt : Tok) (tc : Tok) (δ : LT) (bv : Value) (ev : Value) (gr : Int) (tg : Tok) (rv : List Value) (nr : Nat) (st : Option (Int × Int)) (μ : MT) (oR : Obj) (nls : Nat) (P1 : Addr) (P2 : Addr) (x : Int) (y : Int) (c : Int) (d : Int) (a1 : Tok) (a2 : Tok) (a3 : Tok) (a4 : Tok) => ∀ (B : Below A₀ base outer h₀) (F : Fr h₀ L s.heap m) (X : (Mine.hd.heap_1 w.params).In h₀) (N : News h₀ L s.heap news) (T : Top p loose mean mg mb h₀) (hk : cs.kind = .function) (hdp : dp ≤ 510) (hun : un ≤ 4100) (mB : (Bf, instObj 361 dB) ∈ news) (mG : (G, instObj 150 dT) ∈ news) (mM : (M, instObj 220 dM) ∈ news) (mdM : (dM, dictOf (mkD w.params μ R) 1) ∈ news) (mR : (R, oR) ∈ news) (mLs : (Ls, listOf #[.ref Lg] nls) ∈ news) (mLg : (Lg, instObj 59 dG) ∈ news) (mP1 : (P1, tup2 x y a1 a2) ∈ news) (mP2 : (P2, tup2 c d a3 a4) ∈ news) (mdB : (dB, dictOf (bufD w.params β G M Ls (.int pt tp) (.int zv tz) (.int ti tt) (.int ci tc)) 20) ∈ news) (mdT : (dT, dictOf (gapD w.params γ Cs (.int gs t1) (.int ge t2)) 4) ∈ news) (mCs : (Cs, listOf vs.toArray n) ∈ news) (mdG : (dG, dictOf (logD w.params δ Rw bv ev (.int gr tg)) 4) ∈ news) (mRw : (Rw, listOf rv.toArray nr) ∈ news) (ne_dB_P1 : @Ne Nat dB P1) (ne_dB_P2 : @Ne Nat dB P2) (ne_dT_P1 : @Ne Nat dT P1) (ne_dT_P2 : @Ne Nat dT P2) (ne_Cs_P1 : @Ne Nat Cs P1) (ne_Cs_P2 : @Ne Nat Cs P2) (ne_dG_P1 : @Ne Nat dG P1) (ne_dG_P2 : @Ne Nat dG P2) (ne_Rw_P1 : @Ne Nat Rw P1) (ne_Rw_P2 : @Ne Nat Rw P2) (adr : AdrOk D dB Bf dT G Cs dM M R Ls dG Lg Rw) (hi : IntsAre vs cells) (ok : GapOk cells gs ge) (hr1 : oR.IsDictOf (strKind prog w) []) (hr2 : (R == sysModules) = false) (hst : StV st bv ev) (hrv : rv.length ≤ 900) (hz : cells.length ≤ 500000) (ha0 : 1 ≤ c) (ha1 : c ≤ d) (ha2 : d ≤ x) (ha3 : x ≤ y) (ha4 : y - 1 + (ge - gs) ≤ cells.length) (hy : y ≤ 500) (hcx : c < x ∨ x = y) (hzv : zv = (cells.length : Int) - (ge - gs) + 1) (kA : ∀ h' tk', Fr h₀ L h' m → News h₀ L h' (news) → Q (.none) { s with heap := h', toks := tk' }) (kB : ∀ q lo hi_ (xs : List Int) zz' to1 to2 to3 pt' tp' tz' ti' tt' ci' tc' t1' t2' gs' ge' (vs' : List Value) (cells' : List Int) n' bv' ev' tg' nr' h' tk', Fr h₀ L h' m → NewsAll h₀ L h' [(dB, dictOf (bufD w.params β G M Ls (.int pt tp) (.int zv tz) (.int ti tt) (.int ci tc)) 20, dictOf (bufD w.params β G M Ls (.int pt' tp') (.int (zz') tz') (.int ti' tt') (.int ci' tc')) 20), (dT, dictOf (gapD w.params γ Cs (.int gs t1) (.int ge t2)) 4, dictOf (gapD w.params γ Cs (.int gs' t1') (.int ge' t2')) 4), (Cs, listOf vs.toArray n, listOf vs'.toArray n'), (dG, dictOf (logD w.params δ Rw bv ev (.int gr tg)) 4, dictOf (logD w.params δ Rw bv' ev' (.int (gr + (lo + (xs.length : Int) - lo - (hi_ - lo))) tg')) 4), (Rw, listOf rv.toArray nr, listOf (rv ++ [Value.ref q]).toArray nr')] news [(q, tup3 lo (lo + (xs.length : Int)) (hi_ - lo) to1 to2 to3)] → AllLt q news → IntsAre vs' cells' → GapOk cells' gs' ge' → gapText cells' gs' ge' = (gapText cells gs ge).take (lo - 1).toNat ++ xs ++ (gapText cells gs ge).drop (hi_ - 1).toNat → (cells'.length : Int) ≤ cells.length + (xs.length : Int) + 8 → (cells'.length : Int) - (ge' - gs') = cells.length - (ge - gs) + (lo + (xs.length : Int) - lo - (hi_ - lo)) → StV (stNext st lo (lo + (xs.length : Int)) ((hi_ - lo))) bv' ev' → zz' = zv + ((lo + (xs.length : Int)) - lo - (hi_ - lo)) → 1 ≤ lo → lo ≤ hi_ → hi_ - 1 + (ge - gs) ≤ cells.length → (xs.length : Int) = hi_ - lo → Q (.none) { s with heap := h', toks := tk' }), wpAny (model prog w) (ktrTop dp un gd cn cs L a ccd cl outer) (call (.ref 475) [.ref Bf, .ref P1, .ref P2]) Q E s) (uPr v 0) (uW v 0) (uPr v 1) (uSs v 0) (uX v 0) (uM v 0) (uM v 1) (uN v 0) (uN v 1) (uCs v 0) (uS v 0) (uSc v 0) (uN v 2) (uV v 0) (uCl v 0) (uEs v 0) (uA v 0) (uH v 0) (uH v 1) (uN v 3) (uM v 2) (uL v 0) (uSh v 0) (uQ v 0) (uQ v 1) (uN v 4) (uN v 5) (uN v 6) (uN v 7) (uN v 8) (uN v 9) (uN v 10) (uN v 11) (uN v 12) (uN v 13) (uN v 14) (uN v 15) (uN v 16) (uGT v 0) (uVs v 0) (uIs v 0) (uN v 17) (uI v 0) (uI v 1) (uN v 18) (uN v 19) (uBT v 0) (uI v 2) (uI v 3) (uI v 4) (uI v 5) (uN v 20) (uN v 21) (uN v 22) (uN v 23) (uLT v 0) (uV v 1) (uV v 2) (uI v 6) (uN v 24) (uVs v 1) (uN v 25) (uSt v 0) (uMT v 0) (uO v 0) (uN v 26) (uN v 27) (uN v 28) (uI v 7) (uI v 8) (uI v 9) (uI v 10) (uN v 29) (uN v 30) (uN v 31) (uN v 32) := by
  revert v
  refine hkU ?_
  generalize ep _ _ = eU
  generalize uPr eU 0 = prog, uW eU 0 = w, uPr eU 1 = p, uSs eU 0 = loose, uX eU 0 = mean, uM eU 0 = mg, uM eU 1 = mb, uN eU 0 = dp, uN eU 1 = un, uCs eU 0 = gd, uS eU 0 = cn, uSc eU 0 = cs, uN eU 2 = a, uV eU 0 = ccd, uCl eU 0 = cl, uEs eU 0 = outer, uA eU 0 = A₀, uH eU 0 = base, uH eU 1 = h₀, uN eU 3 = L, uM eU 2 = m, uL eU 0 = news, uSh eU 0 = s, uQ eU 0 = Q, uQ eU 1 = E, uN eU 4 = D, uN eU 5 = dB, uN eU 6 = Bf, uN eU 7 = dT, uN eU 8 = G, uN eU 9 = Cs, uN eU 10 = dM, uN eU 11 = M, uN eU 12 = R, uN eU 13 = Ls, uN eU 14 = dG, uN eU 15 = Lg, uN eU 16 = Rw, uGT eU 0 = γ, uVs eU 0 = vs, uIs eU 0 = cells, uN eU 17 = n, uI eU 0 = gs, uI eU 1 = ge, uN eU 18 = t1, uN eU 19 = t2, uBT eU 0 = β, uI eU 2 = pt, uI eU 3 = zv, uI eU 4 = ti, uI eU 5 = ci, uN eU 20 = tp, uN eU 21 = tz, uN eU 22 = tt, uN eU 23 = tc, uLT eU 0 = δ, uV eU 1 = bv, uV eU 2 = ev, uI eU 6 = gr, uN eU 24 = tg, uVs eU 1 = rv, uN eU 25 = nr, uSt eU 0 = st, uMT eU 0 = μ, uO eU 0 = oR, uN eU 26 = nls, uN eU 27 = P1, uN eU 28 = P2, uI eU 7 = x, uI eU 8 = y, uI eU 9 = c, uI eU 10 = d, uN eU 29 = a1, uN eU 30 = a2, uN eU 31 = a3, uN eU 32 = a4
  clear eU
  refine fun B F X N T hk hdp hun mB mG mM mdM mR mLs mLg mP1 mP2 mdB mdT mCs mdG mRw ne_dB_P1 ne_dB_P2 ne_dT_P1 ne_dT_P2 ne_Cs_P1 ne_Cs_P2 ne_dG_P1 ne_dG_P2 ne_Rw_P1 ne_Rw_P2 adr hi ok hr1 hr2 hst hrv hz ha0 ha1 ha2 ha3 ha4 hy hcx hzv kA kB => ?_
  have N1 : News h₀ L s.heap ((Bf, instObj 361 dB) :: (G, instObj 150 dT) :: (M, instObj 220 dM) :: (dM, dictOf (mkD w.params μ R) 1) :: (R, oR) :: (Ls, listOf #[.ref Lg] nls) :: (Lg, instObj 59 dG) :: (P1, tup2 x y a1 a2) :: (P2, tup2 c d a3 a4) :: (dB, dictOf (bufD w.params β G M Ls (.int pt tp) (.int zv tz) (.int ti tt) (.int ci tc)) 20) :: (dT, dictOf (gapD w.params γ Cs (.int gs t1) (.int ge t2)) 4) :: (Cs, listOf vs.toArray n) :: (dG, dictOf (logD w.params δ Rw bv ev (.int gr tg)) 4) :: (Rw, listOf rv.toArray nr) :: (restOf [dB, dT, Cs, dG, Rw] news)) := by
    refine news_cons ?_ N mB
    refine news_cons ?_ N mG
    refine news_cons ?_ N mM
    refine news_cons ?_ N mdM
    refine news_cons ?_ N mR
    refine news_cons ?_ N mLs
    refine news_cons ?_ N mLg
    refine news_cons ?_ N mP1
    refine news_cons ?_ N mP2
    refine news_cons ?_ N mdB
    refine news_cons ?_ N mdT
    refine news_cons ?_ N mCs
    refine news_cons ?_ N mdG
    refine news_cons ?_ N mRw
    exact news_sub N restOf_in
  have off_dB : Off dB (restOf [dB, dT, Cs, dG, Rw] news) := restOf_off (by simp)
  have off_dT : Off dT (restOf [dB, dT, Cs, dG, Rw] news) := restOf_off (by simp)
  have off_Cs : Off Cs (restOf [dB, dT, Cs, dG, Rw] news) := restOf_off (by simp)
  have off_dG : Off dG (restOf [dB, dT, Cs, dG, Rw] news) := restOf_off (by simp)
  have off_Rw : Off Rw (restOf [dB, dT, Cs, dG, Rw] news) := restOf_off (by simp)
  have kA' : ∀ h' tk', Fr h₀ L h' m → News h₀ L h' ((dB, dictOf (bufD w.params β G M Ls (.int pt tp) (.int zv tz) (.int ti tt) (.int ci tc)) 20) :: (dT, dictOf (gapD w.params γ Cs (.int gs t1) (.int ge t2)) 4) :: (Cs, listOf vs.toArray n) :: (dG, dictOf (logD w.params δ Rw bv ev (.int gr tg)) 4) :: (Rw, listOf rv.toArray nr) :: (restOf [dB, dT, Cs, dG, Rw] news)) → Q (.none) { s with heap := h', toks := tk' } := by
    intro h' tk' F' N'  
    exact kA _ _ F' (news_back3 (us := []) (same := [(dB, dictOf (bufD w.params β G M Ls (.int pt tp) (.int zv tz) (.int ti tt) (.int ci tc)) 20), (dT, dictOf (gapD w.params γ Cs (.int gs t1) (.int ge t2)) 4), (Cs, listOf vs.toArray n), (dG, dictOf (logD w.params δ Rw bv ev (.int gr tg)) 4), (Rw, listOf rv.toArray nr)]) (fresh := []) (adr := [dB, dT, Cs, dG, Rw]) N (fun p hp => by simp only [List.mem_cons, List.not_mem_nil, or_false] at hp; rcases hp with rfl | rfl | rfl | rfl | rfl <;> assumption) .nil (by simp) N')  
  have kB' : ∀ q lo hi_ (xs : List Int) zz' to1 to2 to3 pt' tp' tz' ti' tt' ci' tc' t1' t2' gs' ge' (vs' : List Value) (cells' : List Int) n' bv' ev' tg' nr' h' tk', Fr h₀ L h' m → News h₀ L h' ((q, tup3 lo (lo + (xs.length : Int)) (hi_ - lo) to1 to2 to3) :: (dB, dictOf (bufD w.params β G M Ls (.int pt' tp') (.int (zz') tz') (.int ti' tt') (.int ci' tc')) 20) :: (dT, dictOf (gapD w.params γ Cs (.int gs' t1') (.int ge' t2')) 4) :: (Cs, listOf vs'.toArray n') :: (dG, dictOf (logD w.params δ Rw bv' ev' (.int (gr + (lo + (xs.length : Int) - lo - (hi_ - lo))) tg')) 4) :: (Rw, listOf (rv ++ [Value.ref q]).toArray nr') :: (restOf [dB, dT, Cs, dG, Rw] news)) → @LT.lt Nat _ dB q → @LT.lt Nat _ dT q → @LT.lt Nat _ Cs q → @LT.lt Nat _ dG q → @LT.lt Nat _ Rw q → AllLt q (restOf [dB, dT, Cs, dG, Rw] news) → IntsAre vs' cells' → GapOk cells' gs' ge' → gapText cells' gs' ge' = (gapText cells gs ge).take (lo - 1).toNat ++ xs ++ (gapText cells gs ge).drop (hi_ - 1).toNat → (cells'.length : Int) ≤ cells.length + (xs.length : Int) + 8 → (cells'.length : Int) - (ge' - gs') = cells.length - (ge - gs) + (lo + (xs.length : Int) - lo - (hi_ - lo)) → StV (stNext st lo (lo + (xs.length : Int)) ((hi_ - lo))) bv' ev' → zz' = zv + ((lo + (xs.length : Int)) - lo - (hi_ - lo)) → 1 ≤ lo → lo ≤ hi_ → hi_ - 1 + (ge - gs) ≤ cells.length → (xs.length : Int) = hi_ - lo → Q (.none) { s with heap := h', toks := tk' } := by
    intro q lo hi_ xs zz' to1 to2 to3 pt' tp' tz' ti' tt' ci' tc' t1' t2' gs' ge' vs' cells' n' bv' ev' tg' nr' h' tk' F' N' l0_0 l0_1 l0_2 l0_3 l0_4 lr0 f0 f1 f2 f3 f4 f5 f6 f7 f8 f9 f10
    exact kB _ _ _ _ _ _ _ _ _ _ _ _ _ _ _ _ _ _ _ _ _ _ _ _ _ _ _ _ F' (fun news' U => news_back3 (us := [(dB, dictOf (bufD w.params β G M Ls (.int pt tp) (.int zv tz) (.int ti tt) (.int ci tc)) 20, dictOf (bufD w.params β G M Ls (.int pt' tp') (.int (zz') tz') (.int ti' tt') (.int ci' tc')) 20), (dT, dictOf (gapD w.params γ Cs (.int gs t1) (.int ge t2)) 4, dictOf (gapD w.params γ Cs (.int gs' t1') (.int ge' t2')) 4), (Cs, listOf vs.toArray n, listOf vs'.toArray n'), (dG, dictOf (logD w.params δ Rw bv ev (.int gr tg)) 4, dictOf (logD w.params δ Rw bv' ev' (.int (gr + (lo + (xs.length : Int) - lo - (hi_ - lo))) tg')) 4), (Rw, listOf rv.toArray nr, listOf (rv ++ [Value.ref q]).toArray nr')]) (same := []) (fresh := [(q, tup3 lo (lo + (xs.length : Int)) (hi_ - lo) to1 to2 to3)]) (adr := [dB, dT, Cs, dG, Rw]) N (fun p hp => nomatch hp) U (by simp) N') (lt_back (foot := [dB, dT, Cs, dG, Rw]) (fun b hb => by simp only [List.mem_cons, List.not_mem_nil, or_false] at hb; rcases hb with rfl | rfl | rfl | rfl | rfl <;> assumption) lr0) f0 f1 f2 f3 f4 f5 f6 f7 f8 f9 f10
  generalize (restOf [dB, dT, Cs, dG, Rw] news) = rest at *
  clear N kA kB mB mG mM mdM mR mLs mLg mP1 mP2 mdB mdT mCs mdG mRw
  refine wpAny_call ?_
  k_dflt ktr_enter
  have ok' := ok
  have adr' := adr
  obtain ⟨ok0, ok1, ok2⟩ := ok'
  obtain ⟨ad0, ad1, ad2, ad3, ad4, ad5, ad6, ad7, ad8, ad9, ad10, ad11⟩ := adr'
  obtain ⟨al0, al1, al2, al3, al4, al5, al6, al7, al8, al9, al10, al11⟩ := adr_lts adr
  have htx := gapText_len ok
  by_cases hcx2 : c < x
  · have hL := cut3_len (T := gapText cells gs ge) ha0 ha1 ha2 ha3 (by omega)
    have hL1 := cut_le (T := gapText cells gs ge) (a := c) (b := d) (n := 500) (by omega)
    have hL2 := cut_le (T := gapText cells gs ge) (a := d) (b := x) (n := 500) (by omega)
    have hL3 := cut_le (T := gapText cells gs ge) (a := x) (b := y) (n := 500) (by omega)
    (repeat' (first | (with_reducible ((with_reducible show LCg.FinE ..); (unfold LCg.FinE; intro D' h' tk' F' N' o1'; replace o1' := offL_of o1'; (try simp only [List.nil_append, List.cons_append] at N'); (try dsimp only)))) | (with_reducible (((with_reducible show wpAny _ _ (call (Value.ref 468) _) _ _ _); (rename ¬ (_ = _) => hne9); exact absurd (by simp only [Int.sub_self, Int.toNat_zero, List.take_zero]) hne9))) | (with_reducible ((with_reducible show wpAny _ _ (subscriptTail (Expr.Name ..) (Expr.Constant ..) (Value.ref _) (Value.int _ _)) _ _ _); ((k_dflt (refine' item_tupleT (by exact News.isTup (by k_asm) (by k_mem)) (by decide) (by decide) (by rfl) (by rfl) ?_; k_whole))))) | (k_unfold; (try dsimp only)) | (k_end; kc_close) | walk1 | (dsimp only; walk1) | (leave1; walk_say "STEP leave1"; (try dsimp only)) | fail "no step"))
    all_goals first
      | (with_reducible rename StV (stNext _ _ _ _) _ _ => sB9; exact kB' _ _ _ _ _ _ _ _ _ _ _ _ _ _ _ _ _ _ _ _ _ _ _ _ _ _ _ _ (by assumption) (by ktr_rel) (by tb_start) (by tb_start) (by tb_start) (by tb_start) (by tb_start) (by tb_start) (by assumption) (by assumption) (by assumption) (by assumption) (by assumption) (by assumption) (by assumption) (by omega) (by omega) (by omega) (by omega))
      | exact kA' _ _ (by assumption) (by ktr_rel)
  · have e1 : d = c := by omega
    have e2 : x = c := by omega
    have e3 : y = c := by omega
    subst e1 e2 e3
    (repeat' (first | (with_reducible ((with_reducible show LCg.FinE ..); (unfold LCg.FinE; intro D' h' tk' F' N' o1'; replace o1' := offL_of o1'; (try simp only [List.nil_append, List.cons_append] at N'); (try dsimp only)))) | (with_reducible (((with_reducible show wpAny _ _ (call (Value.ref 468) _) _ _ _); (rename ¬ (_ = _) => hne9); exact absurd (by simp only [Int.sub_self, Int.toNat_zero, List.take_zero]) hne9))) | (with_reducible ((with_reducible show wpAny _ _ (subscriptTail (Expr.Name ..) (Expr.Constant ..) (Value.ref _) (Value.int _ _)) _ _ _); ((k_dflt (refine' item_tupleT (by exact News.isTup (by k_asm) (by k_mem)) (by decide) (by decide) (by rfl) (by rfl) ?_; k_whole))))) | (k_unfold; (try dsimp only)) | (k_end; kc_close) | walk1 | (dsimp only; walk1) | (leave1; walk_say "STEP leave1"; (try dsimp only)) | fail "no step"))
    all_goals exact kA' _ _ (by assumption) (by ktr_rel)
theorem transp_spec {prog : Program} {w : World} {p : Program} {loose : List Str} {mean : ExcName → Option Value} {mg : Str → Option Value} {mb : Str → Option Value} {dp : Nat} {un : Nat} {gd : Option (List Code)} {cn : Str} {cs : Scope} {a : Addr} {ccd : Value} {cl : List (Str × Addr)} {outer : List Env} {A₀ : Around} {base : Heap} {h₀ : Heap} {L : Addr} {m : Str → Option Value} {news : List (Addr × Obj)} {s : Shared} {Q : Value → Shared → Prop} {E : Value → Shared → Prop} {D : Addr} {dB : Addr} {Bf : Addr} {dT : Addr} {G : Addr} {Cs : Addr} {dM : Addr} {M : Addr} {R : Addr} {Ls : Addr} {dG : Addr} {Lg : Addr} {Rw : Addr} {γ : GT} {vs : List Value} {cells : List Int} {n : Nat} {gs : Int} {ge : Int} {t1 : Tok} {t2 : Tok} {β : BT} {pt : Int} {zv : Int} {ti : Int} {ci : Int} {tp : Tok} {tz : Tok} {tt : Tok} {tc : Tok} {δ : LT} {bv : Value} {ev : Value} {gr : Int} {tg : Tok} {rv : List Value} {nr : Nat} {st : Option (Int × Int)} {μ : MT} {oR : Obj} {nls : Nat} {P1 : Addr} {P2 : Addr} {x : Int} {y : Int} {c : Int} {d : Int} {a1 : Tok} {a2 : Tok} {a3 : Tok} {a4 : Tok} (B : Below A₀ base outer h₀) (F : Fr h₀ L s.heap m) (X : (Mine.hd.heap_1 w.params).In h₀) (N : News h₀ L s.heap news) (T : Top p loose mean mg mb h₀) (hk : cs.kind = .function) (hdp : dp ≤ 510) (hun : un ≤ 4100) (mB : (Bf, instObj 361 dB) ∈ news) (mG : (G, instObj 150 dT) ∈ news) (mM : (M, instObj 220 dM) ∈ news) (mdM : (dM, dictOf (mkD w.params μ R) 1) ∈ news) (mR : (R, oR) ∈ news) (mLs : (Ls, listOf #[.ref Lg] nls) ∈ news) (mLg : (Lg, instObj 59 dG) ∈ news) (mP1 : (P1, tup2 x y a1 a2) ∈ news) (mP2 : (P2, tup2 c d a3 a4) ∈ news) (mdB : (dB, dictOf (bufD w.params β G M Ls (.int pt tp) (.int zv tz) (.int ti tt) (.int ci tc)) 20) ∈ news) (mdT : (dT, dictOf (gapD w.params γ Cs (.int gs t1) (.int ge t2)) 4) ∈ news) (mCs : (Cs, listOf vs.toArray n) ∈ news) (mdG : (dG, dictOf (logD w.params δ Rw bv ev (.int gr tg)) 4) ∈ news) (mRw : (Rw, listOf rv.toArray nr) ∈ news) (ne_dB_P1 : @Ne Nat dB P1) (ne_dB_P2 : @Ne Nat dB P2) (ne_dT_P1 : @Ne Nat dT P1) (ne_dT_P2 : @Ne Nat dT P2) (ne_Cs_P1 : @Ne Nat Cs P1) (ne_Cs_P2 : @Ne Nat Cs P2) (ne_dG_P1 : @Ne Nat dG P1) (ne_dG_P2 : @Ne Nat dG P2) (ne_Rw_P1 : @Ne Nat Rw P1) (ne_Rw_P2 : @Ne Nat Rw P2) (adr : AdrOk D dB Bf dT G Cs dM M R Ls dG Lg Rw) (hi : IntsAre vs cells) (ok : GapOk cells gs ge) (hr1 : oR.IsDictOf (strKind prog w) []) (hr2 : (R == sysModules) = false) (hst : StV st bv ev) (hrv : rv.length ≤ 900) (hz : cells.length ≤ 500000) (ha0 : 1 ≤ c) (ha1 : c ≤ d) (ha2 : d ≤ x) (ha3 : x ≤ y) (ha4 : y - 1 + (ge - gs) ≤ cells.length) (hy : y ≤ 500) (hcx : c < x ∨ x = y) (hzv : zv = (cells.length : Int) - (ge - gs) + 1) (kA : ∀ h' tk', Fr h₀ L h' m → News h₀ L h' (news) → Q (.none) { s with heap := h', toks := tk' }) (kB : ∀ q lo hi_ (xs : List Int) zz' to1 to2 to3 pt' tp' tz' ti' tt' ci' tc' t1' t2' gs' ge' (vs' : List Value) (cells' : List Int) n' bv' ev' tg' nr' h' tk', Fr h₀ L h' m → NewsAll h₀ L h' [(dB, dictOf (bufD w.params β G M Ls (.int pt tp) (.int zv tz) (.int ti tt) (.int ci tc)) 20, dictOf (bufD w.params β G M Ls (.int pt' tp') (.int (zz') tz') (.int ti' tt') (.int ci' tc')) 20), (dT, dictOf (gapD w.params γ Cs (.int gs t1) (.int ge t2)) 4, dictOf (gapD w.params γ Cs (.int gs' t1') (.int ge' t2')) 4), (Cs, listOf vs.toArray n, listOf vs'.toArray n'), (dG, dictOf (logD w.params δ Rw bv ev (.int gr tg)) 4, dictOf (logD w.params δ Rw bv' ev' (.int (gr + (lo + (xs.length : Int) - lo - (hi_ - lo))) tg')) 4), (Rw, listOf rv.toArray nr, listOf (rv ++ [Value.ref q]).toArray nr')] news [(q, tup3 lo (lo + (xs.length : Int)) (hi_ - lo) to1 to2 to3)] → AllLt q news → IntsAre vs' cells' → GapOk cells' gs' ge' → gapText cells' gs' ge' = (gapText cells gs ge).take (lo - 1).toNat ++ xs ++ (gapText cells gs ge).drop (hi_ - 1).toNat → (cells'.length : Int) ≤ cells.length + (xs.length : Int) + 8 → (cells'.length : Int) - (ge' - gs') = cells.length - (ge - gs) + (lo + (xs.length : Int) - lo - (hi_ - lo)) → StV (stNext st lo (lo + (xs.length : Int)) ((hi_ - lo))) bv' ev' → zz' = zv + ((lo + (xs.length : Int)) - lo - (hi_ - lo)) → 1 ≤ lo → lo ≤ hi_ → hi_ - 1 + (ge - gs) ≤ cells.length → (xs.length : Int) = hi_ - lo → Q (.none) { s with heap := h', toks := tk' }) : wpAny (model prog w) (ktrTop dp un gd cn cs L a ccd cl outer) (call (.ref 475) [.ref Bf, .ref P1, .ref P2]) Q E s := transp_specU (hkl dp [un, a, L, D, dB, Bf, dT, G, Cs, dM, M, R, Ls, dG, Lg, Rw, n, t1, t2, tp, tz, tt, tc, tg, nr, nls, P1, P2, a1, a2, a3, a4], hkl gs [ge, pt, zv, ti, ci, gr, x, y, c, d], hkl ccd [bv, ev], hkl vs [rv], hkl cells [], hkl mg [mb, m], hkl prog [p], hkl w [], hkl Q [E], hkl cn [], hkl s [], hkl oR [], hkl news [], hkl base [h₀], hkl A₀ [], hkl st [], hkl γ [], hkl β [], hkl δ [], hkl μ [], hkl cs [], hkl gd [], hkl loose [], hkl outer [], hkl mean [], hkl cl [], uB u0, uOA u0, uSm u0, uRs u0, uF u0, uOs u0, uAr u0) B F X N T hk hdp hun mB mG mM mdM mR mLs mLg mP1 mP2 mdB mdT mCs mdG mRw ne_dB_P1 ne_dB_P2 ne_dT_P1 ne_dT_P2 ne_Cs_P1 ne_Cs_P2 ne_dG_P1 ne_dG_P2 ne_Rw_P1 ne_Rw_P2 adr hi ok hr1 hr2 hst hrv hz ha0 ha1 ha2 ha3 ha4 hy hcx hzv kA kB
set_option maxRecDepth 100000 in
set_option maxHeartbeats 8000000 in
theorem edit_specU (v : U) : (fun (prog : Program) (w : World) (p : Program) (loose : List Str) (mean : ExcName → Option Value) (mg : Str → Option Value) (mb : Str → Option Value) (dp : Nat) (un : Nat) (gd : Option (List Code)) (cn : Str) (cs : Scope) (a : Addr) (ccd : Value) (cl : List (Str × Addr)) (outer : List Env) (A₀ : Around) (base : Heap) (h₀ : Heap) (L : Addr) (m : Str → Option Value) (news : List (Addr × Obj)) (s : Shared) (Q : Value → Shared → Prop) (E : Value → Shared → Prop) (D : Addr) (dB : Addr) (Bf : Addr) (dT : Addr) (G : Addr) (Cs : Addr) (dM : Addr) (M : Addr) (R : Addr) (Ls : Addr) (dG : Addr) (Lg : Addr) (Rw : Addr) (γ : GT) (vs : List Value) (cells : List Int) (n : Nat) (gs : Int) (ge : Int) (t1 : Tok) (t2 : Tok) (β : BT) (pt : Int) (zv : Int) (ti : Int) (ci : Int) (tp : Tok) (tz : Tok) (tt : Tok) (tc : Tok) (δ : LT) (bv : Value) (ev : Value) (gr : Int) (tg : Tok) (rv : List Value) (nr : Nat) (st : Option (Int × Int)) (μ : MT) (oR : Obj) (nls : Nat) (dv : List Value) (ds : List Int) (nd : Nat) (lap : Int) (tl : Tok) => ∀ (B : Below A₀ base outer h₀) (F : Fr h₀ L s.heap m) (X : (Mine.hd.heap_1 w.params).In h₀) (N : News h₀ L s.heap news) (T : Top p loose mean mg mb h₀) (hk : cs.kind = .function) (hdp : dp ≤ 490) (hun : un ≤ 3900) (mB : (Bf, instObj 361 dB) ∈ news) (mG : (G, instObj 150 dT) ∈ news) (mM : (M, instObj 220 dM) ∈ news) (mdM : (dM, dictOf (mkD w.params μ R) 1) ∈ news) (mR : (R, oR) ∈ news) (mLs : (Ls, listOf #[.ref Lg] nls) ∈ news) (mLg : (Lg, instObj 59 dG) ∈ news) (mD : (D, listOf dv.toArray nd) ∈ news) (mdB : (dB, dictOf (bufD w.params β G M Ls (.int pt tp) (.int zv tz) (.int ti tt) (.int ci tc)) 20) ∈ news) (mdT : (dT, dictOf (gapD w.params γ Cs (.int gs t1) (.int ge t2)) 4) ∈ news) (mCs : (Cs, listOf vs.toArray n) ∈ news) (mdG : (dG, dictOf (logD w.params δ Rw bv ev (.int gr tg)) 4) ∈ news) (mRw : (Rw, listOf rv.toArray nr) ∈ news) (adr : AdrOk D dB Bf dT G Cs dM M R Ls dG Lg Rw) (hi : IntsAre vs cells) (ok : GapOk cells gs ge) (hr1 : oR.IsDictOf (strKind prog w) []) (hr2 : (R == sysModules) = false) (hst : StV st bv ev) (hrv : rv.length ≤ 900) (hdi : IntsAre dv ds) (hdo : DeckOk ds) (hz : cells.length ≤ 400000) (htx : (cells.length : Int) - (ge - gs) ≤ 400) (hl0 : 0 ≤ lap) (hl1 : lap ≤ 5) (hzv : zv = (cells.length : Int) - (ge - gs) + 1) (kA : ∀ (es' : List Value) (ds' : List Int) nd' h' tk', Fr h₀ L h' m → NewsAll h₀ L h' [(D, listOf dv.toArray nd, listOf es'.toArray nd')] news [] → IntsAre es' ds' → DeckOk ds' → Q (.none) { s with heap := h', toks := tk' }) (kB : ∀ q (es' : List Value) (ds' : List Int) nd' lo hi_ (xs : List Int) zz' to1 to2 to3 pt' tp' tz' ti' tt' ci' tc' t1' t2' gs' ge' (vs' : List Value) (cells' : List Int) n' bv' ev' tg' nr' h' tk', Fr h₀ L h' m → NewsAll h₀ L h' [(D, listOf dv.toArray nd, listOf es'.toArray nd'), (dB, dictOf (bufD w.params β G M Ls (.int pt tp) (.int zv tz) (.int ti tt) (.int ci tc)) 20, dictOf (bufD w.params β G M Ls (.int pt' tp') (.int (zz') tz') (.int ti' tt') (.int ci' tc')) 20), (dT, dictOf (gapD w.params γ Cs (.int gs t1) (.int ge t2)) 4, dictOf (gapD w.params γ Cs (.int gs' t1') (.int ge' t2')) 4), (Cs, listOf vs.toArray n, listOf vs'.toArray n'), (dG, dictOf (logD w.params δ Rw bv ev (.int gr tg)) 4, dictOf (logD w.params δ Rw bv' ev' (.int (gr + (lo + (xs.length : Int) - lo - (hi_ - lo))) tg')) 4), (Rw, listOf rv.toArray nr, listOf (rv ++ [Value.ref q]).toArray nr')] news [(q, tup3 lo (lo + (xs.length : Int)) (hi_ - lo) to1 to2 to3)] → AllLt q news → IntsAre vs' cells' → GapOk cells' gs' ge' → gapText cells' gs' ge' = (gapText cells gs ge).take (lo - 1).toNat ++ xs ++ (gapText cells gs ge).drop (hi_ - 1).toNat → (cells'.length : Int) ≤ cells.length + (xs.length : Int) + 8 → (cells'.length : Int) - (ge' - gs') = cells.length - (ge - gs) + (lo + (xs.length : Int) - lo - (hi_ - lo)) → StV (stNext st lo (lo + (xs.length : Int)) ((hi_ - lo))) bv' ev' → zz' = zv + ((lo + (xs.length : Int)) - lo - (hi_ - lo)) → 1 ≤ lo → lo ≤ hi_ → hi_ - 1 + (ge - gs) ≤ cells.length → (xs.length : Int) ≤ hi_ - lo + 3 → IntsAre es' ds' → DeckOk ds' → Q (.none) { s with heap := h', toks := tk' }), wpAny (model prog w) (ktrTop dp un gd cn cs L a ccd cl outer) (call (.ref 506) [.ref D, .ref Bf, .int lap tl]) Q E s) (uPr v 0) (uW v 0) (uPr v 1) (uSs v 0) (uX v 0) (uM v 0) (uM v 1) (uN v 0) (uN v 1) (uCs v 0) (uS v 0) (uSc v 0) (uN v 2) (uV v 0) (uCl v 0) (uEs v 0) (uA v 0) (uH v 0) (uH v 1) (uN v 3) (uM v 2) (uL v 0) (uSh v 0) (uQ v 0) (uQ v 1) (uN v 4) (uN v 5) (uN v 6) (uN v 7) (uN v 8) (uN v 9) (uN v 10) (uN v 11) (uN v 12) (uN v 13) (uN v 14) (uN v 15) (uN v 16) (uGT v 0) (uVs v 0) (uIs v 0) (uN v 17) (uI v 0) (uI v 1) (uN v 18) (uN v 19) (uBT v 0) (uI v 2) (uI v 3) (uI v 4) (uI v 5) (uN v 20) (uN v 21) (uN v 22) (uN v 23) (uLT v 0) (uV v 1) (uV v 2) (uI v 6) (uN v 24) (uVs v 1) (uN v 25) (uSt v 0) (uMT v 0) (uO v 0) (uN v 26) (uVs v 2) (uIs v 1) (uN v 27) (uI v 7) (uN v 28) := by
  revert v
  refine hkU ?_
  generalize ep _ _ = eU
  generalize uPr eU 0 = prog, uW eU 0 = w, uPr eU 1 = p, uSs eU 0 = loose, uX eU 0 = mean, uM eU 0 = mg, uM eU 1 = mb, uN eU 0 = dp, uN eU 1 = un, uCs eU 0 = gd, uS eU 0 = cn, uSc eU 0 = cs, uN eU 2 = a, uV eU 0 = ccd, uCl eU 0 = cl, uEs eU 0 = outer, uA eU 0 = A₀, uH eU 0 = base, uH eU 1 = h₀, uN eU 3 = L, uM eU 2 = m, uL eU 0 = news, uSh eU 0 = s, uQ eU 0 = Q, uQ eU 1 = E, uN eU 4 = D, uN eU 5 = dB, uN eU 6 = Bf, uN eU 7 = dT, uN eU 8 = G, uN eU 9 = Cs, uN eU 10 = dM, uN eU 11 = M, uN eU 12 = R, uN eU 13 = Ls, uN eU 14 = dG, uN eU 15 = Lg, uN eU 16 = Rw, uGT eU 0 = γ, uVs eU 0 = vs, uIs eU 0 = cells, uN eU 17 = n, uI eU 0 = gs, uI eU 1 = ge, uN eU 18 = t1, uN eU 19 = t2, uBT eU 0 = β, uI eU 2 = pt, uI eU 3 = zv, uI eU 4 = ti, uI eU 5 = ci, uN eU 20 = tp, uN eU 21 = tz, uN eU 22 = tt, uN eU 23 = tc, uLT eU 0 = δ, uV eU 1 = bv, uV eU 2 = ev, uI eU 6 = gr, uN eU 24 = tg, uVs eU 1 = rv, uN eU 25 = nr, uSt eU 0 = st, uMT eU 0 = μ, uO eU 0 = oR, uN eU 26 = nls, uVs eU 2 = dv, uIs eU 1 = ds, uN eU 27 = nd, uI eU 7 = lap, uN eU 28 = tl
  clear eU
  refine fun B F X N T hk hdp hun mB mG mM mdM mR mLs mLg mD mdB mdT mCs mdG mRw adr hi ok hr1 hr2 hst hrv hdi hdo hz htx hl0 hl1 hzv kA kB => ?_
  have N1 : News h₀ L s.heap ((Bf, instObj 361 dB) :: (G, instObj 150 dT) :: (M, instObj 220 dM) :: (dM, dictOf (mkD w.params μ R) 1) :: (R, oR) :: (Ls, listOf #[.ref Lg] nls) :: (Lg, instObj 59 dG) :: (D, listOf dv.toArray nd) :: (dB, dictOf (bufD w.params β G M Ls (.int pt tp) (.int zv tz) (.int ti tt) (.int ci tc)) 20) :: (dT, dictOf (gapD w.params γ Cs (.int gs t1) (.int ge t2)) 4) :: (Cs, listOf vs.toArray n) :: (dG, dictOf (logD w.params δ Rw bv ev (.int gr tg)) 4) :: (Rw, listOf rv.toArray nr) :: (restOf [D, dB, dT, Cs, dG, Rw] news)) := by
    refine news_cons ?_ N mB
    refine news_cons ?_ N mG
    refine news_cons ?_ N mM
    refine news_cons ?_ N mdM
    refine news_cons ?_ N mR
    refine news_cons ?_ N mLs
    refine news_cons ?_ N mLg
    refine news_cons ?_ N mD
    refine news_cons ?_ N mdB
    refine news_cons ?_ N mdT
    refine news_cons ?_ N mCs
    refine news_cons ?_ N mdG
    refine news_cons ?_ N mRw
    exact news_sub N restOf_in
  have off_D : Off D (restOf [D, dB, dT, Cs, dG, Rw] news) := restOf_off (by simp)
  have off_dB : Off dB (restOf [D, dB, dT, Cs, dG, Rw] news) := restOf_off (by simp)
  have off_dT : Off dT (restOf [D, dB, dT, Cs, dG, Rw] news) := restOf_off (by simp)
  have off_Cs : Off Cs (restOf [D, dB, dT, Cs, dG, Rw] news) := restOf_off (by simp)
  have off_dG : Off dG (restOf [D, dB, dT, Cs, dG, Rw] news) := restOf_off (by simp)
  have off_Rw : Off Rw (restOf [D, dB, dT, Cs, dG, Rw] news) := restOf_off (by simp)
  have kA' : ∀ (es' : List Value) (ds' : List Int) nd' h' tk', Fr h₀ L h' m → News h₀ L h' ((D, listOf es'.toArray nd') :: (dB, dictOf (bufD w.params β G M Ls (.int pt tp) (.int zv tz) (.int ti tt) (.int ci tc)) 20) :: (dT, dictOf (gapD w.params γ Cs (.int gs t1) (.int ge t2)) 4) :: (Cs, listOf vs.toArray n) :: (dG, dictOf (logD w.params δ Rw bv ev (.int gr tg)) 4) :: (Rw, listOf rv.toArray nr) :: (restOf [D, dB, dT, Cs, dG, Rw] news)) → IntsAre es' ds' → DeckOk ds' → Q (.none) { s with heap := h', toks := tk' } := by
    intro es' ds' nd' h' tk' F' N'  f0 f1
    exact kA _ _ _ _ _ F' (fun news' U => news_back3 (us := [(D, listOf dv.toArray nd, listOf es'.toArray nd')]) (same := [(dB, dictOf (bufD w.params β G M Ls (.int pt tp) (.int zv tz) (.int ti tt) (.int ci tc)) 20), (dT, dictOf (gapD w.params γ Cs (.int gs t1) (.int ge t2)) 4), (Cs, listOf vs.toArray n), (dG, dictOf (logD w.params δ Rw bv ev (.int gr tg)) 4), (Rw, listOf rv.toArray nr)]) (fresh := []) (adr := [D, dB, dT, Cs, dG, Rw]) N (fun p hp => by simp only [List.mem_cons, List.not_mem_nil, or_false] at hp; rcases hp with rfl | rfl | rfl | rfl | rfl <;> assumption) U (by simp) N')  f0 f1
  have kB' : ∀ q (es' : List Value) (ds' : List Int) nd' lo hi_ (xs : List Int) zz' to1 to2 to3 pt' tp' tz' ti' tt' ci' tc' t1' t2' gs' ge' (vs' : List Value) (cells' : List Int) n' bv' ev' tg' nr' h' tk', Fr h₀ L h' m → News h₀ L h' ((q, tup3 lo (lo + (xs.length : Int)) (hi_ - lo) to1 to2 to3) :: (D, listOf es'.toArray nd') :: (dB, dictOf (bufD w.params β G M Ls (.int pt' tp') (.int (zz') tz') (.int ti' tt') (.int ci' tc')) 20) :: (dT, dictOf (gapD w.params γ Cs (.int gs' t1') (.int ge' t2')) 4) :: (Cs, listOf vs'.toArray n') :: (dG, dictOf (logD w.params δ Rw bv' ev' (.int (gr + (lo + (xs.length : Int) - lo - (hi_ - lo))) tg')) 4) :: (Rw, listOf (rv ++ [Value.ref q]).toArray nr') :: (restOf [D, dB, dT, Cs, dG, Rw] news)) → @LT.lt Nat _ D q → @LT.lt Nat _ dB q → @LT.lt Nat _ dT q → @LT.lt Nat _ Cs q → @LT.lt Nat _ dG q → @LT.lt Nat _ Rw q → AllLt q (restOf [D, dB, dT, Cs, dG, Rw] news) → IntsAre vs' cells' → GapOk cells' gs' ge' → gapText cells' gs' ge' = (gapText cells gs ge).take (lo - 1).toNat ++ xs ++ (gapText cells gs ge).drop (hi_ - 1).toNat → (cells'.length : Int) ≤ cells.length + (xs.length : Int) + 8 → (cells'.length : Int) - (ge' - gs') = cells.length - (ge - gs) + (lo + (xs.length : Int) - lo - (hi_ - lo)) → StV (stNext st lo (lo + (xs.length : Int)) ((hi_ - lo))) bv' ev' → zz' = zv + ((lo + (xs.length : Int)) - lo - (hi_ - lo)) → 1 ≤ lo → lo ≤ hi_ → hi_ - 1 + (ge - gs) ≤ cells.length → (xs.length : Int) ≤ hi_ - lo + 3 → IntsAre es' ds' → DeckOk ds' → Q (.none) { s with heap := h', toks := tk' } := by
    intro q es' ds' nd' lo hi_ xs zz' to1 to2 to3 pt' tp' tz' ti' tt' ci' tc' t1' t2' gs' ge' vs' cells' n' bv' ev' tg' nr' h' tk' F' N' l0_0 l0_1 l0_2 l0_3 l0_4 l0_5 lr0 f0 f1 f2 f3 f4 f5 f6 f7 f8 f9 f10 f11 f12
    exact kB _ _ _ _ _ _ _ _ _ _ _ _ _ _ _ _ _ _ _ _ _ _ _ _ _ _ _ _ _ _ _ F' (fun news' U => news_back3 (us := [(D, listOf dv.toArray nd, listOf es'.toArray nd'), (dB, dictOf (bufD w.params β G M Ls (.int pt tp) (.int zv tz) (.int ti tt) (.int ci tc)) 20, dictOf (bufD w.params β G M Ls (.int pt' tp') (.int (zz') tz') (.int ti' tt') (.int ci' tc')) 20), (dT, dictOf (gapD w.params γ Cs (.int gs t1) (.int ge t2)) 4, dictOf (gapD w.params γ Cs (.int gs' t1') (.int ge' t2')) 4), (Cs, listOf vs.toArray n, listOf vs'.toArray n'), (dG, dictOf (logD w.params δ Rw bv ev (.int gr tg)) 4, dictOf (logD w.params δ Rw bv' ev' (.int (gr + (lo + (xs.length : Int) - lo - (hi_ - lo))) tg')) 4), (Rw, listOf rv.toArray nr, listOf (rv ++ [Value.ref q]).toArray nr')]) (same := []) (fresh := [(q, tup3 lo (lo + (xs.length : Int)) (hi_ - lo) to1 to2 to3)]) (adr := [D, dB, dT, Cs, dG, Rw]) N (fun p hp => nomatch hp) U (by simp) N') (lt_back (foot := [D, dB, dT, Cs, dG, Rw]) (fun b hb => by simp only [List.mem_cons, List.not_mem_nil, or_false] at hb; rcases hb with rfl | rfl | rfl | rfl | rfl | rfl <;> assumption) lr0) f0 f1 f2 f3 f4 f5 f6 f7 f8 f9 f10 f11 f12
  generalize (restOf [D, dB, dT, Cs, dG, Rw] news) = rest at *
  clear N kA kB mB mG mM mdM mR mLs mLg mD mdB mdT mCs mdG mRw
  refine wpAny_call ?_
  k_dflt (refine' code_defC ?k1 ?k2 ?k3 ?k4 ?k5 ?kA ?kF ?kK ?k6 ?k7 ?k8 ?k9 ?kB ?kD ?_ ?c2 ?c3 ?c4)
  (case kA => exact rfl)
  (case kF => exact rfl)
  (case kK => assumption)
  (case k1 => k_asm)
  (case k2 => k_asm)
  (case k3 => k_asm)
  (case k4 => k_asm)
  (case k5 => k_asm)
  k_dflt (case k6 => k_is)
  k_dflt (case k7 => k_is)
  k_dflt (case k8 => ktr_room)
  k_dflt (case k9 => exact BindsTo.of_eq rfl)
  k_dflt (case kB => exact rfl)
  (case kD => decide +kernel)
  k_dflt (case c2 => exact rfl)
  k_dflt (case c3 => exact rfl)
  k_dflt (case c4 => exact rfl)
  k_whole
  intro g' L' h' tk' cells' FG' F' N' Y' B' X' T' lcell
  (try k_lt lcell)
  have lcel2 := allLt_of (d := L' + 1) (fun p hp => Nat.lt_succ_of_lt (allLt_in lcell p hp))
  k_cells Y'
  (try simp only [List.cons_append, List.nil_append] at N')
  (try dsimp only)
  (try k_fold)
  have ok' := ok
  have adr' := adr
  obtain ⟨ok0, ok1, ok2⟩ := ok'
  obtain ⟨ad0, ad1, ad2, ad3, ad4, ad5, ad6, ad7, ad8, ad9, ad10, ad11⟩ := adr'
  obtain ⟨al0, al1, al2, al3, al4, al5, al6, al7, al8, al9, al10, al11⟩ := adr_lts adr
  have hgl := gapText_len ok
  have kI := fun q (es' : List Value) (ds' : List Int) nd' lo (xs : List Int) zz' to1 to2 to3 pt' tp' tz' ti' tt' ci' tc' t1' t2' gs' ge' (vs' : List Value) (cells' : List Int) n' bv' ev' tg' nr' h' tk' => kB' q es' ds' nd' lo lo xs zz' to1 to2 to3 pt' tp' tz' ti' tt' ci' tc' t1' t2' gs' ge' vs' cells' n' bv' ev' tg' nr' h' tk'
  simp only [Int.sub_self] at kI
  (repeat' (first | (with_reducible ((with_reducible show LCg.FinE ..); (unfold LCg.FinE; intro D' h' tk' F' N' o1'; replace o1' := offL_of o1'; (try simp only [List.nil_append, List.cons_append] at N'); (try dsimp only)))) | (with_reducible (((with_reducible show wpAny _ _ (call (Value.ref 468) _) _ _ _); (rename ¬ (_ = _) => hne9); exact absurd (by simp only [Int.sub_self, Int.toNat_zero, List.take_zero]) hne9))) | (with_reducible ((with_reducible show wpAny _ _ (subscriptTail (Expr.Name ..) (Expr.Constant ..) (Value.ref _) (Value.int _ _)) _ _ _); ((k_dflt (refine' item_tupleT (by exact News.isTup (by k_asm) (by k_mem)) (by decide) (by decide) (by rfl) (by rfl) ?_; k_whole))))) | (k_unfold; (try dsimp only)) | (k_end; kc_close) | walk1 | (dsimp only; walk1) | (leave1; walk_say "STEP leave1"; (try dsimp only)) | fail "no step"))
  all_goals first
    | (with_reducible rename StV (stNext _ _ _ (_ - _)) _ _ => sB9; exact kB' _ _ _ _ _ _ _ _ _ _ _ _ _ _ _ _ _ _ _ _ _ _ _ _ _ _ _ _ _ _ _ (by assumption) (by ktr_rel) (by tb_start) (by tb_start) (by tb_start) (by tb_start) (by tb_start) (by tb_start) (by tb_start) (by assumption) (by assumption) (by assumption) (by omega) (by omega) (by assumption) (by omega) (by omega) (by omega) (by omega) (by (first | omega | (simp only [List.length_append, List.length_map, rangeKs_length]; omega))) (by assumption) (by assumption))
    | (with_reducible rename StV (stNext _ _ _ 0) _ _ => sB9; exact kI _ _ _ _ _ _ _ _ _ _ _ _ _ _ _ _ _ _ _ _ _ _ _ _ _ _ _ _ _ _ (by assumption) (by ktr_rel) (by tb_start) (by tb_start) (by tb_start) (by tb_start) (by tb_start) (by tb_start) (by tb_start) (by assumption) (by assumption) (by assumption) (by omega) (by omega) (by assumption) (by omega) (by omega) (by omega) (by omega) (by (first | omega | (simp only [List.length_append, List.length_map, rangeKs_length]; omega))) (by assumption) (by assumption))
    | exact kA' _ _ _ _ _ (by assumption) (by ktr_rel) (by assumption) (by assumption)
theorem edit_spec {prog : Program} {w : World} {p : Program} {loose : List Str} {mean : ExcName → Option Value} {mg : Str → Option Value} {mb : Str → Option Value} {dp : Nat} {un : Nat} {gd : Option (List Code)} {cn : Str} {cs : Scope} {a : Addr} {ccd : Value} {cl : List (Str × Addr)} {outer : List Env} {A₀ : Around} {base : Heap} {h₀ : Heap} {L : Addr} {m : Str → Option Value} {news : List (Addr × Obj)} {s : Shared} {Q : Value → Shared → Prop} {E : Value → Shared → Prop} {D : Addr} {dB : Addr} {Bf : Addr} {dT : Addr} {G : Addr} {Cs : Addr} {dM : Addr} {M : Addr} {R : Addr} {Ls : Addr} {dG : Addr} {Lg : Addr} {Rw : Addr} {γ : GT} {vs : List Value} {cells : List Int} {n : Nat} {gs : Int} {ge : Int} {t1 : Tok} {t2 : Tok} {β : BT} {pt : Int} {zv : Int} {ti : Int} {ci : Int} {tp : Tok} {tz : Tok} {tt : Tok} {tc : Tok} {δ : LT} {bv : Value} {ev : Value} {gr : Int} {tg : Tok} {rv : List Value} {nr : Nat} {st : Option (Int × Int)} {μ : MT} {oR : Obj} {nls : Nat} {dv : List Value} {ds : List Int} {nd : Nat} {lap : Int} {tl : Tok} (B : Below A₀ base outer h₀) (F : Fr h₀ L s.heap m) (X : (Mine.hd.heap_1 w.params).In h₀) (N : News h₀ L s.heap news) (T : Top p loose mean mg mb h₀) (hk : cs.kind = .function) (hdp : dp ≤ 490) (hun : un ≤ 3900) (mB : (Bf, instObj 361 dB) ∈ news) (mG : (G, instObj 150 dT) ∈ news) (mM : (M, instObj 220 dM) ∈ news) (mdM : (dM, dictOf (mkD w.params μ R) 1) ∈ news) (mR : (R, oR) ∈ news) (mLs : (Ls, listOf #[.ref Lg] nls) ∈ news) (mLg : (Lg, instObj 59 dG) ∈ news) (mD : (D, listOf dv.toArray nd) ∈ news) (mdB : (dB, dictOf (bufD w.params β G M Ls (.int pt tp) (.int zv tz) (.int ti tt) (.int ci tc)) 20) ∈ news) (mdT : (dT, dictOf (gapD w.params γ Cs (.int gs t1) (.int ge t2)) 4) ∈ news) (mCs : (Cs, listOf vs.toArray n) ∈ news) (mdG : (dG, dictOf (logD w.params δ Rw bv ev (.int gr tg)) 4) ∈ news) (mRw : (Rw, listOf rv.toArray nr) ∈ news) (adr : AdrOk D dB Bf dT G Cs dM M R Ls dG Lg Rw) (hi : IntsAre vs cells) (ok : GapOk cells gs ge) (hr1 : oR.IsDictOf (strKind prog w) []) (hr2 : (R == sysModules) = false) (hst : StV st bv ev) (hrv : rv.length ≤ 900) (hdi : IntsAre dv ds) (hdo : DeckOk ds) (hz : cells.length ≤ 400000) (htx : (cells.length : Int) - (ge - gs) ≤ 400) (hl0 : 0 ≤ lap) (hl1 : lap ≤ 5) (hzv : zv = (cells.length : Int) - (ge - gs) + 1) (kA : ∀ (es' : List Value) (ds' : List Int) nd' h' tk', Fr h₀ L h' m → NewsAll h₀ L h' [(D, listOf dv.toArray nd, listOf es'.toArray nd')] news [] → IntsAre es' ds' → DeckOk ds' → Q (.none) { s with heap := h', toks := tk' }) (kB : ∀ q (es' : List Value) (ds' : List Int) nd' lo hi_ (xs : List Int) zz' to1 to2 to3 pt' tp' tz' ti' tt' ci' tc' t1' t2' gs' ge' (vs' : List Value) (cells' : List Int) n' bv' ev' tg' nr' h' tk', Fr h₀ L h' m → NewsAll h₀ L h' [(D, listOf dv.toArray nd, listOf es'.toArray nd'), (dB, dictOf (bufD w.params β G M Ls (.int pt tp) (.int zv tz) (.int ti tt) (.int ci tc)) 20, dictOf (bufD w.params β G M Ls (.int pt' tp') (.int (zz') tz') (.int ti' tt') (.int ci' tc')) 20), (dT, dictOf (gapD w.params γ Cs (.int gs t1) (.int ge t2)) 4, dictOf (gapD w.params γ Cs (.int gs' t1') (.int ge' t2')) 4), (Cs, listOf vs.toArray n, listOf vs'.toArray n'), (dG, dictOf (logD w.params δ Rw bv ev (.int gr tg)) 4, dictOf (logD w.params δ Rw bv' ev' (.int (gr + (lo + (xs.length : Int) - lo - (hi_ - lo))) tg')) 4), (Rw, listOf rv.toArray nr, listOf (rv ++ [Value.ref q]).toArray nr')] news [(q, tup3 lo (lo + (xs.length : Int)) (hi_ - lo) to1 to2 to3)] → AllLt q news → IntsAre vs' cells' → GapOk cells' gs' ge' → gapText cells' gs' ge' = (gapText cells gs ge).take (lo - 1).toNat ++ xs ++ (gapText cells gs ge).drop (hi_ - 1).toNat → (cells'.length : Int) ≤ cells.length + (xs.length : Int) + 8 → (cells'.length : Int) - (ge' - gs') = cells.length - (ge - gs) + (lo + (xs.length : Int) - lo - (hi_ - lo)) → StV (stNext st lo (lo + (xs.length : Int)) ((hi_ - lo))) bv' ev' → zz' = zv + ((lo + (xs.length : Int)) - lo - (hi_ - lo)) → 1 ≤ lo → lo ≤ hi_ → hi_ - 1 + (ge - gs) ≤ cells.length → (xs.length : Int) ≤ hi_ - lo + 3 → IntsAre es' ds' → DeckOk ds' → Q (.none) { s with heap := h', toks := tk' }) : wpAny (model prog w) (ktrTop dp un gd cn cs L a ccd cl outer) (call (.ref 506) [.ref D, .ref Bf, .int lap tl]) Q E s := edit_specU (hkl dp [un, a, L, D, dB, Bf, dT, G, Cs, dM, M, R, Ls, dG, Lg, Rw, n, t1, t2, tp, tz, tt, tc, tg, nr, nls, nd, tl], hkl gs [ge, pt, zv, ti, ci, gr, lap], hkl ccd [bv, ev], hkl vs [rv, dv], hkl cells [ds], hkl mg [mb, m], hkl prog [p], hkl w [], hkl Q [E], hkl cn [], hkl s [], hkl oR [], hkl news [], hkl base [h₀], hkl A₀ [], hkl st [], hkl γ [], hkl β [], hkl δ [], hkl μ [], hkl cs [], hkl gd [], hkl loose [], hkl outer [], hkl mean [], hkl cl [], uB u0, uOA u0, uSm u0, uRs u0, uF u0, uOs u0, uAr u0) B F X N T hk hdp hun mB mG mM mdM mR mLs mLg mD mdB mdT mCs mdG mRw adr hi ok hr1 hr2 hst hrv hdi hdo hz htx hl0 hl1 hzv kA kB
end
end
section
section
set_option maxRecDepth 100000 in
set_option maxHeartbeats 8000000 in
theorem spread_specU (v : U) : (fun (prog : Program) (w : World) (p : Program) (loose : List Str) (mean : ExcName → Option Value) (mg : Str → Option Value) (mb : Str → Option Value) (dp : Nat) (un : Nat) (gd : Option (List Code)) (cn : Str) (cs : Scope) (a : Addr) (ccd : Value) (cl : List (Str × Addr)) (outer : List Env) (A₀ : Around) (base : Heap) (h₀ : Heap) (L : Addr) (m : Str → Option Value) (news : List (Addr × Obj)) (s : Shared) (Q : Value → Shared → Prop) (E : Value → Shared → Prop) (Lo : Addr) (Rw : Addr) (lv : List Value) (rv : List Value) (nl : Nat) (nr : Nat) (rows : List (Int × Int × Int)) => ∀ (B : Below A₀ base outer h₀) (F : Fr h₀ L s.heap m) (X : (Mine.hd.heap_1 w.params).In h₀) (N : News h₀ L s.heap news) (T : Top p loose mean mg mb h₀) (hk : cs.kind = .function) (hdp : dp ≤ 590) (hun : un ≤ 4900) (mLo : (Lo, listOf lv.toArray nl) ∈ news) (mRw : (Rw, listOf rv.toArray nr) ∈ news) (hrows : RowsAre news rv rows) (hok : ∀ r ∈ rows, RowOk r) (hll : lv.length ≤ 1000) (hrl : rows.length ≤ 6) (k : ∀ q n' h' tk', Fr h₀ L h' m → News h₀ L h' ((q, listOf (spreadV lv rows).toArray n') :: news) → AllLt q news → Q (.ref q) { s with heap := h', toks := tk' }), wpAny (model prog w) (ktrTop dp un gd cn cs L a ccd cl outer) (call (.ref 494) [.ref Lo, .ref Rw]) Q E s) (uPr v 0) (uW v 0) (uPr v 1) (uSs v 0) (uX v 0) (uM v 0) (uM v 1) (uN v 0) (uN v 1) (uCs v 0) (uS v 0) (uSc v 0) (uN v 2) (uV v 0) (uCl v 0) (uEs v 0) (uA v 0) (uH v 0) (uH v 1) (uN v 3) (uM v 2) (uL v 0) (uSh v 0) (uQ v 0) (uQ v 1) (uN v 4) (uN v 5) (uVs v 0) (uVs v 1) (uN v 6) (uN v 7) (uRs v 0) := by
  revert v
  refine hkU ?_
  generalize ep _ _ = eU
  generalize uPr eU 0 = prog, uW eU 0 = w, uPr eU 1 = p, uSs eU 0 = loose, uX eU 0 = mean, uM eU 0 = mg, uM eU 1 = mb, uN eU 0 = dp, uN eU 1 = un, uCs eU 0 = gd, uS eU 0 = cn, uSc eU 0 = cs, uN eU 2 = a, uV eU 0 = ccd, uCl eU 0 = cl, uEs eU 0 = outer, uA eU 0 = A₀, uH eU 0 = base, uH eU 1 = h₀, uN eU 3 = L, uM eU 2 = m, uL eU 0 = news, uSh eU 0 = s, uQ eU 0 = Q, uQ eU 1 = E, uN eU 4 = Lo, uN eU 5 = Rw, uVs eU 0 = lv, uVs eU 1 = rv, uN eU 6 = nl, uN eU 7 = nr, uRs eU 0 = rows
  clear eU
  refine fun B F X N T hk hdp hun mLo mRw hrows hok hll hrl k => ?_
  have N1 : News h₀ L s.heap ((Lo, listOf lv.toArray nl) :: (Rw, listOf rv.toArray nr) :: news) := by
    refine news_cons ?_ N mLo
    refine news_cons ?_ N mRw
    exact N
  have k' := k
  clear N k mLo mRw
  refine wpAny_call ?_
  k_dflt ktr_enter
  (repeat' (first | (with_reducible ((with_reducible show wpAny _ _ (binaryOp Operator.Add (Value.ref _) (Value.ref _)) _ _ _); (k_dflt (refine' add_raw (by k_asm) (by k_asm) (by k_mem) (by k_mem) (by regstrif_gather) ?_; k_whole); intro D' h' F' N' l1; (try k_lt l1); (try k_sweep)))) | (with_reducible ((with_reducible show wpAny _ _ (binaryOp Operator.Mult (Value.ref _) (Value.int _ _)) _ _ _); (k_dflt (refine' mul_one (by k_asm) (by k_asm) (by k_mem) (by omega) (by omega) ?_; k_whole); intro D' h' F' N' l1; (try k_lt l1); (try k_sweep)))) | (with_reducible ((with_reducible show wpAny _ _ (subscriptTail (Expr.Name ..) (Expr.Slice (some _) ..) (Value.ref _) (Value.ref _)) _ _ _); (k_dflt (refine' cut_from (by k_asm) (by k_asm) (by k_mem) (by omega) (by regstrif_gather) ?_ (by with_unfolding_all rfl) (by kmk_pure)); intro D' h' F' N' l1; (try k_lt l1); (try k_sweep)))) | (with_reducible ((with_reducible show wpAny _ _ (subscriptTail (Expr.Name ..) (Expr.Slice none ..) (Value.ref _) (Value.ref _)) _ _ _); (k_dflt (refine' cut_upto (by k_asm) (by k_asm) (by k_mem) (by omega) (by regstrif_gather) ?_ (by with_unfolding_all rfl) (by kmk_pure)); intro D' h' F' N' l1; (try k_lt l1); (try k_sweep)))) | (with_reducible ((with_reducible show wpAny _ _ (exec (Stmt.For (Expr.Tuple ..) (Expr.Name ..) ..) _) _ _ _); ((rename Fr _ _ _ _ => lF'); (with_unfolding_all refine' For_turns lF' ?_; k_whole)))) | (with_reducible ((with_reducible show wpAny _ _ (execs (_ :: _) _) _ _ _); (dsimp only; k_gentoks))) | (with_reducible ((with_reducible show wpAny _ _ (execs [] _) _ _ _); (dsimp only; k_gentoks))) | (k_unfold; (try dsimp only)) | (k_end; kc_close) | walk1 | (dsimp only; walk1) | (leave1; walk_say "STEP leave1"; (try dsimp only)) | fail "no step"))
  (rename Fr _ _ _ _ => lF2); (rename News _ _ _ _ => lN2)
  with_unfolding_all refine iter_listTurns (lo := listOf rv.toArray nr) (vs := rv) (by rfl) lF2 lN2 (by k_mem) (by rfl) (by rfl) ?_
  rename AllLt _ _ => lD
  intro I hI
  replace hI := allLt_of hI
  obtain ⟨i0, i1, i2, i3⟩ := hI
  have d1 : @LT.lt Nat _ Rw _ := lt_at lD (.tail _ (.head _))
  have d2 := allLt_sub (l' := news) lD (fun p hp => .tail _ (.tail _ hp))
  refine rest_induct (fun xs₁ m₁ news₁ => ∃ (rv₁ : List Value) (rows₁ : List (Int × Int × Int)) (fs : List Value) (f : Addr) (nf : Nat), xs₁ = rv₁.map Itm.val ∧ m₁ (Str.ofString "found") = some (.ref f) ∧ news₁ = (f, listOf fs.toArray nf) :: (Lo, listOf lv.toArray nl) :: (Rw, listOf rv.toArray nr) :: news ∧ RowsAre news rv₁ rows₁ ∧ (∀ r ∈ rows₁, RowOk r) ∧ SzOk fs.length rows₁.length ∧ spreadV fs rows₁ = spreadV lv rows ∧ AllLt f news ∧ @Ne Nat f I ∧ @Ne Nat Rw f) ?nil ?cons _ _ _ ?start
  case start =>
    refine ⟨rv, rows, lv, _, _, rfl, by rfl, rfl, hrows, hok, ?_, rfl, d2, Nat.ne_of_lt i0, Nat.ne_of_lt d1⟩
    have h1 : 2 ^ rows.length ≤ 2 ^ 6 := Nat.pow_le_pow_right (by decide) hrl
    have h2 := Nat.mul_le_mul (show lv.length + 1000 ≤ 2000 by omega) h1
    exact Nat.le_trans h2 (by decide)
  case nil =>
    rintro m₁ news₁ ⟨rv₁, rows₁, fs, f, nf, e1, hf, rfl, hr, _, _, hs, lf, _, _⟩ h tk F' N'
    cases hr with
    | cons => cases e1
    | nil =>
    rw [map_has hf] at F'
    (repeat' (first | (with_reducible ((with_reducible show wpAny _ _ (binaryOp Operator.Add (Value.ref _) (Value.ref _)) _ _ _); (k_dflt (refine' add_raw (by k_asm) (by k_asm) (by k_mem) (by k_mem) (by regstrif_gather) ?_; k_whole); intro D' h' F' N' l1; (try k_lt l1); (try k_sweep)))) | (with_reducible ((with_reducible show wpAny _ _ (binaryOp Operator.Mult (Value.ref _) (Value.int _ _)) _ _ _); (k_dflt (refine' mul_one (by k_asm) (by k_asm) (by k_mem) (by omega) (by omega) ?_; k_whole); intro D' h' F' N' l1; (try k_lt l1); (try k_sweep)))) | (with_reducible ((with_reducible show wpAny _ _ (subscriptTail (Expr.Name ..) (Expr.Slice (some _) ..) (Value.ref _) (Value.ref _)) _ _ _); (k_dflt (refine' cut_from (by k_asm) (by k_asm) (by k_mem) (by omega) (by regstrif_gather) ?_ (by with_unfolding_all rfl) (by kmk_pure)); intro D' h' F' N' l1; (try k_lt l1); (try k_sweep)))) | (with_reducible ((with_reducible show wpAny _ _ (subscriptTail (Expr.Name ..) (Expr.Slice none ..) (Value.ref _) (Value.ref _)) _ _ _); (k_dflt (refine' cut_upto (by k_asm) (by k_asm) (by k_mem) (by omega) (by regstrif_gather) ?_ (by with_unfolding_all rfl) (by kmk_pure)); intro D' h' F' N' l1; (try k_lt l1); (try k_sweep)))) | (with_reducible ((with_reducible show wpAny _ _ (exec (Stmt.For (Expr.Tuple ..) (Expr.Name ..) ..) _) _ _ _); ((rename Fr _ _ _ _ => lF'); (with_unfolding_all refine' For_turns lF' ?_; k_whole)))) | (with_reducible ((with_reducible show wpAny _ _ (execs (_ :: _) _) _ _ _); (dsimp only; k_gentoks))) | (with_reducible ((with_reducible show wpAny _ _ (execs [] _) _ _ _); (dsimp only; k_gentoks))) | (k_unfold; (try dsimp only)) | (k_end; kc_close) | walk1 | (dsimp only; walk1) | (leave1; walk_say "STEP leave1"; (try dsimp only)) | fail "no step"))
    have hs' : fs = spreadV lv rows := hs
    subst hs'
    exact k' _ _ _ _ (by assumption) (news_sub (by assumption) skip2) lf
  case cons =>
    rintro a r m₁ news₁ ⟨rv₁, rows₁, fs, f, nf, e1, hf, rfl, hr, hro, hsz, hs, lf, nfI, nRf⟩ v h tk hv F'
    cases hr with
    | nil => cases e1
    | @cons q x y o ta tb tc rv₂ rows₂ hq hr =>
    obtain ⟨rfl, rfl⟩ := List.cons.inj e1
    have hv' : v = .ref q := hv
    subst hv'
    refine AllObj.cons fun oI hcI => AllObj.nil fun N' => ?_
    rw [map_has hf] at F'
    replace N' := news_cons N' N' (List.mem_append_right _ (List.mem_cons_of_mem _ (List.mem_cons_of_mem _ (List.mem_cons_of_mem _ hq))))
    simp only [List.cons_append, List.nil_append] at N'
    obtain ⟨ro1, ro2, ro3, ro4, ro5⟩ := hro _ (.head _)
    dsimp only at ro1 ro2 ro3 ro4 ro5
    have hfl := szOk_le hsz
    have q1 : (fs.take (x - 1).toNat).length ≤ 127000 := Nat.le_trans (List.length_take_le' ..) hfl
    have q2 : (List.replicate (y - x).toNat Value.none).length ≤ 1000 := by rw [List.length_replicate]; omega
    have q3 : (fs.drop (x - 1 + o).toNat).length ≤ 127000 := by rw [List.length_drop]; exact Nat.le_trans (Nat.sub_le ..) hfl
    (repeat' (first | (with_reducible ((with_reducible show wpAny _ _ (binaryOp Operator.Add (Value.ref _) (Value.ref _)) _ _ _); (k_dflt (refine' add_raw (by k_asm) (by k_asm) (by k_mem) (by k_mem) (by regstrif_gather) ?_; k_whole); intro D' h' F' N' l1; (try k_lt l1); (try k_sweep)))) | (with_reducible ((with_reducible show wpAny _ _ (binaryOp Operator.Mult (Value.ref _) (Value.int _ _)) _ _ _); (k_dflt (refine' mul_one (by k_asm) (by k_asm) (by k_mem) (by omega) (by omega) ?_; k_whole); intro D' h' F' N' l1; (try k_lt l1); (try k_sweep)))) | (with_reducible ((with_reducible show wpAny _ _ (subscriptTail (Expr.Name ..) (Expr.Slice (some _) ..) (Value.ref _) (Value.ref _)) _ _ _); (k_dflt (refine' cut_from (by k_asm) (by k_asm) (by k_mem) (by omega) (by regstrif_gather) ?_ (by with_unfolding_all rfl) (by kmk_pure)); intro D' h' F' N' l1; (try k_lt l1); (try k_sweep)))) | (with_reducible ((with_reducible show wpAny _ _ (subscriptTail (Expr.Name ..) (Expr.Slice none ..) (Value.ref _) (Value.ref _)) _ _ _); (k_dflt (refine' cut_upto (by k_asm) (by k_asm) (by k_mem) (by omega) (by regstrif_gather) ?_ (by with_unfolding_all rfl) (by kmk_pure)); intro D' h' F' N' l1; (try k_lt l1); (try k_sweep)))) | (with_reducible ((with_reducible show wpAny _ _ (exec (Stmt.For (Expr.Tuple ..) (Expr.Name ..) ..) _) _ _ _); ((rename Fr _ _ _ _ => lF'); (with_unfolding_all refine' For_turns lF' ?_; k_whole)))) | (with_reducible ((with_reducible show wpAny _ _ (execs (_ :: _) _) _ _ _); (dsimp only; k_gentoks))) | (with_reducible ((with_reducible show wpAny _ _ (execs [] _) _ _ _); (dsimp only; k_gentoks))) | (k_unfold; (try dsimp only)) | (k_end; kc_close) | walk1 | (dsimp only; walk1) | (leave1; walk_say "STEP leave1"; (try dsimp only)) | fail "no step"))
    have hL := spreadV1_len (l := fs) (hro _ (.head _))
    refine ⟨_, _, _, (_, listOf (spreadV1 fs (x, y, o)).toArray 0) :: (Lo, listOf lv.toArray nl) :: (Rw, listOf rv.toArray nr) :: news, rfl, by assumption, ?_, ?_, ⟨by k_mem, trivial⟩, rv₂, rows₂, spreadV1 fs (x, y, o), _, _, rfl, by rfl, rfl, hr, fun r hr' => hro r (.tail _ hr'), szOk_step hsz hL, hs, ?_, ?_, ?_⟩
    · ktr_rel
    · rename AllLt _ _ => lZ
      have hI0 : @LT.lt Nat _ I _ := lt_at lZ (by k_mem)
      intro p hp r hr9
      rw [List.mem_singleton.mp hr9]
      rcases List.mem_cons.mp hp with e9 | hp
      · rw [e9]; exact Nat.ne_of_gt hI0
      rcases List.mem_cons.mp hp with e9 | hp
      · rw [e9]; exact Nat.ne_of_lt i1
      rcases List.mem_cons.mp hp with e9 | hp
      · rw [e9]; exact Nat.ne_of_lt i2
      exact Nat.ne_of_lt (allLt_in i3 p hp)
    · rename AllLt _ _ => lZ
      exact allLt_sub lZ (fun p hp => by tb_rel)
    · rename AllLt _ _ => lZ
      exact Nat.ne_of_gt (lt_at lZ (by k_mem))
    · rename AllLt _ _ => lZ
      exact Nat.ne_of_lt (lt_at lZ (by k_mem))
theorem spread_spec {prog : Program} {w : World} {p : Program} {loose : List Str} {mean : ExcName → Option Value} {mg : Str → Option Value} {mb : Str → Option Value} {dp : Nat} {un : Nat} {gd : Option (List Code)} {cn : Str} {cs : Scope} {a : Addr} {ccd : Value} {cl : List (Str × Addr)} {outer : List Env} {A₀ : Around} {base : Heap} {h₀ : Heap} {L : Addr} {m : Str → Option Value} {news : List (Addr × Obj)} {s : Shared} {Q : Value → Shared → Prop} {E : Value → Shared → Prop} {Lo : Addr} {Rw : Addr} {lv : List Value} {rv : List Value} {nl : Nat} {nr : Nat} {rows : List (Int × Int × Int)} (B : Below A₀ base outer h₀) (F : Fr h₀ L s.heap m) (X : (Mine.hd.heap_1 w.params).In h₀) (N : News h₀ L s.heap news) (T : Top p loose mean mg mb h₀) (hk : cs.kind = .function) (hdp : dp ≤ 590) (hun : un ≤ 4900) (mLo : (Lo, listOf lv.toArray nl) ∈ news) (mRw : (Rw, listOf rv.toArray nr) ∈ news) (hrows : RowsAre news rv rows) (hok : ∀ r ∈ rows, RowOk r) (hll : lv.length ≤ 1000) (hrl : rows.length ≤ 6) (k : ∀ q n' h' tk', Fr h₀ L h' m → News h₀ L h' ((q, listOf (spreadV lv rows).toArray n') :: news) → AllLt q news → Q (.ref q) { s with heap := h', toks := tk' }) : wpAny (model prog w) (ktrTop dp un gd cn cs L a ccd cl outer) (call (.ref 494) [.ref Lo, .ref Rw]) Q E s := spread_specU (hkl dp [un, a, L, Lo, Rw, nl, nr], uI u0, hkl ccd [], hkl lv [rv], uIs u0, hkl mg [mb, m], hkl prog [p], hkl w [], hkl Q [E], hkl cn [], hkl s [], uO u0, hkl news [], hkl base [h₀], hkl A₀ [], uSt u0, uGT u0, uBT u0, uLT u0, uMT u0, hkl cs [], hkl gd [], hkl loose [], hkl outer [], hkl mean [], hkl cl [], uB u0, uOA u0, uSm u0, hkl rows [], uF u0, uOs u0, uAr u0) B F X N T hk hdp hun mLo mRw hrows hok hll hrl k
end
end
section
section
set_option maxRecDepth 100000 in
set_option maxHeartbeats 8000000 in
theorem taken_specU (v : U) : (fun (prog : Program) (w : World) (p : Program) (loose : List Str) (mean : ExcName → Option Value) (mg : Str → Option Value) (mb : Str → Option Value) (dp : Nat) (un : Nat) (gd : Option (List Code)) (cn : Str) (cs : Scope) (a : Addr) (ccd : Value) (cl : List (Str × Addr)) (outer : List Env) (A₀ : Around) (base : Heap) (h₀ : Heap) (L : Addr) (m : Str → Option Value) (news : List (Addr × Obj)) (s : Shared) (Q : Value → Shared → Prop) (E : Value → Shared → Prop) (Lg : Addr) (dG : Addr) (Rw : Addr) (δ : LT) (bv : Value) (ev : Value) (gr : Int) (tg : Tok) (rv : List Value) (nr : Nat) (st : Option (Int × Int)) => ∀ (B : Below A₀ base outer h₀) (F : Fr h₀ L s.heap m) (X : (Mine.hd.heap_1 w.params).In h₀) (N : News h₀ L s.heap news) (T : Top p loose mean mg mb h₀) (hk : cs.kind = .function) (hdp : dp ≤ 590) (hun : un ≤ 4900) (mdG : (dG, dictOf (logD w.params δ Rw bv ev (.int gr tg)) 4) ∈ news) (mLg : (Lg, instObj 59 dG) ∈ news) (mRw : (Rw, listOf rv.toArray nr) ∈ news) (hgl : @LT.lt Nat _ dG Lg) (hlr : @LT.lt Nat _ Lg Rw) (hst : StV st bv ev) (kA : ∀ Rw2 tg' n' h' tk', Fr h₀ L h' m → NewsAll h₀ L h' [(dG, dictOf (logD w.params δ Rw bv ev (.int gr tg)) 4, dictOf (logD w.params δ Rw2 .none .none (.int 0 tg')) 4)] news [(Rw2, listOf ([] : List Value).toArray n')] → AllLt Rw2 news → st = none → Q (.none) { s with heap := h', toks := tk' }) (kB : ∀ Rw2 q tg' n' b e a1 a2 a3 h' tk', Fr h₀ L h' m → NewsAll h₀ L h' [(dG, dictOf (logD w.params δ Rw bv ev (.int gr tg)) 4, dictOf (logD w.params δ Rw2 .none .none (.int 0 tg')) 4)] news [(Rw2, listOf ([] : List Value).toArray n'), (q, tup3 b e (e - b - gr) a1 a2 a3)] → AllLt Rw2 news → AllLt q news → st = some (b, e) → Q (.ref q) { s with heap := h', toks := tk' }), wpAny (model prog w) (ktrTop dp un gd cn cs L a ccd cl outer) (call (.ref 56) [.ref Lg]) Q E s) (uPr v 0) (uW v 0) (uPr v 1) (uSs v 0) (uX v 0) (uM v 0) (uM v 1) (uN v 0) (uN v 1) (uCs v 0) (uS v 0) (uSc v 0) (uN v 2) (uV v 0) (uCl v 0) (uEs v 0) (uA v 0) (uH v 0) (uH v 1) (uN v 3) (uM v 2) (uL v 0) (uSh v 0) (uQ v 0) (uQ v 1) (uN v 4) (uN v 5) (uN v 6) (uLT v 0) (uV v 1) (uV v 2) (uI v 0) (uN v 7) (uVs v 0) (uN v 8) (uSt v 0) := by
  revert v
  refine hkU ?_
  generalize ep _ _ = eU
  generalize uPr eU 0 = prog, uW eU 0 = w, uPr eU 1 = p, uSs eU 0 = loose, uX eU 0 = mean, uM eU 0 = mg, uM eU 1 = mb, uN eU 0 = dp, uN eU 1 = un, uCs eU 0 = gd, uS eU 0 = cn, uSc eU 0 = cs, uN eU 2 = a, uV eU 0 = ccd, uCl eU 0 = cl, uEs eU 0 = outer, uA eU 0 = A₀, uH eU 0 = base, uH eU 1 = h₀, uN eU 3 = L, uM eU 2 = m, uL eU 0 = news, uSh eU 0 = s, uQ eU 0 = Q, uQ eU 1 = E, uN eU 4 = Lg, uN eU 5 = dG, uN eU 6 = Rw, uLT eU 0 = δ, uV eU 1 = bv, uV eU 2 = ev, uI eU 0 = gr, uN eU 7 = tg, uVs eU 0 = rv, uN eU 8 = nr, uSt eU 0 = st
  clear eU
  refine fun B F X N T hk hdp hun mdG mLg mRw hgl hlr hst kA kB => ?_
  have N1 : News h₀ L s.heap ((Lg, instObj 59 dG) :: (Rw, listOf rv.toArray nr) :: (dG, dictOf (logD w.params δ Rw bv ev (.int gr tg)) 4) :: (restOf [dG] news)) := by
    refine news_cons ?_ N mLg
    refine news_cons ?_ N mRw
    refine news_cons ?_ N mdG
    exact news_sub N restOf_in
  have off_dG : Off dG (restOf [dG] news) := restOf_off (by simp)
  have kA' : ∀ Rw2 tg' n' h' tk', Fr h₀ L h' m → News h₀ L h' ((Rw2, listOf ([] : List Value).toArray n') :: (dG, dictOf (logD w.params δ Rw2 .none .none (.int 0 tg')) 4) :: (restOf [dG] news)) → @LT.lt Nat _ dG Rw2 → AllLt Rw2 (restOf [dG] news) → st = none → Q (.none) { s with heap := h', toks := tk' } := by
    intro Rw2 tg' n' h' tk' F' N' l0_0 lr0 f0
    exact kA _ _ _ _ _ F' (fun news' U => news_back3 (us := [(dG, dictOf (logD w.params δ Rw bv ev (.int gr tg)) 4, dictOf (logD w.params δ Rw2 .none .none (.int 0 tg')) 4)]) (same := []) (fresh := [(Rw2, listOf ([] : List Value).toArray n')]) (adr := [dG]) N (fun p hp => nomatch hp) U (by simp) N') (lt_back (foot := [dG]) (fun b hb => by simp only [List.mem_cons, List.not_mem_nil, or_false] at hb; rcases hb with rfl <;> assumption) lr0) f0
  have kB' : ∀ Rw2 q tg' n' b e a1 a2 a3 h' tk', Fr h₀ L h' m → News h₀ L h' ((Rw2, listOf ([] : List Value).toArray n') :: (q, tup3 b e (e - b - gr) a1 a2 a3) :: (dG, dictOf (logD w.params δ Rw2 .none .none (.int 0 tg')) 4) :: (restOf [dG] news)) → @LT.lt Nat _ dG Rw2 → AllLt Rw2 (restOf [dG] news) → @LT.lt Nat _ dG q → AllLt q (restOf [dG] news) → st = some (b, e) → Q (.ref q) { s with heap := h', toks := tk' } := by
    intro Rw2 q tg' n' b e a1 a2 a3 h' tk' F' N' l0_0 lr0 l1_0 lr1 f0
    exact kB _ _ _ _ _ _ _ _ _ _ _ F' (fun news' U => news_back3 (us := [(dG, dictOf (logD w.params δ Rw bv ev (.int gr tg)) 4, dictOf (logD w.params δ Rw2 .none .none (.int 0 tg')) 4)]) (same := []) (fresh := [(Rw2, listOf ([] : List Value).toArray n'), (q, tup3 b e (e - b - gr) a1 a2 a3)]) (adr := [dG]) N (fun p hp => nomatch hp) U (by simp) N') (lt_back (foot := [dG]) (fun b hb => by simp only [List.mem_cons, List.not_mem_nil, or_false] at hb; rcases hb with rfl <;> assumption) lr0) (lt_back (foot := [dG]) (fun b hb => by simp only [List.mem_cons, List.not_mem_nil, or_false] at hb; rcases hb with rfl <;> assumption) lr1) f0
  generalize (restOf [dG] news) = rest at *
  clear N kA kB mLg mRw mdG
  refine wpAny_call ?_
  k_dflt ktr_enter
  rcases hst with ⟨rfl, rfl, rfl⟩ | ⟨b, e, tb, te, rfl, rfl, rfl⟩
  · (repeat' (first | ((with_reducible show wpAny _ _ (testChain _ _ _ _) _ _ _); first | with_reducible (first | refine test_link ?_ | refine test_last ?_) | refine test_link ?_ | refine test_last ?_) | (with_reducible ((with_reducible show wpAny _ _ (subscriptTail (Expr.Name ..) (Expr.Slice (some _) ..) (Value.ref _) (Value.ref _)) _ _ _); (k_dflt (refine' cut_from_i (by k_asm) (by k_asm) (by k_mem) (by assumption) (by omega) (by regstrif_gather) ?_ (by with_unfolding_all rfl) (by kmk_pure)); intro D' h' F' N' l1 hi9; (try k_lt l1); (try k_sweep)))) | (with_reducible ((with_reducible show wpAny _ _ (subscriptTail (Expr.Name ..) (Expr.Slice none ..) (Value.ref _) (Value.ref _)) _ _ _); (k_dflt (refine' cut_upto_i (by k_asm) (by k_asm) (by k_mem) (by assumption) (by omega) (by regstrif_gather) ?_ (by with_unfolding_all rfl) (by kmk_pure)); intro D' h' F' N' l1 hi9; (try k_lt l1); (try k_sweep)))) | (k_unfold; (try dsimp only)) | (k_end; kc_close) | walk1 | (dsimp only; walk1) | (leave1; walk_say "STEP leave1"; (try dsimp only)) | fail "no step"))
    exact kA' _ _ _ _ _ (by assumption) (by ktr_rel) (by tb_start) (by tb_start) rfl
  · (repeat' (first | ((with_reducible show wpAny _ _ (testChain _ _ _ _) _ _ _); first | with_reducible (first | refine test_link ?_ | refine test_last ?_) | refine test_link ?_ | refine test_last ?_) | (with_reducible ((with_reducible show wpAny _ _ (subscriptTail (Expr.Name ..) (Expr.Slice (some _) ..) (Value.ref _) (Value.ref _)) _ _ _); (k_dflt (refine' cut_from_i (by k_asm) (by k_asm) (by k_mem) (by assumption) (by omega) (by regstrif_gather) ?_ (by with_unfolding_all rfl) (by kmk_pure)); intro D' h' F' N' l1 hi9; (try k_lt l1); (try k_sweep)))) | (with_reducible ((with_reducible show wpAny _ _ (subscriptTail (Expr.Name ..) (Expr.Slice none ..) (Value.ref _) (Value.ref _)) _ _ _); (k_dflt (refine' cut_upto_i (by k_asm) (by k_asm) (by k_mem) (by assumption) (by omega) (by regstrif_gather) ?_ (by with_unfolding_all rfl) (by kmk_pure)); intro D' h' F' N' l1 hi9; (try k_lt l1); (try k_sweep)))) | (k_unfold; (try dsimp only)) | (k_end; kc_close) | walk1 | (dsimp only; walk1) | (leave1; walk_say "STEP leave1"; (try dsimp only)) | fail "no step"))
    exact kB' _ _ _ _ _ _ _ _ _ _ _ (by assumption) (by ktr_rel) (by tb_start) (by tb_start) (by tb_start) (by tb_start) rfl
theorem taken_spec {prog : Program} {w : World} {p : Program} {loose : List Str} {mean : ExcName → Option Value} {mg : Str → Option Value} {mb : Str → Option Value} {dp : Nat} {un : Nat} {gd : Option (List Code)} {cn : Str} {cs : Scope} {a : Addr} {ccd : Value} {cl : List (Str × Addr)} {outer : List Env} {A₀ : Around} {base : Heap} {h₀ : Heap} {L : Addr} {m : Str → Option Value} {news : List (Addr × Obj)} {s : Shared} {Q : Value → Shared → Prop} {E : Value → Shared → Prop} {Lg : Addr} {dG : Addr} {Rw : Addr} {δ : LT} {bv : Value} {ev : Value} {gr : Int} {tg : Tok} {rv : List Value} {nr : Nat} {st : Option (Int × Int)} (B : Below A₀ base outer h₀) (F : Fr h₀ L s.heap m) (X : (Mine.hd.heap_1 w.params).In h₀) (N : News h₀ L s.heap news) (T : Top p loose mean mg mb h₀) (hk : cs.kind = .function) (hdp : dp ≤ 590) (hun : un ≤ 4900) (mdG : (dG, dictOf (logD w.params δ Rw bv ev (.int gr tg)) 4) ∈ news) (mLg : (Lg, instObj 59 dG) ∈ news) (mRw : (Rw, listOf rv.toArray nr) ∈ news) (hgl : @LT.lt Nat _ dG Lg) (hlr : @LT.lt Nat _ Lg Rw) (hst : StV st bv ev) (kA : ∀ Rw2 tg' n' h' tk', Fr h₀ L h' m → NewsAll h₀ L h' [(dG, dictOf (logD w.params δ Rw bv ev (.int gr tg)) 4, dictOf (logD w.params δ Rw2 .none .none (.int 0 tg')) 4)] news [(Rw2, listOf ([] : List Value).toArray n')] → AllLt Rw2 news → st = none → Q (.none) { s with heap := h', toks := tk' }) (kB : ∀ Rw2 q tg' n' b e a1 a2 a3 h' tk', Fr h₀ L h' m → NewsAll h₀ L h' [(dG, dictOf (logD w.params δ Rw bv ev (.int gr tg)) 4, dictOf (logD w.params δ Rw2 .none .none (.int 0 tg')) 4)] news [(Rw2, listOf ([] : List Value).toArray n'), (q, tup3 b e (e - b - gr) a1 a2 a3)] → AllLt Rw2 news → AllLt q news → st = some (b, e) → Q (.ref q) { s with heap := h', toks := tk' }) : wpAny (model prog w) (ktrTop dp un gd cn cs L a ccd cl outer) (call (.ref 56) [.ref Lg]) Q E s := taken_specU (hkl dp [un, a, L, Lg, dG, Rw, tg, nr], hkl gr [], hkl ccd [bv, ev], hkl rv [], uIs u0, hkl mg [mb, m], hkl prog [p], hkl w [], hkl Q [E], hkl cn [], hkl s [], uO u0, hkl news [], hkl base [h₀], hkl A₀ [], hkl st [], uGT u0, uBT u0, hkl δ [], uMT u0, hkl cs [], hkl gd [], hkl loose [], hkl outer [], hkl mean [], hkl cl [], uB u0, uOA u0, uSm u0, uRs u0, uF u0, uOs u0, uAr u0) B F X N T hk hdp hun mdG mLg mRw hgl hlr hst kA kB
set_option maxRecDepth 100000 in
set_option maxHeartbeats 8000000 in
theorem stretch_none_specU (v : U) : (fun (prog : Program) (w : World) (p : Program) (loose : List Str) (mean : ExcName → Option Value) (mg : Str → Option Value) (mb : Str → Option Value) (dp : Nat) (un : Nat) (gd : Option (List Code)) (cn : Str) (cs : Scope) (a : Addr) (ccd : Value) (cl : List (Str × Addr)) (outer : List Env) (A₀ : Around) (base : Heap) (h₀ : Heap) (L : Addr) (m : Str → Option Value) (news : List (Addr × Obj)) (s : Shared) (Q : Value → Shared → Prop) (E : Value → Shared → Prop) (S : Addr) (El : Addr) (sv : List Value) (ev : List Value) (ns : Nat) (ne : Nat) (Tx : List Int) => ∀ (B : Below A₀ base outer h₀) (F : Fr h₀ L s.heap m) (X : (Mine.hd.heap_1 w.params).In h₀) (N : News h₀ L s.heap news) (T : Top p loose mean mg mb h₀) (hk : cs.kind = .function) (hdp : dp ≤ 590) (hun : un ≤ 4900) (mS : (S, listOf sv.toArray ns) ∈ news) (mE : (El, listOf ev.toArray ne) ∈ news) (his : IntsAre sv Tx) (hie : IntsAre ev Tx) (hz : Tx.length ≤ 1000) (k : ∀ h' tk', Fr h₀ L h' m → News h₀ L h' (news) → Q (.bool true) { s with heap := h', toks := tk' }), wpAny (model prog w) (ktrTop dp un gd cn cs L a ccd cl outer) (call (.ref 501) [.ref S, .ref El, .none]) Q E s) (uPr v 0) (uW v 0) (uPr v 1) (uSs v 0) (uX v 0) (uM v 0) (uM v 1) (uN v 0) (uN v 1) (uCs v 0) (uS v 0) (uSc v 0) (uN v 2) (uV v 0) (uCl v 0) (uEs v 0) (uA v 0) (uH v 0) (uH v 1) (uN v 3) (uM v 2) (uL v 0) (uSh v 0) (uQ v 0) (uQ v 1) (uN v 4) (uN v 5) (uVs v 0) (uVs v 1) (uN v 6) (uN v 7) (uIs v 0) := by
  revert v
  refine hkU ?_
  generalize ep _ _ = eU
  generalize uPr eU 0 = prog, uW eU 0 = w, uPr eU 1 = p, uSs eU 0 = loose, uX eU 0 = mean, uM eU 0 = mg, uM eU 1 = mb, uN eU 0 = dp, uN eU 1 = un, uCs eU 0 = gd, uS eU 0 = cn, uSc eU 0 = cs, uN eU 2 = a, uV eU 0 = ccd, uCl eU 0 = cl, uEs eU 0 = outer, uA eU 0 = A₀, uH eU 0 = base, uH eU 1 = h₀, uN eU 3 = L, uM eU 2 = m, uL eU 0 = news, uSh eU 0 = s, uQ eU 0 = Q, uQ eU 1 = E, uN eU 4 = S, uN eU 5 = El, uVs eU 0 = sv, uVs eU 1 = ev, uN eU 6 = ns, uN eU 7 = ne, uIs eU 0 = Tx
  clear eU
  refine fun B F X N T hk hdp hun mS mE his hie hz k => ?_
  have N1 : News h₀ L s.heap ((S, listOf sv.toArray ns) :: (El, listOf ev.toArray ne) :: news) := by
    refine news_cons ?_ N mS
    refine news_cons ?_ N mE
    exact N
  have k' := k
  clear N k mS mE
  refine wpAny_call ?_
  k_dflt ktr_enter
  (repeat' (first | ((with_reducible show wpAny _ _ (testChain _ _ _ _) _ _ _); first | with_reducible (first | refine test_link ?_ | refine test_last ?_) | refine test_link ?_ | refine test_last ?_) | (with_reducible ((with_reducible show wpAny _ _ (subscriptTail (Expr.Name ..) (Expr.Slice (some _) ..) (Value.ref _) (Value.ref _)) _ _ _); (k_dflt (refine' cut_from_i (by k_asm) (by k_asm) (by k_mem) (by assumption) (by omega) (by regstrif_gather) ?_ (by with_unfolding_all rfl) (by kmk_pure)); intro D' h' F' N' l1 hi9; (try k_lt l1); (try k_sweep)))) | (with_reducible ((with_reducible show wpAny _ _ (subscriptTail (Expr.Name ..) (Expr.Slice none ..) (Value.ref _) (Value.ref _)) _ _ _); (k_dflt (refine' cut_upto_i (by k_asm) (by k_asm) (by k_mem) (by assumption) (by omega) (by regstrif_gather) ?_ (by with_unfolding_all rfl) (by kmk_pure)); intro D' h' F' N' l1 hi9; (try k_lt l1); (try k_sweep)))) | (k_unfold; (try dsimp only)) | (k_end; kc_close) | walk1 | (dsimp only; walk1) | (leave1; walk_say "STEP leave1"; (try dsimp only)) | fail "no step"))
  exact k' _ _ (by assumption) (by ktr_rel)
theorem stretch_none_spec {prog : Program} {w : World} {p : Program} {loose : List Str} {mean : ExcName → Option Value} {mg : Str → Option Value} {mb : Str → Option Value} {dp : Nat} {un : Nat} {gd : Option (List Code)} {cn : Str} {cs : Scope} {a : Addr} {ccd : Value} {cl : List (Str × Addr)} {outer : List Env} {A₀ : Around} {base : Heap} {h₀ : Heap} {L : Addr} {m : Str → Option Value} {news : List (Addr × Obj)} {s : Shared} {Q : Value → Shared → Prop} {E : Value → Shared → Prop} {S : Addr} {El : Addr} {sv : List Value} {ev : List Value} {ns : Nat} {ne : Nat} {Tx : List Int} (B : Below A₀ base outer h₀) (F : Fr h₀ L s.heap m) (X : (Mine.hd.heap_1 w.params).In h₀) (N : News h₀ L s.heap news) (T : Top p loose mean mg mb h₀) (hk : cs.kind = .function) (hdp : dp ≤ 590) (hun : un ≤ 4900) (mS : (S, listOf sv.toArray ns) ∈ news) (mE : (El, listOf ev.toArray ne) ∈ news) (his : IntsAre sv Tx) (hie : IntsAre ev Tx) (hz : Tx.length ≤ 1000) (k : ∀ h' tk', Fr h₀ L h' m → News h₀ L h' (news) → Q (.bool true) { s with heap := h', toks := tk' }) : wpAny (model prog w) (ktrTop dp un gd cn cs L a ccd cl outer) (call (.ref 501) [.ref S, .ref El, .none]) Q E s := stretch_none_specU (hkl dp [un, a, L, S, El, ns, ne], uI u0, hkl ccd [], hkl sv [ev], hkl Tx [], hkl mg [mb, m], hkl prog [p], hkl w [], hkl Q [E], hkl cn [], hkl s [], uO u0, hkl news [], hkl base [h₀], hkl A₀ [], uSt u0, uGT u0, uBT u0, uLT u0, uMT u0, hkl cs [], hkl gd [], hkl loose [], hkl outer [], hkl mean [], hkl cl [], uB u0, uOA u0, uSm u0, uRs u0, uF u0, uOs u0, uAr u0) B F X N T hk hdp hun mS mE his hie hz k
set_option maxRecDepth 100000 in
set_option maxHeartbeats 8000000 in
theorem stretch_some_specU (v : U) : (fun (prog : Program) (w : World) (p : Program) (loose : List Str) (mean : ExcName → Option Value) (mg : Str → Option Value) (mb : Str → Option Value) (dp : Nat) (un : Nat) (gd : Option (List Code)) (cn : Str) (cs : Scope) (a : Addr) (ccd : Value) (cl : List (Str × Addr)) (outer : List Env) (A₀ : Around) (base : Heap) (h₀ : Heap) (L : Addr) (m : Str → Option Value) (news : List (Addr × Obj)) (s : Shared) (Q : Value → Shared → Prop) (E : Value → Shared → Prop) (S : Addr) (El : Addr) (Q3 : Addr) (sv : List Value) (ev : List Value) (ns : Nat) (ne : Nat) (Tx : List Int) (E' : List Int) (b : Int) (e : Int) (z : Int) (a1 : Tok) (a2 : Tok) (a3 : Tok) => ∀ (B : Below A₀ base outer h₀) (F : Fr h₀ L s.heap m) (X : (Mine.hd.heap_1 w.params).In h₀) (N : News h₀ L s.heap news) (T : Top p loose mean mg mb h₀) (hk : cs.kind = .function) (hdp : dp ≤ 590) (hun : un ≤ 4900) (mS : (S, listOf sv.toArray ns) ∈ news) (mE : (El, listOf ev.toArray ne) ∈ news) (mQ : (Q3, tup3 b e z a1 a2 a3) ∈ news) (his : IntsAre sv Tx) (hie : IntsAre ev E') (hz : Tx.length ≤ 1000) (hz2 : E'.length ≤ 1000) (s1 : 1 ≤ b) (s2 : b ≤ e) (s3 : e ≤ Tx.length + 1) (s4 : e - b - z = (Tx.length : Int) - E'.length) (s5 : 0 ≤ z) (s6 : Tx.take (b - 1).toNat = E'.take (b - 1).toNat) (s7 : Tx.drop (e - 1).toNat = E'.drop (b - 1 + z).toNat) (k : ∀ h' tk', Fr h₀ L h' m → News h₀ L h' (news) → Q (.bool true) { s with heap := h', toks := tk' }), wpAny (model prog w) (ktrTop dp un gd cn cs L a ccd cl outer) (call (.ref 501) [.ref S, .ref El, .ref Q3]) Q E s) (uPr v 0) (uW v 0) (uPr v 1) (uSs v 0) (uX v 0) (uM v 0) (uM v 1) (uN v 0) (uN v 1) (uCs v 0) (uS v 0) (uSc v 0) (uN v 2) (uV v 0) (uCl v 0) (uEs v 0) (uA v 0) (uH v 0) (uH v 1) (uN v 3) (uM v 2) (uL v 0) (uSh v 0) (uQ v 0) (uQ v 1) (uN v 4) (uN v 5) (uN v 6) (uVs v 0) (uVs v 1) (uN v 7) (uN v 8) (uIs v 0) (uIs v 1) (uI v 0) (uI v 1) (uI v 2) (uN v 9) (uN v 10) (uN v 11) := by
  revert v
  refine hkU ?_
  generalize ep _ _ = eU
  generalize uPr eU 0 = prog, uW eU 0 = w, uPr eU 1 = p, uSs eU 0 = loose, uX eU 0 = mean, uM eU 0 = mg, uM eU 1 = mb, uN eU 0 = dp, uN eU 1 = un, uCs eU 0 = gd, uS eU 0 = cn, uSc eU 0 = cs, uN eU 2 = a, uV eU 0 = ccd, uCl eU 0 = cl, uEs eU 0 = outer, uA eU 0 = A₀, uH eU 0 = base, uH eU 1 = h₀, uN eU 3 = L, uM eU 2 = m, uL eU 0 = news, uSh eU 0 = s, uQ eU 0 = Q, uQ eU 1 = E, uN eU 4 = S, uN eU 5 = El, uN eU 6 = Q3, uVs eU 0 = sv, uVs eU 1 = ev, uN eU 7 = ns, uN eU 8 = ne, uIs eU 0 = Tx, uIs eU 1 = E', uI eU 0 = b, uI eU 1 = e, uI eU 2 = z, uN eU 9 = a1, uN eU 10 = a2, uN eU 11 = a3
  clear eU
  refine fun B F X N T hk hdp hun mS mE mQ his hie hz hz2 s1 s2 s3 s4 s5 s6 s7 k => ?_
  have N1 : News h₀ L s.heap ((S, listOf sv.toArray ns) :: (El, listOf ev.toArray ne) :: (Q3, tup3 b e z a1 a2 a3) :: news) := by
    refine news_cons ?_ N mS
    refine news_cons ?_ N mE
    refine news_cons ?_ N mQ
    exact N
  have k' := k
  clear N k mS mE mQ
  refine wpAny_call ?_
  k_dflt ktr_enter
  (repeat' (first | ((with_reducible show wpAny _ _ (testChain _ _ _ _) _ _ _); first | with_reducible (first | refine test_link ?_ | refine test_last ?_) | refine test_link ?_ | refine test_last ?_) | (with_reducible ((with_reducible show wpAny _ _ (subscriptTail (Expr.Name ..) (Expr.Slice (some _) ..) (Value.ref _) (Value.ref _)) _ _ _); (k_dflt (refine' cut_from_i (by k_asm) (by k_asm) (by k_mem) (by assumption) (by omega) (by regstrif_gather) ?_ (by with_unfolding_all rfl) (by kmk_pure)); intro D' h' F' N' l1 hi9; (try k_lt l1); (try k_sweep)))) | (with_reducible ((with_reducible show wpAny _ _ (subscriptTail (Expr.Name ..) (Expr.Slice none ..) (Value.ref _) (Value.ref _)) _ _ _); (k_dflt (refine' cut_upto_i (by k_asm) (by k_asm) (by k_mem) (by assumption) (by omega) (by regstrif_gather) ?_ (by with_unfolding_all rfl) (by kmk_pure)); intro D' h' F' N' l1 hi9; (try k_lt l1); (try k_sweep)))) | (k_unfold; (try dsimp only)) | (k_end; kc_close) | walk1 | (dsimp only; walk1) | (leave1; walk_say "STEP leave1"; (try dsimp only)) | fail "no step"))
  all_goals try exact absurd s4 (by assumption)
  · rename (e - b - z = (Tx.length : Int) - E'.length) => h9
    have e9 : decide (List.drop (e - 1).toNat Tx = List.drop (b - 1 + z).toNat E') = true := decide_eq_true s7
    rw [e9]
    exact k' _ _ (by assumption) (by ktr_rel)
theorem stretch_some_spec {prog : Program} {w : World} {p : Program} {loose : List Str} {mean : ExcName → Option Value} {mg : Str → Option Value} {mb : Str → Option Value} {dp : Nat} {un : Nat} {gd : Option (List Code)} {cn : Str} {cs : Scope} {a : Addr} {ccd : Value} {cl : List (Str × Addr)} {outer : List Env} {A₀ : Around} {base : Heap} {h₀ : Heap} {L : Addr} {m : Str → Option Value} {news : List (Addr × Obj)} {s : Shared} {Q : Value → Shared → Prop} {E : Value → Shared → Prop} {S : Addr} {El : Addr} {Q3 : Addr} {sv : List Value} {ev : List Value} {ns : Nat} {ne : Nat} {Tx : List Int} {E' : List Int} {b : Int} {e : Int} {z : Int} {a1 : Tok} {a2 : Tok} {a3 : Tok} (B : Below A₀ base outer h₀) (F : Fr h₀ L s.heap m) (X : (Mine.hd.heap_1 w.params).In h₀) (N : News h₀ L s.heap news) (T : Top p loose mean mg mb h₀) (hk : cs.kind = .function) (hdp : dp ≤ 590) (hun : un ≤ 4900) (mS : (S, listOf sv.toArray ns) ∈ news) (mE : (El, listOf ev.toArray ne) ∈ news) (mQ : (Q3, tup3 b e z a1 a2 a3) ∈ news) (his : IntsAre sv Tx) (hie : IntsAre ev E') (hz : Tx.length ≤ 1000) (hz2 : E'.length ≤ 1000) (s1 : 1 ≤ b) (s2 : b ≤ e) (s3 : e ≤ Tx.length + 1) (s4 : e - b - z = (Tx.length : Int) - E'.length) (s5 : 0 ≤ z) (s6 : Tx.take (b - 1).toNat = E'.take (b - 1).toNat) (s7 : Tx.drop (e - 1).toNat = E'.drop (b - 1 + z).toNat) (k : ∀ h' tk', Fr h₀ L h' m → News h₀ L h' (news) → Q (.bool true) { s with heap := h', toks := tk' }) : wpAny (model prog w) (ktrTop dp un gd cn cs L a ccd cl outer) (call (.ref 501) [.ref S, .ref El, .ref Q3]) Q E s := stretch_some_specU (hkl dp [un, a, L, S, El, Q3, ns, ne, a1, a2, a3], hkl b [e, z], hkl ccd [], hkl sv [ev], hkl Tx [E'], hkl mg [mb, m], hkl prog [p], hkl w [], hkl Q [E], hkl cn [], hkl s [], uO u0, hkl news [], hkl base [h₀], hkl A₀ [], uSt u0, uGT u0, uBT u0, uLT u0, uMT u0, hkl cs [], hkl gd [], hkl loose [], hkl outer [], hkl mean [], hkl cl [], uB u0, uOA u0, uSm u0, uRs u0, uF u0, uOs u0, uAr u0) B F X N T hk hdp hun mS mE mQ his hie hz hz2 s1 s2 s3 s4 s5 s6 s7 k
end
end
section
local macro_rules | `(tactic| kmk_sign) => `(tactic| exact lt_at (by assumption) (by k_mem))
section
section
set_option maxRecDepth 100000 in
set_option maxHeartbeats 8000000 in
theorem turn2_spec_c {prog : Program} {w : World} {p : Program} {loose : List Str} {mean : ExcName → Option Value} {mg mb : Str → Option Value} {dp un : Nat} {gd : Option (List Code)} {outer : List Env} {A₀ : Around} {base h₀ : Heap} {L : Addr} {m : Str → Option Value} {s : Shared} {Q : Flow → Shared → Prop} {E : Value → Shared → Prop} {oc : Value} {od : Option Addr} {name qual : Str} {params : Arguments} {body : List Stmt} {scope : Scope} {dV kV doc pm cdv ct cdv9 : Value} {fa : Addr} {an : Option Addr} {osl : Array (Option Value)} {k : Int} {I : Addr} {oI : Obj} {rest : List Stmt} {D dB Bf dT G Cs dM M R Ls dG Lg : Addr} {γ : GT} {β : BT} {δ : LT} {μ : MT} {oR : Obj} {nls : Nat} {Rw El Lo : Addr} {dv : List Value} {ds : List Int} {nd : Nat} {pt zv ti ci : Int} {tp tz tt tc : Tok} {vs : List Value} {cells : List Int} {n : Nat} {gs ge : Int} {t1 t2 : Tok} {bv ev : Value} {gr : Int} {tg : Tok} {rv : List Value} {nr : Nat} {rows : List (Int × Int × Int)} {st : Option (Int × Int)} {oc1 : Obj} {xv : List Value} {ne : Nat} {E' : List Int} {lv : List Value} {nlo : Nat} {tl : List (Addr × Obj)} (B : Below A₀ base outer h₀) (F : Fr h₀ L s.heap m) (X : (Mine.hd.heap_1 w.params).In h₀) (N : News h₀ L s.heap ((I, oI) :: led w.params ⟨L + 1, D, dB, Bf, dT, G, Cs, dM, M, R, Ls, dG, Lg, γ, β, δ, μ, oR, nls⟩ ⟨Rw, El, Lo, dv, ds, nd, pt, zv, ti, ci, tp, tz, tt, tc, vs, cells, n, gs, ge, t1, t2, bv, ev, gr, tg, rv, nr, rows, st, oc1, xv, ne, E', lv, nlo, tl⟩)) (T : Top p loose mean mg mb h₀) (hdp : dp ≤ 480) (hun : un ≤ 3800) (ho : (Mine.hd.heap_1 w.params).lookup 511 = some ⟨oc, od, .func (fnOf name qual params body scope dV kV doc pm an cdv ct), osl⟩) (hr : rest = (forBody body).drop 1) (O : Ok prog w ⟨L + 1, D, dB, Bf, dT, G, Cs, dM, M, R, Ls, dG, Lg, γ, β, δ, μ, oR, nls⟩ ⟨Rw, El, Lo, dv, ds, nd, pt, zv, ti, ci, tp, tz, tt, tc, vs, cells, n, gs, ge, t1, t2, bv, ev, gr, tg, rv, nr, rows, st, oc1, xv, ne, E', lv, nlo, tl⟩ k) (V : Vars ⟨L + 1, D, dB, Bf, dT, G, Cs, dM, M, R, Ls, dG, Lg, γ, β, δ, μ, oR, nls⟩ ⟨Rw, El, Lo, dv, ds, nd, pt, zv, ti, ci, tp, tz, tt, tc, vs, cells, n, gs, ge, t1, t2, bv, ev, gr, tg, rv, nr, rows, st, oc1, xv, ne, E', lv, nlo, tl⟩ m) (J : IOk I ⟨L + 1, D, dB, Bf, dT, G, Cs, dM, M, R, Ls, dG, Lg, γ, β, δ, μ, oR, nls⟩ ⟨Rw, El, Lo, dv, ds, nd, pt, zv, ti, ci, tp, tz, tt, tc, vs, cells, n, gs, ge, t1, t2, bv, ev, gr, tg, rv, nr, rows, st, oc1, xv, ne, E', lv, nlo, tl⟩) (hk0 : 0 ≤ k) (hk6 : k ≤ 6) (kN : ∀ (v' : Var) m' h' tk', Fr h₀ L h' m' → News h₀ L h' ((I, oI) :: led w.params ⟨L + 1, D, dB, Bf, dT, G, Cs, dM, M, R, Ls, dG, Lg, γ, β, δ, μ, oR, nls⟩ v') → Ok prog w ⟨L + 1, D, dB, Bf, dT, G, Cs, dM, M, R, Ls, dG, Lg, γ, β, δ, μ, oR, nls⟩ v' (k) → Vars ⟨L + 1, D, dB, Bf, dT, G, Cs, dM, M, R, Ls, dG, Lg, γ, β, δ, μ, oR, nls⟩ v' m' → IOk I ⟨L + 1, D, dB, Bf, dT, G, Cs, dM, M, R, Ls, dG, Lg, γ, β, δ, μ, oR, nls⟩ v' → Q .next { s with heap := h', toks := tk' })
  : wpAny (model prog w) (ktrTop dp un gd qual scope L fa cdv9 (cellsFrom (L + 1) scope.names []) outer) (execs rest (envOfC qual scope L fa cdv9)) Q E s := by
  obtain ⟨adr, hcD, hE, hEr, hL, hLr, htl, htr, hi, ok, hcz, hTz, hzv, hr1, hr2, hst, hdi, hdo, hoc, hxe, hEz, hlv, hrows, hrok, hrl, hag, hsr⟩ := O
  obtain ⟨v1, v2, v3, v4⟩ := V
  obtain ⟨j1, j2, j3, j4, j5⟩ := J
  dsimp only [led] at *
  refine' use_lookup ho ?k6 ?_
  case k6 => k_dflt k_is
  intro e9
  cases e9
  subst hr
  clear ho
  have adr' := adr
  obtain ⟨ad0, ad1, ad2, ad3, ad4, ad5, ad6, ad7, ad8, ad9, ad10, ad11⟩ := adr'
  obtain ⟨al0, al1, al2, al3, al4, al5, al6, al7, al8, al9, al10, al11⟩ := adr_lts adr
  have off_D : Off D tl := gt_off htl (by omega)
  have off_dB : Off dB tl := gt_off htl (by omega)
  have off_dT : Off dT tl := gt_off htl (by omega)
  have off_Cs : Off Cs tl := gt_off htl (by omega)
  have off_dG : Off dG tl := gt_off htl (by omega)
  have off_c : Off (L + 1) tl := gt_off htl (by show @LE.le Nat _ (L + 1) Lg; omega)
  have htx := gapText_len ok
  rw [map_has4 v1 v2 v3 v4] at F
  have hva := spread_vare rows (VAre.ints hlv)
  have hlv2 := hlv.length
  rw [rangeKs_length] at hlv2
  have hle := hva.length
  rw [hag.1] at hle
  have hrl9 : rows.length ≤ 6 := by omega
  have kR : ∀ (S Lo2 Rw2 : Addr) (sv lv2 dv2 : List Value) (ds2 : List Int) (n1 n2 n3 nd2 : Nat) (oc2 : Obj) (tg2 : Tok) (all : List (Addr × Obj)) (m' : Str → Option Value) (h' : Heap) (tk' : Nat),
      Fr h₀ L h' m' → m' (Str.ofString "deck") = some (.ref D) → m' (Str.ofString "buffer") = some (.ref Bf) → m' (Str.ofString "log") = some (.ref Lg) → m' (Str.ofString "lows") = some (.ref Lo2) → News h₀ L h' all → (L + 1, oc2) ∈ all → oc2.data = .cell (some (.ref S)) → (dG, dictOf (logD w.params δ Rw2 .none .none (.int 0 tg2)) 4) ∈ all →
      News h₀ L h' ((I, oI) :: (L + 1, oc2) :: (D, listOf dv2.toArray nd2) :: (Bf, instObj 361 dB) :: (dB, dictOf (bufD w.params β G M Ls (.int pt tp) (.int zv tz) (.int ti tt) (.int ci tc)) 20) :: (G, instObj 150 dT) :: (dT, dictOf (gapD w.params γ Cs (.int gs t1) (.int ge t2)) 4) :: (Cs, listOf vs.toArray n) :: (M, instObj 220 dM) :: (dM, dictOf (mkD w.params μ R) 1) :: (R, oR) :: (Ls, listOf #[.ref Lg] nls) :: (Lg, instObj 59 dG) :: (dG, dictOf (logD w.params δ Rw2 .none .none (.int 0 tg2)) 4) :: (Rw2, listOf ([] : List Value).toArray n3) :: (S, listOf sv.toArray n1) :: (Lo2, listOf lv2.toArray n2) :: []) →
      IntsAre sv (gapText cells gs ge) → IntsAre lv2 (rangeKs 0 (gapText cells gs ge).length) → IntsAre dv2 ds2 → DeckOk ds2 → @LT.lt Nat _ Lg S → @LT.lt Nat _ I S → @LT.lt Nat _ S Rw2 → @LT.lt Nat _ Rw2 Lo2 → Q .next { s with heap := h', toks := tk' } := by
    intro S Lo2 Rw2 sv lv2 dv2 ds2 n1 n2 n3 nd2 oc2 tg2 all m' h' tk' F' w1 w2 w3 w4 _ _ hoc2 _ N' hsv hlv2 hdi2 hdo2 o1 o2 o3 o4
    exact kN ⟨Rw2, S, Lo2, dv2, ds2, nd2, pt, zv, ti, ci, tp, tz, tt, tc, vs, cells, n, gs, ge, t1, t2, .none, .none, 0, tg2, [], n3, [], none, oc2, sv, n1, gapText cells gs ge, lv2, n2, []⟩ m' h' tk' F' N'
      ⟨⟨ad0, ad1, ad2, ad3, ad4, ad5, ad6, ad7, ad8, ad9, ad10, Nat.lt_trans o1 o3⟩, hcD, o1, Nat.ne_of_lt o3, Nat.lt_trans o1 (Nat.lt_trans o3 o4), Nat.ne_of_gt o4, (fun p hp => nomatch hp), (fun p hp => nomatch hp), hi, ok, hcz, hTz, hzv, hr1, hr2, stv_none, hdi2, hdo2, hoc2, hsv, by show (gapText cells gs ge).length ≤ 100; omega, hlv2, .nil, (fun r hr => nomatch hr), hk0, agree_self _, stretch_self _⟩
      ⟨w1, w2, w3, w4⟩ ⟨j1, Nat.ne_of_gt (Nat.lt_trans o2 o3), Nat.ne_of_gt o2, Nat.ne_of_gt (Nat.lt_trans o2 (Nat.lt_trans o3 o4)), (fun p hp => nomatch hp)⟩
  have kS : ∀ (dv2 : List Value) (ds2 : List Int) (nd2 : Nat) (m' : Str → Option Value) (h' : Heap) (tk' : Nat),
      Fr h₀ L h' m' → m' (Str.ofString "deck") = some (.ref D) → m' (Str.ofString "buffer") = some (.ref Bf) → m' (Str.ofString "log") = some (.ref Lg) → m' (Str.ofString "lows") = some (.ref Lo) →
      News h₀ L h' ((I, oI) :: (L + 1, oc1) :: (D, listOf dv2.toArray nd2) :: (Bf, instObj 361 dB) :: (dB, dictOf (bufD w.params β G M Ls (.int pt tp) (.int zv tz) (.int ti tt) (.int ci tc)) 20) :: (G, instObj 150 dT) :: (dT, dictOf (gapD w.params γ Cs (.int gs t1) (.int ge t2)) 4) :: (Cs, listOf vs.toArray n) :: (M, instObj 220 dM) :: (dM, dictOf (mkD w.params μ R) 1) :: (R, oR) :: (Ls, listOf #[.ref Lg] nls) :: (Lg, instObj 59 dG) :: (dG, dictOf (logD w.params δ Rw bv ev (.int gr tg)) 4) :: (Rw, listOf rv.toArray nr) :: (El, listOf xv.toArray ne) :: (Lo, listOf lv.toArray nlo) :: tl) →
      IntsAre dv2 ds2 → DeckOk ds2 → Q .next { s with heap := h', toks := tk' } := by
    intro dv2 ds2 nd2 m' h' tk' F' w1 w2 w3 w4 N' hdi2 hdo2
    exact kN ⟨Rw, El, Lo, dv2, ds2, nd2, pt, zv, ti, ci, tp, tz, tt, tc, vs, cells, n, gs, ge, t1, t2, bv, ev, gr, tg, rv, nr, rows, st, oc1, xv, ne, E', lv, nlo, tl⟩ m' h' tk' F' N'
      ⟨adr, hcD, hE, hEr, hL, hLr, htl, htr, hi, ok, hcz, hTz, hzv, hr1, hr2, hst, hdi2, hdo2, hoc, hxe, hEz, hlv, hrows, hrok, hrl, hag, hsr⟩ ⟨w1, w2, w3, w4⟩ ⟨j1, j2, j3, j4, j5⟩
  clear kN
  (try dsimp only [forBody, List.drop])
  (repeat' (first | (with_reducible ((with_reducible show wpAny _ _ (call (Value.builtin "len") _) _ _ _); ((with_unfolding_all (refine' len_ints_fit (by is_list) (by l_ints) (by l_fit) ?_; k_whole)); (try simp only [List.length_append, List.length_cons, List.length_nil, Nat.zero_add])))) | (with_reducible ((o_head 494; k_dflt (apply spread_spec); all_goals first | exact rowsAre_mono (by assumption) (fun p hp => by tb_rel) | cell_call))) | (with_reducible ((o_head 56; k_dflt (apply taken_spec <;> first | exact stv_none | cell_call); (case' kA => (try (rename _ = none => f0; have hA9 := stretch_none (by assumption) (by assumption) f0))); (case' kB => first | (rename _ = some _ => f0; exact absurd f0 (by simp)) | (rename _ = some _ => f0; obtain ⟨g1, g2, g3, g4, g5, g6, g7⟩ := stretch_facts (by assumption) f0) | skip)))) | (with_reducible ((o_head 323; k_dflt (apply bcodes_spec <;> cell_call); (try (rename IntsAre _ _ => f0; rw [whole_text] at f0))))) | (with_reducible ((with_reducible show wpAny _ _ (subscriptTail (Expr.Name ..) (Expr.Name ..) (Value.ref _) (Value.int _ _)) _ _ _); (k_dflt (refine' item_known (by k_asm) (by k_mem) (by assumption) (by assumption) (by assumption) (by omega) ?_; k_whole); intro t9))) | (with_reducible ((with_reducible show ZcT _ _ _ _ _ _ _); first | exact ZcT.intro (by assumption) (by assumption) | exact absurd rfl (by assumption))) | (with_reducible ((with_reducible show wpAny _ _ (call (Value.type "list") _) _ _ _); ((k_dflt (refine' list_range0 (by exact rfl) (by k_asm) (by k_asm) (by assumption) (by omega) ?_; k_whole)); intro D' vs' c' h' tk' F' N' l1 hI'; (try k_lt l1); (try k_sweep)))) | (with_reducible ((with_reducible show wpAny _ _ (call (Value.builtin "len") _) _ _ _); (k_dflt (refine' len_vals (by k_asm) (by k_mem) (by assumption) (by omega) ?_; k_whole)))) | (with_reducible ((with_reducible show wpAny _ _ (call (Value.type "zip") _) _ _ _); (k_dflt (refine' zc_zip (by exact rfl) (by k_asm) (by k_asm) (by k_mem) (by k_mem) ?_ ?_); rotate_left; ((intro D' h' tk' F' N' l1); (replace l1 := allLt_of l1); (try k_sweep)); rotate_right; (intro i x y C oC m₂ own h' tk' E2 hx hy hC' ha hb F' N1); (obtain ⟨t, tt, hx2, hy2⟩ := zip_same (by assumption) (by assumption) (by assumption) hx hy); (subst hx2); (have N' := zc_news N1); ((rcases hy2 with hy3 | ⟨k, tk, hy3, hk0, hkE⟩) <;> subst hy3)))) | (with_reducible ((with_reducible show wpAny _ _ (eval (Expr.ListComp ..) _) _ _ _); (k_dflt (refine' zc_ListComp (by k_asm) (by with_unfolding_all rfl) (by decide) (by rfl) (by decide) (by rfl) (by rfl) (by decide) ?_; k_whole)))) | (k_unfold; (try dsimp only)) | (k_end; kc_close) | walk1 | (dsimp only; walk1) | (leave1; walk_say "STEP leave1"; (try dsimp only)) | fail "no step"))
  all_goals try exact absurd (Eq.refl ((gapText cells gs ge).length : Int)) (by assumption)
  all_goals try exact kS _ _ _ _ _ _ (by assumption) (by rfl) (by rfl) (by rfl) (by rfl) (by ktr_rel) (by assumption) (by assumption)
  all_goals exact kR _ _ _ _ _ _ _ _ _ _ _ _ _ _ _ _ _ (by assumption) (by rfl) (by rfl) (by rfl) (by rfl) (by assumption) (by k_mem) (by assumption) (by k_mem) (by (rename News _ _ _ _ => nN; (repeat (refine news_cons ?_ nN (by k_mem))); exact fun p hp => nomatch hp)) (by assumption) (by assumption) (by assumption) (by assumption) (lt_at (by assumption) (by k_mem)) (lt_at (by assumption) (by k_mem)) (lt_at (by assumption) (by k_mem)) (lt_at (by assumption) (by k_mem))
set_option maxRecDepth 100000 in
set_option maxHeartbeats 8000000 in
theorem turn2_spec {prog : Program} {w : World} {p : Program} {loose : List Str} {mean : ExcName → Option Value} {mg mb : Str → Option Value} {dp un : Nat} {gd : Option (List Code)} {outer : List Env} {A₀ : Around} {base h₀ : Heap} {L : Addr} {m : Str → Option Value} {s : Shared} {Q : Flow → Shared → Prop} {E : Value → Shared → Prop} {oc : Value} {od : Option Addr} {name qual : Str} {params : Arguments} {body : List Stmt} {scope : Scope} {dV kV doc pm cdv ct cdv9 : Value} {fa : Addr} {an : Option Addr} {osl : Array (Option Value)} {k : Int} {I : Addr} {oI : Obj} {rest : List Stmt} {f : Fix} {v : Var} (B : Below A₀ base outer h₀) (F : Fr h₀ L s.heap m) (X : (Mine.hd.heap_1 w.params).In h₀) (N : News h₀ L s.heap ((I, oI) :: led w.params f v)) (T : Top p loose mean mg mb h₀) (hdp : dp ≤ 480) (hun : un ≤ 3800) (ho : (Mine.hd.heap_1 w.params).lookup 511 = some ⟨oc, od, .func (fnOf name qual params body scope dV kV doc pm an cdv ct), osl⟩) (hr : rest = (forBody body).drop 1) (hcL : f.c = L + 1) (O : Ok prog w f v k) (V : Vars f v m) (J : IOk I f v) (hk0 : 0 ≤ k) (hk6 : k ≤ 6) (kN : ∀ (v' : Var) m' h' tk', Fr h₀ L h' m' → News h₀ L h' ((I, oI) :: led w.params f v') → Ok prog w f v' (k) → Vars f v' m' → IOk I f v' → Q .next { s with heap := h', toks := tk' })
  : wpAny (model prog w) (ktrTop dp un gd qual scope L fa cdv9 (cellsFrom (L + 1) scope.names []) outer) (execs rest (envOfC qual scope L fa cdv9)) Q E s := by
  obtain ⟨c, D, dB, Bf, dT, G, Cs, dM, M, R, Ls, dG, Lg, γ, β, δ, μ, oR, nls⟩ := f
  obtain ⟨Rw, El, Lo, dv, ds, nd, pt, zv, ti, ci, tp, tz, tt, tc, vs, cells, n, gs, ge, t1, t2, bv, ev, gr, tg, rv, nr, rows, st, oc1, xv, ne, E', lv, nlo, tl⟩ := v
  have e : c = L + 1 := hcL
  subst e
  exact turn2_spec_c B F X N T hdp hun ho hr O V J hk0 hk6 kN
end
end
section
section
set_option maxRecDepth 100000 in
set_option maxHeartbeats 8000000 in
theorem turn_spec_c {prog : Program} {w : World} {p : Program} {loose : List Str} {mean : ExcName → Option Value} {mg mb : Str → Option Value} {dp un : Nat} {gd : Option (List Code)} {outer : List Env} {A₀ : Around} {base h₀ : Heap} {L : Addr} {m : Str → Option Value} {s : Shared} {Q : Flow → Shared → Prop} {E : Value → Shared → Prop} {oc : Value} {od : Option Addr} {name qual : Str} {params : Arguments} {body : List Stmt} {scope : Scope} {dV kV doc pm cdv ct cdv9 : Value} {fa : Addr} {an : Option Addr} {osl : Array (Option Value)} {k : Int} {tl9 : Tok} {I : Addr} {oI : Obj} {rest : List Stmt} {D dB Bf dT G Cs dM M R Ls dG Lg : Addr} {γ : GT} {β : BT} {δ : LT} {μ : MT} {oR : Obj} {nls : Nat} {Rw El Lo : Addr} {dv : List Value} {ds : List Int} {nd : Nat} {pt zv ti ci : Int} {tp tz tt tc : Tok} {vs : List Value} {cells : List Int} {n : Nat} {gs ge : Int} {t1 t2 : Tok} {bv ev : Value} {gr : Int} {tg : Tok} {rv : List Value} {nr : Nat} {rows : List (Int × Int × Int)} {st : Option (Int × Int)} {oc1 : Obj} {xv : List Value} {ne : Nat} {E' : List Int} {lv : List Value} {nlo : Nat} {tl : List (Addr × Obj)} (B : Below A₀ base outer h₀) (F : Fr h₀ L s.heap m) (X : (Mine.hd.heap_1 w.params).In h₀) (N : News h₀ L s.heap ((I, oI) :: led w.params ⟨L + 1, D, dB, Bf, dT, G, Cs, dM, M, R, Ls, dG, Lg, γ, β, δ, μ, oR, nls⟩ ⟨Rw, El, Lo, dv, ds, nd, pt, zv, ti, ci, tp, tz, tt, tc, vs, cells, n, gs, ge, t1, t2, bv, ev, gr, tg, rv, nr, rows, st, oc1, xv, ne, E', lv, nlo, tl⟩)) (T : Top p loose mean mg mb h₀) (hdp : dp ≤ 470) (hun : un ≤ 3700) (ho : (Mine.hd.heap_1 w.params).lookup 511 = some ⟨oc, od, .func (fnOf name qual params body scope dV kV doc pm an cdv ct), osl⟩) (hr : rest = (forBody body)) (O : Ok prog w ⟨L + 1, D, dB, Bf, dT, G, Cs, dM, M, R, Ls, dG, Lg, γ, β, δ, μ, oR, nls⟩ ⟨Rw, El, Lo, dv, ds, nd, pt, zv, ti, ci, tp, tz, tt, tc, vs, cells, n, gs, ge, t1, t2, bv, ev, gr, tg, rv, nr, rows, st, oc1, xv, ne, E', lv, nlo, tl⟩ k) (V : Vars ⟨L + 1, D, dB, Bf, dT, G, Cs, dM, M, R, Ls, dG, Lg, γ, β, δ, μ, oR, nls⟩ ⟨Rw, El, Lo, dv, ds, nd, pt, zv, ti, ci, tp, tz, tt, tc, vs, cells, n, gs, ge, t1, t2, bv, ev, gr, tg, rv, nr, rows, st, oc1, xv, ne, E', lv, nlo, tl⟩ m) (v0 : m (Str.ofString "lap") = some (.int k tl9)) (J : IOk I ⟨L + 1, D, dB, Bf, dT, G, Cs, dM, M, R, Ls, dG, Lg, γ, β, δ, μ, oR, nls⟩ ⟨Rw, El, Lo, dv, ds, nd, pt, zv, ti, ci, tp, tz, tt, tc, vs, cells, n, gs, ge, t1, t2, bv, ev, gr, tg, rv, nr, rows, st, oc1, xv, ne, E', lv, nlo, tl⟩) (hk0 : 0 ≤ k) (hk6 : k ≤ 5) (kN : ∀ (v' : Var) m' h' tk', Fr h₀ L h' m' → News h₀ L h' ((I, oI) :: led w.params ⟨L + 1, D, dB, Bf, dT, G, Cs, dM, M, R, Ls, dG, Lg, γ, β, δ, μ, oR, nls⟩ v') → Ok prog w ⟨L + 1, D, dB, Bf, dT, G, Cs, dM, M, R, Ls, dG, Lg, γ, β, δ, μ, oR, nls⟩ v' (k + 1) → Vars ⟨L + 1, D, dB, Bf, dT, G, Cs, dM, M, R, Ls, dG, Lg, γ, β, δ, μ, oR, nls⟩ v' m' → IOk I ⟨L + 1, D, dB, Bf, dT, G, Cs, dM, M, R, Ls, dG, Lg, γ, β, δ, μ, oR, nls⟩ v' → Q .next { s with heap := h', toks := tk' })
  : wpAny (model prog w) (ktrTop dp un gd qual scope L fa cdv9 (cellsFrom (L + 1) scope.names []) outer) (execs rest (envOfC qual scope L fa cdv9)) Q E s := by
  obtain ⟨adr, hcD, hE, hEr, hL, hLr, htl, htr, hi, ok, hcz, hTz, hzv, hr1, hr2, hst, hdi, hdo, hoc, hxe, hEz, hlv, hrows, hrok, hrl, hag, hsr⟩ := O
  obtain ⟨v1, v2, v3, v4⟩ := V
  obtain ⟨j1, j2, j3, j4, j5⟩ := J
  dsimp only at *
  have htx := gapText_len ok
  have hrvl := rowsAre_len hrows
  have tA : ∀ (es : List Value) (ds2 : List Int) (nd2 : Nat) (m' : Str → Option Value) (h' : Heap) (tk' : Nat), Fr h₀ L h' m' → m' (Str.ofString "deck") = some (.ref D) → m' (Str.ofString "buffer") = some (.ref Bf) → m' (Str.ofString "log") = some (.ref Lg) → m' (Str.ofString "lows") = some (.ref Lo) → News h₀ L h' ((I, oI) :: (L + 1, oc1) :: (D, listOf es.toArray nd2) :: (Bf, instObj 361 dB) :: (dB, dictOf (bufD w.params β G M Ls (.int pt tp) (.int zv tz) (.int ti tt) (.int ci tc)) 20) :: (G, instObj 150 dT) :: (dT, dictOf (gapD w.params γ Cs (.int gs t1) (.int ge t2)) 4) :: (Cs, listOf vs.toArray n) :: (M, instObj 220 dM) :: (dM, dictOf (mkD w.params μ R) 1) :: (R, oR) :: (Ls, listOf #[.ref Lg] nls) :: (Lg, instObj 59 dG) :: (dG, dictOf (logD w.params δ Rw bv ev (.int gr tg)) 4) :: (Rw, listOf rv.toArray nr) :: (El, listOf xv.toArray ne) :: (Lo, listOf lv.toArray nlo) :: tl) → IntsAre es ds2 → DeckOk ds2 → wpAny (model prog w) (ktrTop dp un gd qual scope L fa cdv9 (cellsFrom (L + 1) scope.names []) outer) (execs ((forBody body).drop 1) (envOfC qual scope L fa cdv9)) Q E { s with heap := h', toks := tk' } := by
    intro es ds2 nd2 m' h' tk' F' w1 w2 w3 w4 N' hdi2 hdo2
    exact turn2_spec (f := ⟨L + 1, D, dB, Bf, dT, G, Cs, dM, M, R, Ls, dG, Lg, γ, β, δ, μ, oR, nls⟩) (v := ⟨Rw, El, Lo, es, ds2, nd2, pt, zv, ti, ci, tp, tz, tt, tc, vs, cells, n, gs, ge, t1, t2, bv, ev, gr, tg, rv, nr, rows, st, oc1, xv, ne, E', lv, nlo, tl⟩) (k := k + 1)
      B F' X N' T (by omega) (by omega) ho rfl rfl
      ⟨adr, hcD, hE, hEr, hL, hLr, htl, htr, hi, ok, by show (cells.length : Int) ≤ 100 + 100 * (k + 1); omega, by show ((gapText cells gs ge).length : Int) ≤ 10 + 3 * (k + 1); omega, hzv, hr1, hr2, hst, hdi2, hdo2, hoc, hxe, hEz, hlv, hrows, hrok, by show (rows.length : Int) ≤ k + 1; omega, hag, hsr⟩
      ⟨w1, w2, w3, w4⟩ ⟨j1, j2, j3, j4, j5⟩ (by omega) (by omega) (fun v' m' h' tk' F' N' O' V' J' => kN v' m' h' tk' F' N' O' V' J')
  have tB : ∀ (q : Addr) (es : List Value) (ds2 : List Int) (nd2 : Nat) (lo hi_ : Int) (xs : List Int) (zz' : Int) (to1 to2 to3 : Tok) (pt' : Int) (tp' tz' : Tok) (ti' : Int) (tt' : Tok) (ci' : Int) (tc' t1' t2' : Tok) (gs' ge' : Int) (vs' : List Value) (cells' : List Int) (n' : Nat) (bv' ev' : Value) (tg' : Tok) (nr' : Nat) (m' : Str → Option Value) (h' : Heap) (tk' : Nat), Fr h₀ L h' m' → m' (Str.ofString "deck") = some (.ref D) → m' (Str.ofString "buffer") = some (.ref Bf) → m' (Str.ofString "log") = some (.ref Lg) → m' (Str.ofString "lows") = some (.ref Lo) → News h₀ L h' ((I, oI) :: (L + 1, oc1) :: (D, listOf es.toArray nd2) :: (Bf, instObj 361 dB) :: (dB, dictOf (bufD w.params β G M Ls (.int pt' tp') (.int zz' tz') (.int ti' tt') (.int ci' tc')) 20) :: (G, instObj 150 dT) :: (dT, dictOf (gapD w.params γ Cs (.int gs' t1') (.int ge' t2')) 4) :: (Cs, listOf vs'.toArray n') :: (M, instObj 220 dM) :: (dM, dictOf (mkD w.params μ R) 1) :: (R, oR) :: (Ls, listOf #[.ref Lg] nls) :: (Lg, instObj 59 dG) :: (dG, dictOf (logD w.params δ Rw bv' ev' (.int (gr + (lo + (xs.length : Int) - lo - (hi_ - lo))) tg')) 4) :: (Rw, listOf (rv ++ [Value.ref q]).toArray nr') :: (El, listOf xv.toArray ne) :: (Lo, listOf lv.toArray nlo) :: (q, tup3 lo (lo + (xs.length : Int)) (hi_ - lo) to1 to2 to3) :: tl) →
      @LT.lt Nat _ Rw q → @LT.lt Nat _ I q → IntsAre vs' cells' → GapOk cells' gs' ge' → gapText cells' gs' ge' = (gapText cells gs ge).take (lo - 1).toNat ++ xs ++ (gapText cells gs ge).drop (hi_ - 1).toNat → (cells'.length : Int) ≤ cells.length + (xs.length : Int) + 8 → (cells'.length : Int) - (ge' - gs') = cells.length - (ge - gs) + (lo + (xs.length : Int) - lo - (hi_ - lo)) → StV (stNext st lo (lo + (xs.length : Int)) ((hi_ - lo))) bv' ev' → zz' = zv + ((lo + (xs.length : Int)) - lo - (hi_ - lo)) → 1 ≤ lo → lo ≤ hi_ → hi_ - 1 + (ge - gs) ≤ cells.length → (xs.length : Int) ≤ hi_ - lo + 3 → IntsAre es ds2 → DeckOk ds2 → wpAny (model prog w) (ktrTop dp un gd qual scope L fa cdv9 (cellsFrom (L + 1) scope.names []) outer) (execs ((forBody body).drop 1) (envOfC qual scope L fa cdv9)) Q E { s with heap := h', toks := tk' } := by
    intro q es ds2 nd2 lo hi_ xs zz' to1 to2 to3 pt' tp' tz' ti' tt' ci' tc' t1' t2' gs' ge' vs' cells' n' bv' ev' tg' nr' m' h' tk' F' w1 w2 w3 w4 N' q1 q2 f0 f1 f2 f3 f4 f5 f6 f7 f8 f9 f10 f11 f12
    have hty := gapText_len f1
    have ad11 := adr.2.2.2.2.2.2.2.2.2.2.2
    exact turn2_spec (f := ⟨L + 1, D, dB, Bf, dT, G, Cs, dM, M, R, Ls, dG, Lg, γ, β, δ, μ, oR, nls⟩) (v := ⟨Rw, El, Lo, es, ds2, nd2, pt', zz', ti', ci', tp', tz', tt', tc', vs', cells', n', gs', ge', t1', t2', bv', ev', gr + (lo + (xs.length : Int) - lo - (hi_ - lo)), tg', rv ++ [.ref q], nr', rows ++ [(lo, lo + (xs.length : Int), hi_ - lo)], stNext st lo (lo + (xs.length : Int)) (hi_ - lo), oc1, xv, ne, E', lv, nlo, (q, tup3 lo (lo + (xs.length : Int)) (hi_ - lo) to1 to2 to3) :: tl⟩) (k := k + 1)
      B F' X N' T (by omega) (by omega) ho rfl rfl
      ⟨adr, hcD, hE, hEr, hL, hLr, (fun p hp => by
          rcases List.mem_cons.mp hp with e | hp
          · rw [e]; exact Nat.lt_trans ad11 q1
          · exact htl p hp), (fun p hp => by
          rcases List.mem_cons.mp hp with e | hp
          · rw [e]; exact Nat.ne_of_gt q1
          · exact htr p hp), f0, f1, by show (cells'.length : Int) ≤ 100 + 100 * (k + 1); omega, by show ((gapText cells' gs' ge').length : Int) ≤ 10 + 3 * (k + 1); omega, by show zz' = (cells'.length : Int) - (ge' - gs') + 1; omega, hr1, hr2, f5, f11, f12, hoc, hxe, hEz, hlv,
        rowsAre_snoc (rowsAre_mono hrows (fun p hp => .tail _ hp)) (.head _), (fun r hr => by
          rcases List.mem_append.mp hr with hr | hr
          · exact hrok r hr
          · rw [List.mem_singleton.mp hr]
            refine ⟨f7, ?_, ?_, ?_, ?_⟩
            · show lo ≤ lo + (xs.length : Int); omega
            · show 0 ≤ hi_ - lo; omega
            · show lo + (xs.length : Int) ≤ 1000; omega
            · show hi_ - lo ≤ 1000; omega), by show ((rows ++ [_]).length : Int) ≤ k + 1; rw [List.length_append, List.length_singleton]; omega,
        by show Agree (gapText cells' gs' ge') E' (spreadAll _ (rows ++ [_])); rw [f2, spreadAll_snoc]; exact agree_edit hag f7 f8 (by omega), by show Stretch (gapText cells' gs' ge') E' _ _; rw [f2]; exact stretch_edit hsr f7 f8 (by omega)⟩
      ⟨w1, w2, w3, w4⟩ ⟨j1, j2, j3, j4, (fun p hp => by
          rcases List.mem_cons.mp hp with e | hp
          · rw [e]; exact Nat.ne_of_gt q2
          · exact j5 p hp)⟩ (by omega) (by omega) (fun v' m' h' tk' F' N' O' V' J' => kN v' m' h' tk' F' N' O' V' J')
  refine' use_lookup ho ?k6 ?_
  case k6 => k_dflt k_is
  intro e9
  cases e9
  subst hr
  clear ho kN
  dsimp only [led] at N
  have adr' := adr
  obtain ⟨ad0, ad1, ad2, ad3, ad4, ad5, ad6, ad7, ad8, ad9, ad10, ad11⟩ := adr'
  obtain ⟨al0, al1, al2, al3, al4, al5, al6, al7, al8, al9, al10, al11⟩ := adr_lts adr
  have off_D : Off D tl := gt_off htl (by omega)
  have off_dB : Off dB tl := gt_off htl (by omega)
  have off_dT : Off dT tl := gt_off htl (by omega)
  have off_Cs : Off Cs tl := gt_off htl (by omega)
  have off_dG : Off dG tl := gt_off htl (by omega)
  have off_c : Off (L + 1) tl := gt_off htl (by show @LE.le Nat _ (L + 1) Lg; omega)
  rw [map_has5 v0 v1 v2 v3 v4] at F
  dsimp only [forBody, List.drop] at tA tB
  (try dsimp only [forBody, List.drop])
  (repeat' (first | (with_reducible ((with_reducible show wpAny _ _ (call (Value.builtin "len") _) _ _ _); ((with_unfolding_all (refine' len_ints_fit (by is_list) (by l_ints) (by l_fit) ?_; k_whole)); (try simp only [List.length_append, List.length_cons, List.length_nil, Nat.zero_add])))) | (with_reducible ((o_head 506; k_dflt (apply edit_spec <;> cell_call); all_goals refine stop_of ?_))) | (with_reducible ((with_reducible show wpAny _ _ (subscriptTail (Expr.Name ..) (Expr.Name ..) (Value.ref _) (Value.int _ _)) _ _ _); (k_dflt (refine' item_known (by k_asm) (by k_mem) (by assumption) (by assumption) (by assumption) (by omega) ?_; k_whole); intro t9))) | (with_reducible ((with_reducible show ZcT _ _ _ _ _ _ _); first | exact ZcT.intro (by assumption) (by assumption) | exact absurd rfl (by assumption))) | (with_reducible ((with_reducible show wpAny _ _ (call (Value.type "list") _) _ _ _); ((k_dflt (refine' list_range0 (by exact rfl) (by k_asm) (by k_asm) (by assumption) (by omega) ?_; k_whole)); intro D' vs' c' h' tk' F' N' l1 hI'; (try k_lt l1); (try k_sweep)))) | (with_reducible ((with_reducible show wpAny _ _ (call (Value.builtin "len") _) _ _ _); (k_dflt (refine' len_vals (by k_asm) (by k_mem) (by assumption) (by omega) ?_; k_whole)))) | (with_reducible ((with_reducible show wpAny _ _ (call (Value.type "zip") _) _ _ _); (k_dflt (refine' zc_zip (by exact rfl) (by k_asm) (by k_asm) (by k_mem) (by k_mem) ?_ ?_); rotate_left; ((intro D' h' tk' F' N' l1); (replace l1 := allLt_of l1); (try k_sweep)); rotate_right; (intro i x y C oC m₂ own h' tk' E2 hx hy hC' ha hb F' N1); (obtain ⟨t, tt, hx2, hy2⟩ := zip_same (by assumption) (by assumption) (by assumption) hx hy); (subst hx2); (have N' := zc_news N1); ((rcases hy2 with hy3 | ⟨k, tk, hy3, hk0, hkE⟩) <;> subst hy3)))) | (with_reducible ((with_reducible show wpAny _ _ (eval (Expr.ListComp ..) _) _ _ _); (k_dflt (refine' zc_ListComp (by k_asm) (by with_unfolding_all rfl) (by decide) (by rfl) (by decide) (by rfl) (by rfl) (by decide) ?_; k_whole)))) | (k_unfold; (try dsimp only)) | (k_end; kc_close) | walk1 | (dsimp only; walk1) | (leave1; walk_say "STEP leave1"; (try dsimp only)) | fail "no step"))
  all_goals unfold Stop
  · exact tA _ _ _ _ _ _ (by assumption) (by rfl) (by rfl) (by rfl) (by rfl) (by ktr_rel) (by assumption) (by assumption)
  · exact tB _ _ _ _ _ _ _ _ _ _ _ _ _ _ _ _ _ _ _ _ _ _ _ _ _ _ _ _ _ _ _ _ (by assumption) (by rfl) (by rfl) (by rfl) (by rfl) (by ktr_rel) (lt_at (by assumption) (by k_mem)) (lt_at (by assumption) (by k_mem)) (by assumption) (by assumption) (by assumption) (by assumption) (by assumption) (by assumption) (by assumption) (by assumption) (by assumption) (by assumption) (by assumption) (by assumption) (by assumption)
set_option maxRecDepth 100000 in
set_option maxHeartbeats 8000000 in
theorem turn_spec {prog : Program} {w : World} {p : Program} {loose : List Str} {mean : ExcName → Option Value} {mg mb : Str → Option Value} {dp un : Nat} {gd : Option (List Code)} {outer : List Env} {A₀ : Around} {base h₀ : Heap} {L : Addr} {m : Str → Option Value} {s : Shared} {Q : Flow → Shared → Prop} {E : Value → Shared → Prop} {oc : Value} {od : Option Addr} {name qual : Str} {params : Arguments} {body : List Stmt} {scope : Scope} {dV kV doc pm cdv ct cdv9 : Value} {fa : Addr} {an : Option Addr} {osl : Array (Option Value)} {k : Int} {tl9 : Tok} {I : Addr} {oI : Obj} {rest : List Stmt} {f : Fix} {v : Var} (B : Below A₀ base outer h₀) (F : Fr h₀ L s.heap m) (X : (Mine.hd.heap_1 w.params).In h₀) (N : News h₀ L s.heap ((I, oI) :: led w.params f v)) (T : Top p loose mean mg mb h₀) (hdp : dp ≤ 470) (hun : un ≤ 3700) (ho : (Mine.hd.heap_1 w.params).lookup 511 = some ⟨oc, od, .func (fnOf name qual params body scope dV kV doc pm an cdv ct), osl⟩) (hr : rest = (forBody body)) (hcL : f.c = L + 1) (O : Ok prog w f v k) (V : Vars f v m) (v0 : m (Str.ofString "lap") = some (.int k tl9)) (J : IOk I f v) (hk0 : 0 ≤ k) (hk6 : k ≤ 5) (kN : ∀ (v' : Var) m' h' tk', Fr h₀ L h' m' → News h₀ L h' ((I, oI) :: led w.params f v') → Ok prog w f v' (k + 1) → Vars f v' m' → IOk I f v' → Q .next { s with heap := h', toks := tk' })
  : wpAny (model prog w) (ktrTop dp un gd qual scope L fa cdv9 (cellsFrom (L + 1) scope.names []) outer) (execs rest (envOfC qual scope L fa cdv9)) Q E s := by
  obtain ⟨c, D, dB, Bf, dT, G, Cs, dM, M, R, Ls, dG, Lg, γ, β, δ, μ, oR, nls⟩ := f
  obtain ⟨Rw, El, Lo, dv, ds, nd, pt, zv, ti, ci, tp, tz, tt, tc, vs, cells, n, gs, ge, t1, t2, bv, ev, gr, tg, rv, nr, rows, st, oc1, xv, ne, E', lv, nlo, tl⟩ := v
  have e : c = L + 1 := hcL
  subst e
  exact turn_spec_c B F X N T hdp hun ho hr O V v0 J hk0 hk6 kN
end
end
section
set_option maxRecDepth 100000
theorem led_off {P : Params} {prog : Program} {w : World} {f : Fix} {v : Var} {k : Int} {I : Addr} (O : Ok prog w f v k) (J : IOk I f v) : ∀ p ∈ led P f v, p.1 ≠ I := by
  obtain ⟨c, D, dB, Bf, dT, G, Cs, dM, M, R, Ls, dG, Lg, γ, β, δ, μ, oR, nls⟩ := f
  have hcD := O.hcD
  obtain ⟨ad0, ad1, ad2, ad3, ad4, ad5, ad6, ad7, ad8, ad9, ad10, ad11⟩ := O.adr
  obtain ⟨j1, j2, j3, j4, j5⟩ := J
  dsimp only at *
  intro p hp
  unfold led at hp
  simp only [List.mem_cons] at hp
  have hlt : ∀ {a : Addr}, @LT.lt Nat _ a I → a ≠ I := fun h => Nat.ne_of_lt h
  rcases hp with rfl | rfl | rfl | rfl | rfl | rfl | rfl | rfl | rfl | rfl | rfl | rfl | rfl | rfl | rfl | rfl | hp
  all_goals first
    | exact j2
    | exact j3
    | exact j4
    | exact j5 p hp
    | exact hlt (by dsimp only; omega)
section
variable {prog : Program} {w : World} {p : Program} {loose : List Str} {mean : ExcName → Option Value} {mg mb : Str → Option Value} {dp un : Nat} {gd : Option (List Code)} {outer : List Env} {A₀ : Around} {base h₀ : Heap} {L : Addr} {m : Str → Option Value} {s : Shared} {Q : Flow → Shared → Prop} {E : Value → Shared → Prop}
  {oc : Value} {od : Option Addr} {name qual : Str} {params : Arguments} {body : List Stmt} {scope : Scope} {dV kV doc pm cdv ct cdv9 : Value} {fa : Addr} {an : Option Addr} {osl : Array (Option Value)}
include prog in
theorem loop_rest {f : Fix} {I : Addr}
  (B : Below A₀ base outer h₀) (X : (Mine.hd.heap_1 w.params).In h₀) (T : Top p loose mean mg mb h₀) (hdp : dp ≤ 470) (hun : un ≤ 3700)
  (ho : (Mine.hd.heap_1 w.params).lookup 511 = some ⟨oc, od, .func (fnOf name qual params body scope dV kV doc pm an cdv ct), osl⟩) (hcL : f.c = L + 1)
  (done : ∀ (v' : Var) m' h' tk', Fr h₀ L h' m' → News h₀ L h' (led w.params f v') → Ok prog w f v' 6 → Vars f v' m' → Q .next { s with heap := h', toks := tk' }) :
  ∀ (k i : Nat) (v : Var) (m : Str → Option Value), i + k = 6 → Ok prog w f v (i : Int) → Vars f v m → IOk I f v →
    RangeRest prog w (ktrTop dp un gd qual scope L fa cdv9 (cellsFrom (L + 1) scope.names []) outer) E h₀ (envOfC qual scope L fa cdv9) (Str.ofString "lap") (forBody body) Q s I 0 6 k i m (led w.params f v) := by
  intro k
  induction k with
  | zero =>
    intro i v m hi O V J
    have e : i = 6 := by omega
    subst e
    exact RangeRest.zero fun h tk F N => done v m h tk F N O V
  | succ k ih =>
    intro i v m hi O V J
    refine RangeRest.succ fun t h tk F N => ?_
    rw [Int.zero_add] at F
    refine turn_spec (f := f) (v := v) (k := (i : Int)) (tl9 := t) (s := { s with heap := h, toks := tk }) B F X N T hdp hun ho rfl hcL O ⟨V.deck, V.buffer, V.log, V.lows⟩ rfl J (by omega) (by omega) fun v' m' h' tk' F' N' O' V' J' => ?_
    exact ⟨h', tk', m', led w.params f v', rfl, F', N', led_off O' J', ih (i + 1) v' m' (by omega) (by exact_mod_cast O') V' J'⟩
theorem law_loop {f : Fix} {v : Var} {r : Addr} {t₀ u₀ v₀ : Tok}
  (B : Below A₀ base outer h₀) (F : Fr h₀ L s.heap m) (X : (Mine.hd.heap_1 w.params).In h₀) (N : News h₀ L s.heap (led w.params f v)) (T : Top p loose mean mg mb h₀) (hdp : dp ≤ 470) (hun : un ≤ 3700)
  (ho : (Mine.hd.heap_1 w.params).lookup 511 = some ⟨oc, od, .func (fnOf name qual params body scope dV kV doc pm an cdv ct), osl⟩) (hcL : f.c = L + 1)
  (hr : IsRange s.heap r 0 6 1 t₀ u₀ v₀) (O : Ok prog w f v 0) (V : Vars f v m)
  (done : ∀ (v' : Var) m' h' tk', Fr h₀ L h' m' → News h₀ L h' (led w.params f v') → Ok prog w f v' 6 → Vars f v' m' → Q .next { s with heap := h', toks := tk' }) :
  wpAny (model prog w) (ktrTop dp un gd qual scope L fa cdv9 (cellsFrom (L + 1) scope.names []) outer) (pyIter (.ref r))
    (fun it s₂ => LoopAtV prog w (ktrTop dp un gd qual scope L fa cdv9 (cellsFrom (L + 1) scope.names []) outer) h₀ (envOfC qual scope L fa cdv9) (Str.ofString "lap") (forBody body) Q E it s₂) E s := by
  refine iter_rangeUnr (n := 6) rfl hr (by decide) (by decide) F N fun I hI => ?_
  have hm : ∀ {q : Addr × Obj}, q ∈ led w.params f v → @LT.lt Nat _ q.1 I := fun h => hI _ h
  refine loop_rest B X T hdp hun ho hcL done 6 0 v m rfl O V ⟨hI (f.Lg, instObj 59 f.dG) (by unfold led; simp), Nat.ne_of_lt (hI (v.Rw, listOf v.rv.toArray v.nr) (by unfold led; simp)), Nat.ne_of_lt (hI (v.El, listOf v.xv.toArray v.ne) (by unfold led; simp)), Nat.ne_of_lt (hI (v.Lo, listOf v.lv.toArray v.nlo) (by unfold led; simp)), fun q hq => Nat.ne_of_lt (hI q (by unfold led; simp [hq]))⟩
end
end
section
theorem map_has3 {m : Str → Option Value} {x1 x2 x3 : Str} {v1 v2 v3 : Value} (h1 : m x1 = some v1) (h2 : m x2 = some v2) (h3 : m x3 = some v3) :
    m = fun z => if z = x1 then some v1 else if z = x2 then some v2 else if z = x3 then some v3 else m z := by
  funext z
  by_cases c1 : z = x1
  · rw [if_pos c1, c1]; exact h1
  rw [if_neg c1]
  by_cases c2 : z = x2
  · rw [if_pos c2, c2]; exact h2
  rw [if_neg c2]
  by_cases c3 : z = x3
  · rw [if_pos c3, c3]; exact h3
  rw [if_neg c3]
section
variable {prog : Program} {w : World} {p : Program} {loose : List Str} {mean : ExcName → Option Value} {mg mb : Str → Option Value} {dp un : Nat} {gd : Option (List Code)} {outer : List Env} {A₀ : Around} {base h₀ : Heap} {L : Addr} {m : Str → Option Value} {s : Shared} {Q : Flow → Shared → Prop} {E : Value → Shared → Prop} {oc : Value} {od : Option Addr} {name qual : Str} {params : Arguments} {body : List Stmt} {scope : Scope} {dV kV doc pm cdv ct cdv9 : Value} {fa : Addr} {an : Option Addr} {osl : Array (Option Value)}
set_option maxRecDepth 100000 in
set_option maxHeartbeats 8000000 in
theorem rest2_spec {D dB Bf dT G Cs dM M R Ls dG Lg Rw : Addr} {γ : GT} {β : BT} {δ : LT} {μ : MT} {oR oc9 : Obj} {nls nd n nr : Nat} {dv vs : List Value} {ds cells : List Int} {pt zv ti ci gs ge : Int} {tp tz tt tc t1 t2 tg : Tok} {rest : List Stmt}
  (B : Below A₀ base outer h₀) (F : Fr h₀ L s.heap m) (X : (Mine.hd.heap_1 w.params).In h₀) (N : News h₀ L s.heap ((L + 1, oc9) :: (D, listOf dv.toArray nd) :: (Bf, instObj 361 dB) :: (dB, dictOf (bufD w.params β G M Ls (.int pt tp) (.int zv tz) (.int ti tt) (.int ci tc)) 20) :: (G, instObj 150 dT) :: (dT, dictOf (gapD w.params γ Cs (.int gs t1) (.int ge t2)) 4) :: (Cs, listOf vs.toArray n) :: (M, instObj 220 dM) :: (dM, dictOf (mkD w.params μ R) 1) :: (R, oR) :: (Ls, listOf ([] : List Value).toArray nls) :: (Lg, instObj 59 dG) :: (dG, dictOf (logD w.params δ Rw .none .none (.int 0 tg)) 4) :: (Rw, listOf ([] : List Value).toArray nr) :: [])) (T : Top p loose mean mg mb h₀)
  (hdp : dp ≤ 460) (hun : un ≤ 3600)
  (ho : (Mine.hd.heap_1 w.params).lookup 511 = some ⟨oc, od, .func (fnOf name qual params body scope dV kV doc pm an cdv ct), osl⟩) (hr : rest = body.drop 3)
  (adr : AdrOk D dB Bf dT G Cs dM M R Ls dG Lg Rw) (hcD : @LT.lt Nat _ (L + 1) dB ∧ @Ne Nat (L + 1) D) (hi : IntsAre vs cells) (ok : GapOk cells gs ge) (hcz : cells.length ≤ 100) (hTz : (gapText cells gs ge).length ≤ 10) (hzv : zv = (cells.length : Int) - (ge - gs) + 1)
  (hr1 : oR.IsDictOf (strKind prog w) []) (hr2 : (R == sysModules) = false) (hdi : IntsAre dv ds) (hdo : DeckOk ds) (hoc : oc9.data = .cell none)
  (v1 : m (Str.ofString "deck") = some (.ref D)) (v2 : m (Str.ofString "buffer") = some (.ref Bf)) (v3 : m (Str.ofString "log") = some (.ref Lg))
  (hE : PassesOwn (model prog w) (ktrTop dp un gd qual scope L fa cdv9 (cellsFrom (L + 1) scope.names []) outer) (envOfC qual scope L fa cdv9) E)
  (kN : ∀ m' h' tk' news', Fr h₀ L h' m' → News h₀ L h' news' → Q (.ret (.bool true)) { s with heap := h', toks := tk' })
  : wpAny (model prog w) (ktrTop dp un gd qual scope L fa cdv9 (cellsFrom (L + 1) scope.names []) outer) (execs rest (envOfC qual scope L fa cdv9)) Q E s := by
  have htx := gapText_len ok
  have tL : ∀ (El Lo : Addr) (xv lv : List Value) (ne nlo nls2 : Nat) (oc2 : Obj) (r : Addr) (t₀ u₀ v₀ : Tok) (m' : Str → Option Value) (h' : Heap) (tk' : Nat) (Qf : Flow → Shared → Prop) (Ef : Value → Shared → Prop), Fr h₀ L h' m' → m' (Str.ofString "deck") = some (.ref D) → m' (Str.ofString "buffer") = some (.ref Bf) → m' (Str.ofString "log") = some (.ref Lg) → m' (Str.ofString "lows") = some (.ref Lo) → oc2.data = .cell (some (.ref El)) →
      News h₀ L h' ((L + 1, oc2) :: (D, listOf dv.toArray nd) :: (Bf, instObj 361 dB) :: (dB, dictOf (bufD w.params β G M Ls (.int pt tp) (.int zv tz) (.int ti tt) (.int ci tc)) 20) :: (G, instObj 150 dT) :: (dT, dictOf (gapD w.params γ Cs (.int gs t1) (.int ge t2)) 4) :: (Cs, listOf vs.toArray n) :: (M, instObj 220 dM) :: (dM, dictOf (mkD w.params μ R) 1) :: (R, oR) :: (Ls, listOf #[.ref Lg] nls2) :: (Lg, instObj 59 dG) :: (dG, dictOf (logD w.params δ Rw .none .none (.int 0 tg)) 4) :: (Rw, listOf ([] : List Value).toArray nr) :: (El, listOf xv.toArray ne) :: (Lo, listOf lv.toArray nlo) :: []) → IsRange h' r 0 6 1 t₀ u₀ v₀ → IntsAre xv (gapText cells gs ge) → IntsAre lv (rangeKs 0 (gapText cells gs ge).length) → @LT.lt Nat _ Lg El → @LT.lt Nat _ Rw El → @LT.lt Nat _ Lg Lo → @LT.lt Nat _ Rw Lo →
      (∀ (v' : Var) m'' h'' tk'', Fr h₀ L h'' m'' → News h₀ L h'' (led w.params ⟨L + 1, D, dB, Bf, dT, G, Cs, dM, M, R, Ls, dG, Lg, γ, β, δ, μ, oR, nls2⟩ v') → Ok prog w ⟨L + 1, D, dB, Bf, dT, G, Cs, dM, M, R, Ls, dG, Lg, γ, β, δ, μ, oR, nls2⟩ v' 6 → Vars ⟨L + 1, D, dB, Bf, dT, G, Cs, dM, M, R, Ls, dG, Lg, γ, β, δ, μ, oR, nls2⟩ v' m'' → Qf .next { s with heap := h'', toks := tk'' }) →
      wpAny (model prog w) (ktrTop dp un gd qual scope L fa cdv9 (cellsFrom (L + 1) scope.names []) outer) (pyIter (.ref r)) (fun it s₂ => LoopAtV prog w (ktrTop dp un gd qual scope L fa cdv9 (cellsFrom (L + 1) scope.names []) outer) h₀ (envOfC qual scope L fa cdv9) (Str.ofString "lap") (forBody body) Qf Ef it s₂) Ef { s with heap := h', toks := tk' } := by
    intro El Lo xv lv ne nlo nls2 oc2 r t₀ u₀ v₀ m' h' tk' Qf Ef F' w1 w2 w3 w4 hoc2 N' hR hxe hlv o1 o2 o3 o4 done
    exact law_loop (f := ⟨L + 1, D, dB, Bf, dT, G, Cs, dM, M, R, Ls, dG, Lg, γ, β, δ, μ, oR, nls2⟩) (v := ⟨Rw, El, Lo, dv, ds, nd, pt, zv, ti, ci, tp, tz, tt, tc, vs, cells, n, gs, ge, t1, t2, .none, .none, 0, tg, [], nr, [], none, oc2, xv, ne, gapText cells gs ge, lv, nlo, []⟩) (s := { s with heap := h', toks := tk' }) B F' X N' T (by omega) (by omega) ho rfl hR
      ⟨adr, hcD, o1, Nat.ne_of_gt o2, o3, Nat.ne_of_gt o4, (fun p hp => nomatch hp), (fun p hp => nomatch hp), hi, ok, by show (cells.length : Int) ≤ 100 + 100 * 0; omega, by show ((gapText cells gs ge).length : Int) ≤ 10 + 3 * 0; omega, hzv, hr1, hr2, stv_none, hdi, hdo, hoc2, hxe, by show (gapText cells gs ge).length ≤ 100; omega, hlv, .nil, (fun r hr => nomatch hr), by show (([] : List (Int × Int × Int)).length : Int) ≤ 0; decide, agree_self _, stretch_self _⟩
      ⟨w1, w2, w3, w4⟩ done
  refine' use_lookup ho ?k6 ?_
  case k6 => k_dflt k_is
  intro e9
  cases e9
  subst hr
  clear ho
  have adr' := adr
  obtain ⟨ad0, ad1, ad2, ad3, ad4, ad5, ad6, ad7, ad8, ad9, ad10, ad11⟩ := adr'
  obtain ⟨al0, al1, al2, al3, al4, al5, al6, al7, al8, al9, al10, al11⟩ := adr_lts adr
  rw [map_has3 v1 v2 v3] at F
  dsimp only [forBody] at tL
  (try dsimp only [List.drop])
  (repeat' (first | (with_reducible ((with_reducible show wpAny _ _ (call (Value.builtin "len") _) _ _ _); ((with_unfolding_all (refine' len_ints_fit (by is_list) (by l_ints) (by l_fit) ?_; k_whole)); (try simp only [List.length_append, List.length_cons, List.length_nil, Nat.zero_add])))) | (with_reducible (((with_reducible show wpAny _ _ (pyIter (Value.ref _)) (fun it s₂ => LoopAtV _ _ _ _ _ _ _ _ _ it s₂) _ _); (refine stop_of ?_)))) | (with_reducible ((with_reducible show wpAny _ _ (exec (Stmt.For (Expr.Name ..) (Expr.Call ..) ..) _) _ _ _); ((rename Fr _ _ _ _ => lF'); (with_unfolding_all refine' For_invVF lF' (by exact rfl) (by exact rfl) ?_ (hE := (by assumption)); k_whole)))) | (with_reducible ((o_head 494; k_dflt (apply spread_spec); all_goals first | exact rowsAre_mono (by assumption) (fun p hp => by tb_rel) | cell_call))) | (with_reducible ((o_head 56; k_dflt (apply taken_spec <;> first | exact stv_none | cell_call); (case' kA => (try (rename _ = none => f0; have hA9 := stretch_none (by assumption) (by assumption) f0))); (case' kB => first | (rename _ = some _ => f0; exact absurd f0 (by simp)) | (rename _ = some _ => f0; obtain ⟨g1, g2, g3, g4, g5, g6, g7⟩ := stretch_facts (by assumption) f0) | skip)))) | (with_reducible ((o_head 323; k_dflt (apply bcodes_spec <;> cell_call); (try (rename IntsAre _ _ => f0; rw [whole_text] at f0))))) | (with_reducible ((with_reducible show wpAny _ _ (subscriptTail (Expr.Name ..) (Expr.Name ..) (Value.ref _) (Value.int _ _)) _ _ _); (k_dflt (refine' item_known (by k_asm) (by k_mem) (by assumption) (by assumption) (by assumption) (by omega) ?_; k_whole); intro t9))) | (with_reducible ((with_reducible show ZcT _ _ _ _ _ _ _); first | exact ZcT.intro (by assumption) (by assumption) | exact absurd rfl (by assumption))) | (with_reducible ((with_reducible show wpAny _ _ (call (Value.type "list") _) _ _ _); ((k_dflt (refine' list_range0 (by exact rfl) (by k_asm) (by k_asm) (by assumption) (by omega) ?_; k_whole)); intro D' vs' c' h' tk' F' N' l1 hI'; (try k_lt l1); (try k_sweep)))) | (with_reducible ((with_reducible show wpAny _ _ (call (Value.builtin "len") _) _ _ _); (k_dflt (refine' len_vals (by k_asm) (by k_mem) (by assumption) (by omega) ?_; k_whole)))) | (with_reducible ((with_reducible show wpAny _ _ (call (Value.type "zip") _) _ _ _); (k_dflt (refine' zc_zip (by exact rfl) (by k_asm) (by k_asm) (by k_mem) (by k_mem) ?_ ?_); rotate_left; ((intro D' h' tk' F' N' l1); (replace l1 := allLt_of l1); (try k_sweep)); rotate_right; (intro i x y C oC m₂ own h' tk' E2 hx hy hC' ha hb F' N1); (obtain ⟨t, tt, hx2, hy2⟩ := zip_same (by assumption) (by assumption) (by assumption) hx hy); (subst hx2); (have N' := zc_news N1); ((rcases hy2 with hy3 | ⟨k, tk, hy3, hk0, hkE⟩) <;> subst hy3)))) | (with_reducible ((with_reducible show wpAny _ _ (eval (Expr.ListComp ..) _) _ _ _); (k_dflt (refine' zc_ListComp (by k_asm) (by with_unfolding_all rfl) (by decide) (by rfl) (by decide) (by rfl) (by rfl) (by decide) ?_; k_whole)))) | (k_unfold; (try dsimp only)) | (k_end; kc_close) | walk1 | (dsimp only; walk1) | (leave1; walk_say "STEP leave1"; (try dsimp only)) | fail "no step"))
  unfold Stop
  refine tL _ _ _ _ _ _ _ _ _ _ _ _ _ _ _ _ _ (by assumption) (by rfl) (by rfl) (by rfl) (by rfl) (by assumption) (by (rename News _ _ _ _ => nN; (repeat (refine news_cons ?_ nN (by k_mem))); exact fun p hp => nomatch hp)) (by assumption) (by assumption) (by assumption) (lt_at (by assumption) (by k_mem)) (lt_at (by assumption) (by k_mem)) (lt_at (by assumption) (by k_mem)) (lt_at (by assumption) (by k_mem)) ?_
  clear tL
  intro v2 m2 h2 tk2 F2 N2 O2 V2
  obtain ⟨Rw2, El2, Lo2, dv2, ds2, nd2, pt2, zv2, ti2, ci2, tp2, tz2, tt2, tc2, vs2, cells2, n2, gs2, ge2, t12, t22, bv2, ev2, gr2, tg2, rv2, nr2, rows2, st2, oc2, xv2, ne2, E2, lv2, nlo2, tl2⟩ := v2
  obtain ⟨adr2, hcD2, hE2, hEr2, hL2, hLr2, htl2, htr2, hi2, ok2, hcz2, hTz2, hzv2, hr12, hr22, hst2, hdi2, hdo2, hoc2, hxe2, hEz2, hlv2, hrows2, hrok2, hrl2, hag2, hsr2⟩ := O2
  obtain ⟨w1, w2, w3, w4⟩ := V2
  dsimp only [led] at *
  have htx2 := gapText_len ok2
  have ad112 := adr2.2.2.2.2.2.2.2.2.2.2.2
  obtain ⟨bl0, bl1, bl2, bl3, bl4, bl5, bl6, bl7, bl8, bl9, bl10, bl11⟩ := adr_lts adr2
  have off_dG : Off dG tl2 := gt_off htl2 (by omega)
  rw [map_has4 w1 w2 w3 w4] at F2
  (repeat' (first | (with_reducible ((with_reducible show wpAny _ _ (call (Value.builtin "len") _) _ _ _); ((with_unfolding_all (refine' len_ints_fit (by is_list) (by l_ints) (by l_fit) ?_; k_whole)); (try simp only [List.length_append, List.length_cons, List.length_nil, Nat.zero_add])))) | (with_reducible (((with_reducible show wpAny _ _ (pyIter (Value.ref _)) (fun it s₂ => LoopAtV _ _ _ _ _ _ _ _ _ it s₂) _ _); (refine stop_of ?_)))) | (with_reducible ((with_reducible show wpAny _ _ (exec (Stmt.For (Expr.Name ..) (Expr.Call ..) ..) _) _ _ _); ((rename Fr _ _ _ _ => lF'); (with_unfolding_all refine' For_invVF lF' (by exact rfl) (by exact rfl) ?_ (hE := (by assumption)); k_whole)))) | (with_reducible ((o_head 494; k_dflt (apply spread_spec); all_goals first | exact rowsAre_mono (by assumption) (fun p hp => by tb_rel) | cell_call))) | (with_reducible ((o_head 56; k_dflt (apply taken_spec <;> first | exact stv_none | cell_call); (case' kA => (try (rename _ = none => f0; have hA9 := stretch_none (by assumption) (by assumption) f0))); (case' kB => first | (rename _ = some _ => f0; exact absurd f0 (by simp)) | (rename _ = some _ => f0; obtain ⟨g1, g2, g3, g4, g5, g6, g7⟩ := stretch_facts (by assumption) f0) | skip)))) | (with_reducible ((o_head 323; k_dflt (apply bcodes_spec <;> cell_call); (try (rename IntsAre _ _ => f0; rw [whole_text] at f0))))) | (with_reducible ((with_reducible show wpAny _ _ (subscriptTail (Expr.Name ..) (Expr.Name ..) (Value.ref _) (Value.int _ _)) _ _ _); (k_dflt (refine' item_known (by k_asm) (by k_mem) (by assumption) (by assumption) (by assumption) (by omega) ?_; k_whole); intro t9))) | (with_reducible ((with_reducible show ZcT _ _ _ _ _ _ _); first | exact ZcT.intro (by assumption) (by assumption) | exact absurd rfl (by assumption))) | (with_reducible ((with_reducible show wpAny _ _ (call (Value.type "list") _) _ _ _); ((k_dflt (refine' list_range0 (by exact rfl) (by k_asm) (by k_asm) (by assumption) (by omega) ?_; k_whole)); intro D' vs' c' h' tk' F' N' l1 hI'; (try k_lt l1); (try k_sweep)))) | (with_reducible ((with_reducible show wpAny _ _ (call (Value.builtin "len") _) _ _ _); (k_dflt (refine' len_vals (by k_asm) (by k_mem) (by assumption) (by omega) ?_; k_whole)))) | (with_reducible ((with_reducible show wpAny _ _ (call (Value.type "zip") _) _ _ _); (k_dflt (refine' zc_zip (by exact rfl) (by k_asm) (by k_asm) (by k_mem) (by k_mem) ?_ ?_); rotate_left; ((intro D' h' tk' F' N' l1); (replace l1 := allLt_of l1); (try k_sweep)); rotate_right; (intro i x y C oC m₂ own h' tk' E2 hx hy hC' ha hb F' N1); (obtain ⟨t, tt, hx2, hy2⟩ := zip_same (by assumption) (by assumption) (by assumption) hx hy); (subst hx2); (have N' := zc_news N1); ((rcases hy2 with hy3 | ⟨k, tk, hy3, hk0, hkE⟩) <;> subst hy3)))) | (with_reducible ((with_reducible show wpAny _ _ (eval (Expr.ListComp ..) _) _ _ _); (k_dflt (refine' zc_ListComp (by k_asm) (by with_unfolding_all rfl) (by decide) (by rfl) (by decide) (by rfl) (by rfl) (by decide) ?_; k_whole)))) | (k_unfold; (try dsimp only)) | (k_end; kc_close) | walk1 | (dsimp only; walk1) | (leave1; walk_say "STEP leave1"; (try dsimp only)) | fail "no step"))
  all_goals exact kN _ _ _ _ (by assumption) (by assumption)
end
end
section
section
variable {prog : Program} {w : World} {p : Program} {loose : List Str} {mean : ExcName → Option Value} {mg mb : Str → Option Value} {dp un : Nat} {gd : Option (List Code)} {outer : List Env} {A₀ : Around} {base h₀ : Heap} {L : Addr} {m : Str → Option Value} {s : Shared} {Q : Flow → Shared → Prop} {E : Value → Shared → Prop} {oc : Value} {od : Option Addr} {name qual : Str} {params : Arguments} {body : List Stmt} {scope : Scope} {dV kV doc pm cdv ct cdv9 : Value} {fa : Addr} {an : Option Addr} {osl : Array (Option Value)}
set_option maxRecDepth 100000 in
set_option maxHeartbeats 8000000 in
theorem rest1_spec {D dB Bf dT G Cs dM M R Ls dG Lg Rw : Addr} {γ : GT} {β : BT} {δ : LT} {μ : MT} {oR oc9 : Obj} {nls nd n nr : Nat} {dv vs : List Value} {ds cells : List Int} {pt zv ti ci gs ge : Int} {tp tz tt tc t1 t2 tg : Tok} {rest : List Stmt}
  (B : Below A₀ base outer h₀) (F : Fr h₀ L s.heap m) (X : (Mine.hd.heap_1 w.params).In h₀) (N : News h₀ L s.heap ((L + 1, oc9) :: (D, listOf dv.toArray nd) :: (Bf, instObj 361 dB) :: (dB, dictOf (bufD w.params β G M Ls (.int pt tp) (.int zv tz) (.int ti tt) (.int ci tc)) 20) :: (G, instObj 150 dT) :: (dT, dictOf (gapD w.params γ Cs (.int gs t1) (.int ge t2)) 4) :: (Cs, listOf vs.toArray n) :: (M, instObj 220 dM) :: (dM, dictOf (mkD w.params μ R) 1) :: (R, oR) :: (Ls, listOf ([] : List Value).toArray nls) :: (Lg, instObj 59 dG) :: (dG, dictOf (logD w.params δ Rw .none .none (.int 0 tg)) 4) :: (Rw, listOf ([] : List Value).toArray nr) :: [])) (T : Top p loose mean mg mb h₀)
  (hdp : dp ≤ 450) (hun : un ≤ 3500)
  (ho : (Mine.hd.heap_1 w.params).lookup 511 = some ⟨oc, od, .func (fnOf name qual params body scope dV kV doc pm an cdv ct), osl⟩) (hr : rest = body.drop 2)
  (adr : AdrOk D dB Bf dT G Cs dM M R Ls dG Lg Rw) (hcD : @LT.lt Nat _ (L + 1) dB ∧ @Ne Nat (L + 1) D) (hi : IntsAre vs cells) (ok : GapOk cells gs ge) (hcz : cells.length ≤ 50) (hTz : (cells.length : Int) - (ge - gs) = 0) (hzv : zv = 1)
  (hr1 : oR.IsDictOf (strKind prog w) []) (hr2 : (R == sysModules) = false) (hdi : IntsAre dv ds) (hdo : DeckOk ds) (hoc : oc9.data = .cell none)
  (v1 : m (Str.ofString "deck") = some (.ref D)) (v2 : m (Str.ofString "buffer") = some (.ref Bf)) (v3 : m (Str.ofString "log") = some (.ref Lg))
  (hE : PassesOwn (model prog w) (ktrTop dp un gd qual scope L fa cdv9 (cellsFrom (L + 1) scope.names []) outer) (envOfC qual scope L fa cdv9) E)
  (kN : ∀ m' h' tk' news', Fr h₀ L h' m' → News h₀ L h' news' → Q (.ret (.bool true)) { s with heap := h', toks := tk' })
  : wpAny (model prog w) (ktrTop dp un gd qual scope L fa cdv9 (cellsFrom (L + 1) scope.names []) outer) (execs rest (envOfC qual scope L fa cdv9)) Q E s := by
  have tM : ∀ (dv2 vs2 : List Value) (ds2 cells2 : List Int) (nd2 n2 : Nat) (pt2 zv2 ti2 ci2 gs2 ge2 : Int) (tp2 tz2 tt2 tc2 t12 t22 : Tok) (m' : Str → Option Value) (h' : Heap) (tk' : Nat), Fr h₀ L h' m' → m' (Str.ofString "deck") = some (.ref D) → m' (Str.ofString "buffer") = some (.ref Bf) → m' (Str.ofString "log") = some (.ref Lg) →
      News h₀ L h' ((L + 1, oc9) :: (D, listOf dv2.toArray nd2) :: (Bf, instObj 361 dB) :: (dB, dictOf (bufD w.params β G M Ls (.int pt2 tp2) (.int zv2 tz2) (.int ti2 tt2) (.int ci2 tc2)) 20) :: (G, instObj 150 dT) :: (dT, dictOf (gapD w.params γ Cs (.int gs2 t12) (.int ge2 t22)) 4) :: (Cs, listOf vs2.toArray n2) :: (M, instObj 220 dM) :: (dM, dictOf (mkD w.params μ R) 1) :: (R, oR) :: (Ls, listOf ([] : List Value).toArray nls) :: (Lg, instObj 59 dG) :: (dG, dictOf (logD w.params δ Rw .none .none (.int 0 tg)) 4) :: (Rw, listOf ([] : List Value).toArray nr) :: []) → IntsAre vs2 cells2 → GapOk cells2 gs2 ge2 → IntsAre dv2 ds2 → DeckOk ds2 → cells2.length ≤ 100 → (cells2.length : Int) - (ge2 - gs2) ≤ 10 → zv2 = (cells2.length : Int) - (ge2 - gs2) + 1 →
      wpAny (model prog w) (ktrTop dp un gd qual scope L fa cdv9 (cellsFrom (L + 1) scope.names []) outer) (execs (body.drop 3) (envOfC qual scope L fa cdv9)) Q E { s with heap := h', toks := tk' } := by
    intro dv2 vs2 ds2 cells2 nd2 n2 pt2 zv2 ti2 ci2 gs2 ge2 tp2 tz2 tt2 tc2 t12 t22 m' h' tk' F' w1 w2 w3 N' a1 a2 a3 a4 a5 a6 a7
    have htx := gapText_len a2
    exact rest2_spec B F' X N' T (by omega) (by omega) ho rfl adr hcD a1 a2 a5 (by omega) a7 hr1 hr2 a3 a4 hoc w1 w2 w3 hE (fun m' h' tk' news' F' N' => kN m' h' tk' news' F' N')
  have htx := gapText_len ok
  refine' use_lookup ho ?k6 ?_
  case k6 => k_dflt k_is
  intro e9
  cases e9
  subst hr
  clear ho
  have adr' := adr
  obtain ⟨ad0, ad1, ad2, ad3, ad4, ad5, ad6, ad7, ad8, ad9, ad10, ad11⟩ := adr'
  obtain ⟨al0, al1, al2, al3, al4, al5, al6, al7, al8, al9, al10, al11⟩ := adr_lts adr
  rw [map_has3 v1 v2 v3] at F
  dsimp only [List.drop] at tM
  (try dsimp only [List.drop])
  (repeat' (first | (with_reducible ((with_reducible show wpAny _ _ (call (Value.builtin "len") _) _ _ _); ((with_unfolding_all (refine' len_ints_fit (by is_list) (by l_ints) (by l_fit) ?_; k_whole)); (try simp only [List.length_append, List.length_cons, List.length_nil, Nat.zero_add])))) | (with_reducible ((with_reducible show wpAny _ _ (execs (_ :: _) _) _ _ _); ((with_reducible show wpAny _ _ (execs [Stmt.Expr (Expr.Call (Expr.Attribute (Expr.Attribute _ _ _) _ _) _ _ _) _, _, _, _] _) _ _ _); (refine stop_of ?_)))) | (with_reducible ((o_head 323; k_dflt (apply bcodes_spec <;> cell_call); (try (rename IntsAre _ _ => f0; rw [whole_text] at f0))))) | (with_reducible ((with_reducible show wpAny _ _ (subscriptTail (Expr.Name ..) (Expr.Name ..) (Value.ref _) (Value.int _ _)) _ _ _); (k_dflt (refine' item_known (by k_asm) (by k_mem) (by assumption) (by assumption) (by assumption) (by omega) ?_; k_whole); intro t9))) | (with_reducible ((with_reducible show ZcT _ _ _ _ _ _ _); first | exact ZcT.intro (by assumption) (by assumption) | exact absurd rfl (by assumption))) | (with_reducible ((with_reducible show wpAny _ _ (call (Value.type "list") _) _ _ _); ((k_dflt (refine' list_range0 (by exact rfl) (by k_asm) (by k_asm) (by assumption) (by omega) ?_; k_whole)); intro D' vs' c' h' tk' F' N' l1 hI'; (try k_lt l1); (try k_sweep)))) | (with_reducible ((with_reducible show wpAny _ _ (call (Value.builtin "len") _) _ _ _); (k_dflt (refine' len_vals (by k_asm) (by k_mem) (by assumption) (by omega) ?_; k_whole)))) | (with_reducible ((with_reducible show wpAny _ _ (call (Value.type "zip") _) _ _ _); (k_dflt (refine' zc_zip (by exact rfl) (by k_asm) (by k_asm) (by k_mem) (by k_mem) ?_ ?_); rotate_left; ((intro D' h' tk' F' N' l1); (replace l1 := allLt_of l1); (try k_sweep)); rotate_right; (intro i x y C oC m₂ own h' tk' E2 hx hy hC' ha hb F' N1); (obtain ⟨t, tt, hx2, hy2⟩ := zip_same (by assumption) (by assumption) (by assumption) hx hy); (subst hx2); (have N' := zc_news N1); ((rcases hy2 with hy3 | ⟨k, tk, hy3, hk0, hkE⟩) <;> subst hy3)))) | (with_reducible (((with_reducible show wpAny _ _ (pyIter (Value.ref _)) (fun it s₂ => LoopAtV _ _ _ _ _ _ _ _ _ it s₂) _ _); (rename Fr _ _ _ _ => lF'); (rename News _ _ _ _ => lN'); (with_unfolding_all refine' iter_listUnr (by rfl) lF' lN' (by k_mem) (by exact rfl) (by exact rfl) ?_); clear lF'; intro i' l1; (try k_lt l1)))) | (with_reducible ((with_reducible show LCg.FinE ..); (unfold LCg.FinE; intro D' h' tk' F' N' o1'; replace o1' := offL_of o1'; (try simp only [List.nil_append, List.cons_append] at N'); (try dsimp only)))) | (k_unfold; (try dsimp only)) | (k_end; kc_close) | walk1 | (dsimp only; walk1) | (leave1; walk_say "STEP leave1"; (try dsimp only)) | fail "no step"))
  all_goals unfold Stop
  · exact tM _ _ _ _ _ _ _ _ _ _ _ _ _ _ _ _ _ _ _ _ _ (by assumption) (by rfl) (by rfl) (by rfl) (by (rename News _ _ _ _ => nN; (repeat (refine news_cons ?_ nN (by k_mem))); exact fun p hp => nomatch hp)) hi ok (by assumption) (by assumption) (by omega) (by omega) (by omega)
  · exact tM _ _ _ _ _ _ _ _ _ _ _ _ _ _ _ _ _ _ _ _ _ (by assumption) (by rfl) (by rfl) (by rfl) (by (rename News _ _ _ _ => nN; (repeat (refine news_cons ?_ nN (by k_mem))); exact fun p hp => nomatch hp)) (by assumption) (by assumption) (by assumption) (by assumption) (by (simp only [List.length_map, rangeKs_length] at *; omega)) (by (simp only [List.length_map, rangeKs_length] at *; omega)) (by (simp only [List.length_map, rangeKs_length] at *; omega))
end
end
end
section
theorem zeros8 (t : Tok) : IntsAre [Value.int 0 t, Value.int 0 t, Value.int 0 t, Value.int 0 t, Value.int 0 t, Value.int 0 t, Value.int 0 t, Value.int 0 t] [0, 0, 0, 0, 0, 0, 0, 0] := .cons _ _ (.cons _ _ (.cons _ _ (.cons _ _ (.cons _ _ (.cons _ _ (.cons _ _ (.cons _ _ .nil)))))))
theorem deck_start (xs : List Int) : DeckOk (List.map (fun k' => (if k' < 0 then -k' else k').fmod (10 ^ Int.toNat 30)) (List.take 16 xs)) := by
  refine ⟨by rw [List.length_map, List.length_take]; omega, fun d hd => ?_⟩
  obtain ⟨k, _, rfl⟩ := List.mem_map.mp hd
  exact ⟨Int.fmod_nonneg_of_pos _ (by decide), Int.fmod_lt_of_pos _ (by decide)⟩
local macro_rules | `(tactic| k_qdec) => `(tactic| decide +kernel)
set_option maxRecDepth 100000 in
set_option maxHeartbeats 8000000 in
theorem law_x : PySem.Challenge.rw_oj0026_01.Holds := Mine.hd (by
  k_go0
  all_goals try k_fold
  (repeat' (first | (with_reducible ((with_reducible show wpAny _ _ (call (Value.builtin "len") _) _ _ _); ((with_unfolding_all (refine' len_ints_fit (by is_list) (by l_ints) (by l_fit) ?_; k_whole)); (try simp only [List.length_append, List.length_cons, List.length_nil, Nat.zero_add])))) | (with_reducible ((with_reducible show wpAny _ _ (execs (_ :: _) _) _ _ _); ((with_reducible show wpAny _ _ (execs [Stmt.Expr (Expr.Call (Expr.Name _ _) _ _ _) _, Stmt.Expr _ _, _, _, _] _) _ _ _); (refine stop_of ?_)))) | (with_reducible ((with_reducible show wpAny _ _ (execs (_ :: _) _) _ _ _); (dsimp only; (try (rename News _ _ _ _ => nN9; dsimp only at nN9)); k_gentoks))) | (with_reducible ((with_reducible show wpAny _ _ (execs [] _) _ _ _); (dsimp only; (try (rename News _ _ _ _ => nN9; dsimp only at nN9)); k_gentoks))) | (with_reducible ((with_reducible show LCg.FinE ..); (unfold LCg.FinE; intro D' h' tk' F' N' o1'; replace o1' := offL_of o1'; (try simp only [List.nil_append, List.cons_append] at N'); (try dsimp only)))) | (k_unfold; (try dsimp only)) | (k_end; kc_close) | walk1 | (dsimp only; walk1) | (leave1; walk_say "STEP leave1"; (try dsimp only)) | fail "no step"))
  unfold Stop
  refine' rest1_spec (γ := ⟨_, _, _, _, _⟩) (β := ⟨_, _, _, _, _, _, _, _, _, _, _, _, _, _, _, _, _, _, _, _, _, _, _, _⟩) (δ := ⟨_, _, _, _⟩) (μ := ⟨_⟩) ?B ?F ?X ?N ?T ?hd ?hu ?ho ?hr ?adr ?hcD ?hi ?ok ?hcz ?hTz ?hzv ?hr1 ?hr2 ?hdi ?hdo ?hoc ?v1 ?v2 ?v3 ?hE ?kN
  case F => k_asm
  case v1 => rfl
  case v2 => rfl
  case v3 => rfl
  case B => k_asm
  case X => k_asm
  case N => (rename News _ _ _ _ => nN; (repeat (refine news_cons ?_ nN (by k_mem))); exact fun p hp => nomatch hp)
  case T => k_asm
  case hd => (first | omega | ((try simp only [depth_under_make, depth_under_kw, depth_in1, depth_deeper, depth_caller, units_in1, units_deeper, Around.mark_units, units_caller]); (try dsimp only [ktrTop]); omega))
  case hu => (first | omega | ((try simp only [depth_under_make, depth_under_kw, depth_in1, depth_deeper, depth_caller, units_in1, units_deeper, Around.mark_units, units_caller]); (try dsimp only [ktrTop]); omega))
  case ho => k_dflt k_is
  case hr => rfl
  case adr => (refine ⟨?_, ?_, ?_, ?_, ?_, ?_, ?_, ?_, ?_, ?_, ?_, ?_⟩ <;> first | assumption | exact lt_at (by assumption) (by k_mem))
  case hcD => exact ⟨lt_at (by assumption) (by k_mem), (by k_ne)⟩
  case hi => exact zeros8 _
  case ok => decide
  case hcz => decide
  case hTz => decide
  case hzv => rfl
  case hr1 => assumption
  case hr2 => assumption
  case hdi => assumption
  case hdo => exact deck_start _
  case hoc => assumption
  case hE => passes_own
  case kN =>
    intro m' h' tk' news' F' N'
    (repeat' (first | (with_reducible ((with_reducible show wpAny _ _ (call (Value.builtin "len") _) _ _ _); ((with_unfolding_all (refine' len_ints_fit (by is_list) (by l_ints) (by l_fit) ?_; k_whole)); (try simp only [List.length_append, List.length_cons, List.length_nil, Nat.zero_add])))) | (with_reducible ((with_reducible show wpAny _ _ (execs (_ :: _) _) _ _ _); ((with_reducible show wpAny _ _ (execs [Stmt.Expr (Expr.Call (Expr.Name _ _) _ _ _) _, Stmt.Expr _ _, _, _, _] _) _ _ _); (refine stop_of ?_)))) | (with_reducible ((with_reducible show wpAny _ _ (execs (_ :: _) _) _ _ _); (dsimp only; (try (rename News _ _ _ _ => nN9; dsimp only at nN9)); k_gentoks))) | (with_reducible ((with_reducible show wpAny _ _ (execs [] _) _ _ _); (dsimp only; (try (rename News _ _ _ _ => nN9; dsimp only at nN9)); k_gentoks))) | (with_reducible ((with_reducible show LCg.FinE ..); (unfold LCg.FinE; intro D' h' tk' F' N' o1'; replace o1' := offL_of o1'; (try simp only [List.nil_append, List.cons_append] at N'); (try dsimp only)))) | (k_unfold; (try dsimp only)) | (k_end; kc_close) | walk1 | (dsimp only; walk1) | (leave1; walk_say "STEP leave1"; (try dsimp only)) | fail "no step")))
end
end Mine
end
set_option maxRecDepth 100000 in
set_option maxHeartbeats 8000000 in
theorem PySem.Challenge.cw_oj0026_01_holds : PySem.Challenge.rw_oj0026_01.Holds := by
  exact Mine.law_x
