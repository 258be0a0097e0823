import PyProof.Rows.All
import Wide.All
import KE.BitLaws
import KE.IntBitsLaws
import KE.IntTextText
import KE.KDictLaws
import KE.KDictOf
import KE.KFinally
import KE.KMathGB
import KE.KMathGC
import KE.KPassesOwn
import KE.KTabExpr
import KE.KUnpackStar
import KE.KWords
import KE.LcSums
import KE.LcTurns
import KE.RegFinNonlin
import KE.RegMulBits
import KE.RegTryInHelper
import KE.TopReadKeeps
import KE.TryLedger
import Open.Boot
import Open.Tree
import Open.Dig
import Open.Fors
import Open.TopsExt
import OpenK.KCell
import OpenK.XOpen
import Wide.FinOn
import PySem.Challenge.RW_sa0310_01
open PySem PySem.W PyProof.Rows
set_option Elab.async false
set_option linter.unusedVariables false
set_option maxRecDepth 100000

section
open PySem PySem.W PySem.Calls PyProof.Rows
namespace Sol
noncomputable def stAt (i : Nat) : Stmt := (PySem.Challenge.pw_sa0310_01.main.body[i]?).getD (.Pass default)
noncomputable def inCls (s : Stmt) (j : Nat) : Stmt := match s with
  | .ClassDef _ _ _ body _ _ _ _ _ _ _ => (body[j]?).getD (.Pass default)
  | _ => .Pass default
noncomputable def fPar : Stmt → Arguments
  | .FunctionDef _ a _ _ _ _ _ _ _ _ => a
  | _ => default
noncomputable def fBody : Stmt → List Stmt
  | .FunctionDef _ _ b _ _ _ _ _ _ _ => b
  | _ => []
noncomputable def fScope : Stmt → Scope
  | .FunctionDef _ _ _ _ _ _ s _ _ _ => s
  | _ => default
noncomputable abbrev so (s : String) : Str := Str.ofString s
noncomputable abbrev de (P : Params) (s : Str) (k v : Value) : DictEntry := DictEntry.mk (PyData.keyHash P s) k v
noncomputable def o2 (P : Params) : Obj := (Obj.mk .none none (.dict #[(de P (so "type.__subclasses__.Exception.0") (.str (so "type.__subclasses__.Exception.0") 221) (.int 38 0)), (de P (so "type.__subclasses__.Exception.n") (.str (so "type.__subclasses__.Exception.n") 222) (.int 1 0))] 2) #[])
noncomputable def o3 (P : Params) : Obj := (Obj.mk (.type "dict") none (.dict #[(de P (so "__name__") (.str (so "__name__") 165) (.str (so "law_sa0310_01") 632)), (de P (so "__doc__") (.str (so "__doc__") 166) .none), (de P (so "__package__") (.str (so "__package__") 167) .none), (de P (so "__loader__") (.str (so "__loader__") 168) (.builtin "__main__.__loader__#opaque")), (de P (so "__spec__") (.str (so "__spec__") 169) .none), (de P (so "__annotations__") (.str (so "__annotations__") 170) (.ref 6)), (de P (so "__builtins__") (.str (so "__builtins__") 171) (.ref 4)), (de P (so "__file__") (.str (so "__file__") 173) (.str (so "/claim/cut.py") 172)), (de P (so "__cached__") (.str (so "__cached__") 174) .none), (de P (so "_wall") (.str (so "_wall") 193) (.ref 21)), (de P (so "MachineFault") (.str (so "MachineFault") 224) (.ref 38)), (de P (so "LineFault") (.str (so "LineFault") 250) (.ref 58)), (de P (so "SourceFault") (.str (so "SourceFault") 266) (.ref 70)), (de P (so "DIGITS") (.str (so "DIGITS") 270) (.str (so "0123456789") 269)), (de P (so "Token") (.str (so "Token") 305) (.ref 89)), (de P (so "number_in") (.str (so "number_in") 311) (.ref 98)), (de P (so "elementary") (.str (so "elementary") 319) (.ref 105)), (de P (so "MOST_HEIGHT") (.str (so "MOST_HEIGHT") 323) (.int 120 322)), (de P (so "EXPRESSIONS") (.str (so "EXPRESSIONS") 343) (.ref 106)), (de P (so "Syn") (.str (so "Syn") 382) (.ref 123)), (de P (so "high_row") (.str (so "high_row") 388) (.ref 132)), (de P (so "PLACES") (.str (so "PLACES") 394) (.ref 133)), (de P (so "DEEPEST") (.str (so "DEEPEST") 396) (.int 25 395)), (de P (so "is_elementary") (.str (so "is_elementary") 405) (.ref 140)), (de P (so "read_path") (.str (so "read_path") 414) (.ref 147)), (de P (so "read_named") (.str (so "read_named") 424) (.ref 154)), (de P (so "skip_name") (.str (so "skip_name") 431) (.ref 161)), (de P (so "read_mapping") (.str (so "read_mapping") 443) (.ref 168)), (de P (so "type_at") (.str (so "type_at") 455) (.ref 175)), (de P (so "read_type") (.str (so "read_type") 463) (.ref 182)), (de P (so "read_place") (.str (so "read_place") 471) (.ref 189)), (de P (so "end_of_brackets") (.str (so "end_of_brackets") 480) (.ref 196)), (de P (so "end_of_type") (.str (so "end_of_type") 489) (.ref 203)), (de P (so "begins_local") (.str (so "begins_local") 495) (.ref 208)), (de P (so "WORDS") (.str (so "WORDS") 501) (.ref 209)), (de P (so "MOST_NESTED") (.str (so "MOST_NESTED") 503) (.int 80 502)), (de P (so "Cursor") (.str (so "Cursor") 631) (.ref 311)), (de P (so "_law_signs") (.str (so "_law_signs") 643) (.ref 316)), (de P (so "_law_firsts") (.str (so "_law_firsts") 666) (.ref 328)), (de P (so "_law_well") (.str (so "_law_well") 672) (.ref 333)), (de P (so "_law_draw") (.str (so "_law_draw") 681) (.ref 340)), (de P (so "_law_name") (.str (so "_law_name") 688) (.ref 347)), (de P (so "_law_filling") (.str (so "_law_filling") 697) (.ref 354)), (de P (so "_law_plain") (.str (so "_law_plain") 703) (.ref 359)), (de P (so "_law_shape") (.str (so "_law_shape") 715) (.ref 366)), (de P (so "_law_ended") (.str (so "_law_ended") 722) (.ref 373)), (de P (so "_law_case") (.str (so "_law_case") 740) (.ref 380)), (de P (so "_law_length") (.str (so "_law_length") 750) (.ref 387)), (de P (so "_law_is_read") (.str (so "_law_is_read") 764) (.ref 394)), (de P (so "law") (.str (so "law") 770) (.ref 399))] 50) #[])
noncomputable def o11 : Obj := (Obj.mk (.type "tuple") none (.seq #[] 0) #[])
noncomputable def o12 : Obj := (Obj.mk .none none (.fields #[(.int 1 0), (.int 0 0), (.ref 20), (.int 5 0), (.int 0 0), (.ref 27), (.int 10 0), (.int 0 0), (.ref 47), (.int 15 0), (.int 0 0), (.ref 66), (.int 19 0), (.int 0 0), (.ref 78), (.int 26 0), (.int 0 0), (.ref 97), (.int 31 0), (.int 0 0), (.ref 104), (.int 43 0), (.int 0 0), (.ref 112), (.int 57 0), (.int 0 0), (.ref 131), (.int 67 0), (.int 0 0), (.ref 139), (.int 70 0), (.int 0 0), (.ref 146), (.int 75 0), (.int 0 0), (.ref 153), (.int 82 0), (.int 0 0), (.ref 160), (.int 85 0), (.int 0 0), (.ref 167), (.int 98 0), (.int 0 0), (.ref 174), (.int 113 0), (.int 0 0), (.ref 181), (.int 115 0), (.int 0 0), (.ref 188), (.int 120 0), (.int 0 0), (.ref 195), (.int 133 0), (.int 0 0), (.ref 202), (.int 146 0), (.int 0 0), (.ref 207), (.int 156 0), (.int 0 0), (.ref 215), (.int 216 0), (.int 0 0), (.ref 332), (.int 218 0), (.int 0 0), (.ref 339), (.int 226 0), (.int 0 0), (.ref 346), (.int 228 0), (.int 0 0), (.ref 353), (.int 237 0), (.int 0 0), (.ref 358), (.int 252 0), (.int 0 0), (.ref 365), (.int 260 0), (.int 0 0), (.ref 372), (.int 262 0), (.int 0 0), (.ref 379), (.int 287 0), (.int 0 0), (.ref 386), (.int 295 0), (.int 0 0), (.ref 393), (.int 309 0), (.int 0 0), (.ref 398)]) #[])
noncomputable def o13 : Obj := (Obj.mk (.type "code") none (.fields #[(.str (so "<module>") 182), (.str (so "<module>") 183), (.str (so "/claim/cut.py") 184), (.int 1 0), (.int 0 0), (.int 0 0), (.int 0 0), (.int 0 0), (.ref 11), (Value.bool false), (.int 181 0), (.ref 12), .none, .none, .none, .none, (.int 185 0), (.int 1 0), (.str (so "/claim/cut.py") 186)]) #[])
noncomputable def o14 : Obj := (Obj.mk (.type "frame") none Data.plain #[(some (.ref 13)), (some (.ref 3)), (some (.ref 3)), none, (some (.str (so "__main__") 164)), none, (some (.ref 0))])
noncomputable def o15 : Obj := (Obj.mk (.type "tuple") none (.seq #[] 0) #[])
noncomputable def o16 : Obj := (Obj.mk .none none (.fields #[]) #[])
noncomputable def o17 : Obj := (Obj.mk (.type "tuple") none (.seq #[(.str (so "k") 190)] 0) #[])
noncomputable def o18 : Obj := (Obj.mk (.type "tuple") none (.seq #[] 0) #[])
noncomputable def o19 : Obj := (Obj.mk .none none (.func (FuncData.mk (so "_wall") (so "_wall") (fPar (stAt 0)) (.stmts (fBody (stAt 0))) (fScope (stAt 0)) 0 [] .none .none .none .none none .none .none 0)) #[])
noncomputable def o20 : Obj := (Obj.mk (.type "code") none (.fields #[(.str (so "_wall") 187), (.str (so "_wall") 188), (.str (so "/claim/cut.py") 189), (.int 1 0), (.int 1 0), (.int 0 0), (.int 0 0), (.int 3 0), (.ref 15), (Value.bool true), (.int 181 0), (.ref 16), .none, (.ref 17), (.ref 18), (.ref 19), (.int 191 0), (.int 1 0), (.str (so "/claim/cut.py") 192)]) #[])
noncomputable def o21 : Obj := (Obj.mk (.type "function") none (.func (FuncData.mk (so "_wall") (so "_wall") (fPar (stAt 0)) (.stmts (fBody (stAt 0))) (fScope (stAt 0)) 3 [] .none .none .none (.str (so "__main__") 164) none (.ref 20) .none 0)) #[])
noncomputable def o22 : Obj := (Obj.mk (.type "tuple") none (.seq #[(.type "Exception")] 0) #[])
noncomputable def o23 : Obj := (Obj.mk (.type "builtin_function_or_method") none (.fields #[(.builtin "type.__prepare__"), (.type "type")]) #[])
noncomputable def o24 (P : Params) : Obj := (Obj.mk (.type "dict") none (.dict #[(de P (so "__module__") (.str (so "__module__") 203) (.str (so "gasledger.errors") 194)), (de P (so "__qualname__") (.str (so "__qualname__") 205) (.str (so "MachineFault") 204)), (de P (so "__firstlineno__") (.str (so "__firstlineno__") 207) (.int 5 206)), (de P (so "__init__") (.str (so "__init__") 215) (.ref 35)), (de P (so "__static_attributes__") (.str (so "__static_attributes__") 217) (.ref 36))] 5) #[])
noncomputable def o25 : Obj := (Obj.mk (.type "tuple") none (.seq #[] 0) #[])
noncomputable def o26 : Obj := (Obj.mk .none none (.fields #[(.int 7 0), (.int 4 0), (.ref 34)]) #[])
noncomputable def o27 : Obj := (Obj.mk (.type "code") none (.fields #[(.str (so "MachineFault") 198), (.str (so "MachineFault") 199), (.str (so "/claim/cut.py") 200), (.int 5 0), (.int 0 0), (.int 0 0), (.int 0 0), (.int 0 0), (.ref 25), (Value.bool false), (.int 181 0), (.ref 26), .none, .none, .none, .none, (.int 201 0), (.int 5 0), (.str (so "/claim/cut.py") 202)]) #[])
noncomputable def o28 : Obj := (Obj.mk (.type "frame") none Data.plain #[(some (.ref 27)), (some (.ref 3)), (some (.ref 24)), none, (some (.str (so "gasledger.errors") 194)), none, (some (.ref 0))])
noncomputable def o29 : Obj := (Obj.mk (.type "tuple") none (.seq #[] 0) #[])
noncomputable def o30 : Obj := (Obj.mk .none none (.fields #[]) #[])
noncomputable def o31 : Obj := (Obj.mk (.type "tuple") none (.seq #[(.str (so "self") 211), (.str (so "word") 212)] 0) #[])
noncomputable def o32 : Obj := (Obj.mk (.type "tuple") none (.seq #[] 0) #[])
noncomputable def o33 : Obj := (Obj.mk .none none (.func (FuncData.mk (so "__init__") (so "MachineFault.__init__") (fPar (inCls (stAt 2) 0)) (.stmts (fBody (inCls (stAt 2) 0))) (fScope (inCls (stAt 2) 0)) 0 [] .none .none .none .none none .none .none 0)) #[])
noncomputable def o34 : Obj := (Obj.mk (.type "code") none (.fields #[(.str (so "__init__") 208), (.str (so "MachineFault.__init__") 209), (.str (so "/claim/cut.py") 210), (.int 7 0), (.int 2 0), (.int 0 0), (.int 0 0), (.int 3 0), (.ref 29), (Value.bool true), (.int 181 0), (.ref 30), .none, (.ref 31), (.ref 32), (.ref 33), (.int 213 0), (.int 7 0), (.str (so "/claim/cut.py") 214)]) #[])
noncomputable def o35 : Obj := (Obj.mk (.type "function") none (.func (FuncData.mk (so "__init__") (so "MachineFault.__init__") (fPar (inCls (stAt 2) 0)) (.stmts (fBody (inCls (stAt 2) 0))) (fScope (inCls (stAt 2) 0)) 3 [] .none .none .none (.str (so "gasledger.errors") 194) none (.ref 34) .none 0)) #[])
noncomputable def o36 : Obj := (Obj.mk (.type "tuple") none (.seq #[(.str (so "word") 216)] 0) #[])
noncomputable def o37 (P : Params) : Obj := (Obj.mk (.type "dict") none (.dict #[(de P (so "__module__") (.str (so "__module__") 203) (.str (so "gasledger.errors") 194)), (de P (so "__firstlineno__") (.str (so "__firstlineno__") 207) (.int 5 206)), (de P (so "__init__") (.str (so "__init__") 215) (.ref 35)), (de P (so "__static_attributes__") (.str (so "__static_attributes__") 217) (.ref 36)), (de P (so "__weakref__") (.str (so "__weakref__") 219) (.ref 39)), (de P (so "__doc__") (.str (so "__doc__") 220) .none)] 3) #[])
noncomputable def o38 : Obj := (Obj.mk (.type "type") none (.cls (ClassData.mk (so "MachineFault") [(.type "Exception")] [(.ref 38), (.type "Exception"), (.type "BaseException"), (.type "object")] 37 (so "MachineFault") true [] [(.ref 58)] false none false)) #[(some (.ref 22)), none, (some (.str (so "MachineFault") 196)), (some (.str (so "MachineFault") 204)), (some (.builtin "Exception.__new__")), (some (Value.bool true))])
noncomputable def o39 : Obj := (Obj.mk (.type "getset_descriptor") none (.fields #[(.str (so "__weakref__") 218), (.ref 38), (.builtin "ExceptionGroup.__weakref__"), .none]) #[])
noncomputable def o40 : Obj := (Obj.mk (.type "super") none (.fields #[(.ref 38), (.ref 38), (.ref 38)]) #[])
noncomputable def o41 : Obj := (Obj.mk (.type "builtin_function_or_method") none (.fields #[(.builtin "object.__init_subclass__"), (.ref 38)]) #[])
noncomputable def o42 : Obj := (Obj.mk (.type "tuple") none (.seq #[(.ref 38)] 0) #[])
noncomputable def o43 : Obj := (Obj.mk (.type "builtin_function_or_method") none (.fields #[(.builtin "type.__prepare__"), (.type "type")]) #[])
noncomputable def o44 (P : Params) : Obj := (Obj.mk (.type "dict") none (.dict #[(de P (so "__module__") (.str (so "__module__") 232) (.str (so "gasledger.errors") 194)), (de P (so "__qualname__") (.str (so "__qualname__") 234) (.str (so "LineFault") 233)), (de P (so "__firstlineno__") (.str (so "__firstlineno__") 236) (.int 10 235)), (de P (so "__init__") (.str (so "__init__") 245) (.ref 55)), (de P (so "__static_attributes__") (.str (so "__static_attributes__") 247) (.ref 56))] 5) #[])
noncomputable def o45 : Obj := (Obj.mk (.type "tuple") none (.seq #[] 0) #[])
noncomputable def o46 : Obj := (Obj.mk .none none (.fields #[(.int 12 0), (.int 4 0), (.ref 54)]) #[])
noncomputable def o47 : Obj := (Obj.mk (.type "code") none (.fields #[(.str (so "LineFault") 227), (.str (so "LineFault") 228), (.str (so "/claim/cut.py") 229), (.int 10 0), (.int 0 0), (.int 0 0), (.int 0 0), (.int 0 0), (.ref 45), (Value.bool false), (.int 181 0), (.ref 46), .none, .none, .none, .none, (.int 230 0), (.int 10 0), (.str (so "/claim/cut.py") 231)]) #[])
noncomputable def o48 : Obj := (Obj.mk (.type "frame") none Data.plain #[(some (.ref 47)), (some (.ref 3)), (some (.ref 44)), none, (some (.str (so "gasledger.errors") 194)), none, (some (.ref 0))])
noncomputable def o49 : Obj := (Obj.mk (.type "tuple") none (.seq #[] 0) #[])
noncomputable def o50 : Obj := (Obj.mk .none none (.fields #[]) #[])
noncomputable def o51 : Obj := (Obj.mk (.type "tuple") none (.seq #[(.str (so "self") 240), (.str (so "word") 241), (.str (so "line") 242)] 0) #[])
noncomputable def o52 : Obj := (Obj.mk (.type "tuple") none (.seq #[] 0) #[])
noncomputable def o53 : Obj := (Obj.mk .none none (.func (FuncData.mk (so "__init__") (so "LineFault.__init__") (fPar (inCls (stAt 3) 0)) (.stmts (fBody (inCls (stAt 3) 0))) (fScope (inCls (stAt 3) 0)) 0 [] .none .none .none .none none .none .none 0)) #[])
noncomputable def o54 : Obj := (Obj.mk (.type "code") none (.fields #[(.str (so "__init__") 237), (.str (so "LineFault.__init__") 238), (.str (so "/claim/cut.py") 239), (.int 12 0), (.int 3 0), (.int 0 0), (.int 0 0), (.int 3 0), (.ref 49), (Value.bool true), (.int 181 0), (.ref 50), .none, (.ref 51), (.ref 52), (.ref 53), (.int 243 0), (.int 12 0), (.str (so "/claim/cut.py") 244)]) #[])
noncomputable def o55 : Obj := (Obj.mk (.type "function") none (.func (FuncData.mk (so "__init__") (so "LineFault.__init__") (fPar (inCls (stAt 3) 0)) (.stmts (fBody (inCls (stAt 3) 0))) (fScope (inCls (stAt 3) 0)) 3 [] .none .none .none (.str (so "gasledger.errors") 194) none (.ref 54) .none 0)) #[])
noncomputable def o56 : Obj := (Obj.mk (.type "tuple") none (.seq #[(.str (so "line") 246)] 0) #[])
noncomputable def o57 (P : Params) : Obj := (Obj.mk (.type "dict") none (.dict #[(de P (so "__module__") (.str (so "__module__") 232) (.str (so "gasledger.errors") 194)), (de P (so "__firstlineno__") (.str (so "__firstlineno__") 236) (.int 10 235)), (de P (so "__init__") (.str (so "__init__") 245) (.ref 55)), (de P (so "__static_attributes__") (.str (so "__static_attributes__") 247) (.ref 56)), (de P (so "__doc__") (.str (so "__doc__") 248) .none)] 2) #[])
noncomputable def o58 : Obj := (Obj.mk (.type "type") none (.cls (ClassData.mk (so "LineFault") [(.ref 38)] [(.ref 58), (.ref 38), (.type "Exception"), (.type "BaseException"), (.type "object")] 57 (so "LineFault") true [] [(.ref 70)] false none false)) #[(some (.ref 42)), none, (some (.str (so "LineFault") 225)), (some (.str (so "LineFault") 233)), (some (.builtin "Exception.__new__")), (some (Value.bool true))])
noncomputable def o59 : Obj := (Obj.mk (.type "super") none (.fields #[(.ref 58), (.ref 58), (.ref 58)]) #[])
noncomputable def o60 : Obj := (Obj.mk (.type "builtin_function_or_method") none (.fields #[(.builtin "object.__init_subclass__"), (.ref 58)]) #[])
noncomputable def o61 : Obj := (Obj.mk (.type "tuple") none (.seq #[(.ref 58)] 0) #[])
noncomputable def o62 : Obj := (Obj.mk (.type "builtin_function_or_method") none (.fields #[(.builtin "type.__prepare__"), (.type "type")]) #[])
noncomputable def o63 (P : Params) : Obj := (Obj.mk (.type "dict") none (.dict #[(de P (so "__module__") (.str (so "__module__") 258) (.str (so "gasledger.errors") 194)), (de P (so "__qualname__") (.str (so "__qualname__") 260) (.str (so "SourceFault") 259)), (de P (so "__firstlineno__") (.str (so "__firstlineno__") 262) (.int 15 261)), (de P (so "__static_attributes__") (.str (so "__static_attributes__") 263) (.ref 68))] 4) #[])
noncomputable def o64 : Obj := (Obj.mk (.type "tuple") none (.seq #[] 0) #[])
noncomputable def o65 : Obj := (Obj.mk .none none (.fields #[]) #[])
noncomputable def o66 : Obj := (Obj.mk (.type "code") none (.fields #[(.str (so "SourceFault") 253), (.str (so "SourceFault") 254), (.str (so "/claim/cut.py") 255), (.int 15 0), (.int 0 0), (.int 0 0), (.int 0 0), (.int 0 0), (.ref 64), (Value.bool false), (.int 181 0), (.ref 65), .none, .none, .none, .none, (.int 256 0), (.int 15 0), (.str (so "/claim/cut.py") 257)]) #[])
noncomputable def o67 : Obj := (Obj.mk (.type "frame") none Data.plain #[(some (.ref 66)), (some (.ref 3)), (some (.ref 63)), none, (some (.str (so "gasledger.errors") 194)), none, (some (.ref 0))])
noncomputable def o68 : Obj := (Obj.mk (.type "tuple") none (.seq #[] 0) #[])
noncomputable def o69 (P : Params) : Obj := (Obj.mk (.type "dict") none (.dict #[(de P (so "__module__") (.str (so "__module__") 258) (.str (so "gasledger.errors") 194)), (de P (so "__firstlineno__") (.str (so "__firstlineno__") 262) (.int 15 261)), (de P (so "__static_attributes__") (.str (so "__static_attributes__") 263) (.ref 68)), (de P (so "__doc__") (.str (so "__doc__") 264) .none)] 2) #[])
noncomputable def o70 : Obj := (Obj.mk (.type "type") none (.cls (ClassData.mk (so "SourceFault") [(.ref 58)] [(.ref 70), (.ref 58), (.ref 38), (.type "Exception"), (.type "BaseException"), (.type "object")] 69 (so "SourceFault") true [] [] false none false)) #[(some (.ref 61)), none, (some (.str (so "SourceFault") 251)), (some (.str (so "SourceFault") 259)), (some (.builtin "Exception.__new__")), (some (Value.bool true))])
noncomputable def o71 : Obj := (Obj.mk (.type "super") none (.fields #[(.ref 70), (.ref 70), (.ref 70)]) #[])
noncomputable def o72 : Obj := (Obj.mk (.type "builtin_function_or_method") none (.fields #[(.builtin "object.__init_subclass__"), (.ref 70)]) #[])
noncomputable def o73 : Obj := (Obj.mk (.type "tuple") none (.seq #[] 0) #[])
noncomputable def o74 : Obj := (Obj.mk (.type "builtin_function_or_method") none (.fields #[(.builtin "type.__prepare__"), (.type "type")]) #[])
noncomputable def o75 (P : Params) : Obj := (Obj.mk (.type "dict") none (.dict #[(de P (so "__module__") (.str (so "__module__") 278) (.str (so "gasledger.sol_lex") 267)), (de P (so "__qualname__") (.str (so "__qualname__") 280) (.str (so "Token") 279)), (de P (so "__firstlineno__") (.str (so "__firstlineno__") 282) (.int 19 281)), (de P (so "__init__") (.str (so "__init__") 293) (.ref 86)), (de P (so "__static_attributes__") (.str (so "__static_attributes__") 298) (.ref 87))] 5) #[])
noncomputable def o76 : Obj := (Obj.mk (.type "tuple") none (.seq #[] 0) #[])
noncomputable def o77 : Obj := (Obj.mk .none none (.fields #[(.int 21 0), (.int 4 0), (.ref 85)]) #[])
noncomputable def o78 : Obj := (Obj.mk (.type "code") none (.fields #[(.str (so "Token") 273), (.str (so "Token") 274), (.str (so "/claim/cut.py") 275), (.int 19 0), (.int 0 0), (.int 0 0), (.int 0 0), (.int 0 0), (.ref 76), (Value.bool false), (.int 181 0), (.ref 77), .none, .none, .none, .none, (.int 276 0), (.int 19 0), (.str (so "/claim/cut.py") 277)]) #[])
noncomputable def o79 : Obj := (Obj.mk (.type "frame") none Data.plain #[(some (.ref 78)), (some (.ref 3)), (some (.ref 75)), none, (some (.str (so "gasledger.sol_lex") 267)), none, (some (.ref 0))])
noncomputable def o80 : Obj := (Obj.mk (.type "tuple") none (.seq #[] 0) #[])
noncomputable def o81 : Obj := (Obj.mk .none none (.fields #[]) #[])
noncomputable def o82 : Obj := (Obj.mk (.type "tuple") none (.seq #[(.str (so "self") 286), (.str (so "kind") 287), (.str (so "text") 288), (.str (so "value") 289), (.str (so "line") 290)] 0) #[])
noncomputable def o83 : Obj := (Obj.mk (.type "tuple") none (.seq #[] 0) #[])
noncomputable def o84 : Obj := (Obj.mk .none none (.func (FuncData.mk (so "__init__") (so "Token.__init__") (fPar (inCls (stAt 7) 0)) (.stmts (fBody (inCls (stAt 7) 0))) (fScope (inCls (stAt 7) 0)) 0 [] .none .none .none .none none .none .none 0)) #[])
noncomputable def o85 : Obj := (Obj.mk (.type "code") none (.fields #[(.str (so "__init__") 283), (.str (so "Token.__init__") 284), (.str (so "/claim/cut.py") 285), (.int 21 0), (.int 5 0), (.int 0 0), (.int 0 0), (.int 3 0), (.ref 80), (Value.bool true), (.int 181 0), (.ref 81), .none, (.ref 82), (.ref 83), (.ref 84), (.int 291 0), (.int 21 0), (.str (so "/claim/cut.py") 292)]) #[])
noncomputable def o86 : Obj := (Obj.mk (.type "function") none (.func (FuncData.mk (so "__init__") (so "Token.__init__") (fPar (inCls (stAt 7) 0)) (.stmts (fBody (inCls (stAt 7) 0))) (fScope (inCls (stAt 7) 0)) 3 [] .none .none .none (.str (so "gasledger.sol_lex") 267) none (.ref 85) .none 0)) #[])
noncomputable def o87 : Obj := (Obj.mk (.type "tuple") none (.seq #[(.str (so "kind") 294), (.str (so "line") 295), (.str (so "text") 296), (.str (so "value") 297)] 0) #[])
noncomputable def o88 (P : Params) : Obj := (Obj.mk (.type "dict") none (.dict #[(de P (so "__module__") (.str (so "__module__") 278) (.str (so "gasledger.sol_lex") 267)), (de P (so "__firstlineno__") (.str (so "__firstlineno__") 282) (.int 19 281)), (de P (so "__init__") (.str (so "__init__") 293) (.ref 86)), (de P (so "__static_attributes__") (.str (so "__static_attributes__") 298) (.ref 87)), (de P (so "__dict__") (.str (so "__dict__") 300) (.ref 90)), (de P (so "__weakref__") (.str (so "__weakref__") 302) (.ref 91)), (de P (so "__doc__") (.str (so "__doc__") 303) .none)] 4) #[])
noncomputable def o89 : Obj := (Obj.mk (.type "type") none (.cls (ClassData.mk (so "Token") [(.type "object")] [(.ref 89), (.type "object")] 88 (so "Token") true [] [] false none false)) #[none, none, (some (.str (so "Token") 271)), (some (.str (so "Token") 279)), (some (.builtin "object.__new__")), (some (Value.bool true))])
noncomputable def o90 : Obj := (Obj.mk (.type "getset_descriptor") none (.fields #[(.str (so "__dict__") 299), (.ref 89), (.builtin "function.__dict__"), (.builtin "function.__dict__#set")]) #[])
noncomputable def o91 : Obj := (Obj.mk (.type "getset_descriptor") none (.fields #[(.str (so "__weakref__") 301), (.ref 89), (.builtin "ExceptionGroup.__weakref__"), .none]) #[])
noncomputable def o92 : Obj := (Obj.mk (.type "super") none (.fields #[(.ref 89), (.ref 89), (.ref 89)]) #[])
noncomputable def o93 : Obj := (Obj.mk (.type "builtin_function_or_method") none (.fields #[(.builtin "object.__init_subclass__"), (.ref 89)]) #[])
noncomputable def o94 : Obj := (Obj.mk (.type "tuple") none (.seq #[] 0) #[])
noncomputable def o95 : Obj := (Obj.mk .none none (.fields #[]) #[])
noncomputable def o96 : Obj := (Obj.mk .none none (.func (FuncData.mk (so "number_in") (so "number_in") (fPar (stAt 8)) (.stmts (fBody (stAt 8))) (fScope (stAt 8)) 0 [] .none .none .none .none none .none .none 0)) #[])
noncomputable def o97 : Obj := (Obj.mk (.type "code") none (.fields #[(.str (so "number_in") 306), (.str (so "number_in") 307), (.str (so "/claim/cut.py") 308), (.int 26 0), (.int 4 0), (.int 0 0), (.int 0 0), (.int 3 0), (.ref 94), (Value.bool true), (.int 181 0), (.ref 95), .none, .none, .none, (.ref 96), (.int 309 0), (.int 26 0), (.str (so "/claim/cut.py") 310)]) #[])
noncomputable def o98 : Obj := (Obj.mk (.type "function") none (.func (FuncData.mk (so "number_in") (so "number_in") (fPar (stAt 8)) (.stmts (fBody (stAt 8))) (fScope (stAt 8)) 3 [] .none .none .none (.str (so "gasledger.sol_lex") 267) none (.ref 97) .none 0)) #[])
noncomputable def o99 : Obj := (Obj.mk (.type "tuple") none (.seq #[] 0) #[])
noncomputable def o100 : Obj := (Obj.mk .none none (.fields #[]) #[])
noncomputable def o101 : Obj := (Obj.mk (.type "tuple") none (.seq #[(.str (so "word") 315), (.str (so "head") 316)] 0) #[])
noncomputable def o102 : Obj := (Obj.mk (.type "tuple") none (.seq #[] 0) #[])
noncomputable def o103 : Obj := (Obj.mk .none none (.func (FuncData.mk (so "elementary") (so "elementary") (fPar (stAt 9)) (.stmts (fBody (stAt 9))) (fScope (stAt 9)) 0 [] .none .none .none .none none .none .none 0)) #[])
noncomputable def o104 : Obj := (Obj.mk (.type "code") none (.fields #[(.str (so "elementary") 312), (.str (so "elementary") 313), (.str (so "/claim/cut.py") 314), (.int 31 0), (.int 1 0), (.int 0 0), (.int 0 0), (.int 3 0), (.ref 99), (Value.bool true), (.int 181 0), (.ref 100), .none, (.ref 101), (.ref 102), (.ref 103), (.int 317 0), (.int 31 0), (.str (so "/claim/cut.py") 318)]) #[])
noncomputable def o105 : Obj := (Obj.mk (.type "function") none (.func (FuncData.mk (so "elementary") (so "elementary") (fPar (stAt 9)) (.stmts (fBody (stAt 9))) (fScope (stAt 9)) 3 [] .none .none .none (.str (so "gasledger.sol_lex") 267) none (.ref 104) .none 0)) #[])
noncomputable def o106 : Obj := (Obj.mk (.type "tuple") none (.seq #[(.str (so "number") 324), (.str (so "text") 325), (.str (so "bool") 326), (.str (so "name") 327), (.str (so "tuple") 328), (.str (so "unary") 329), (.str (so "postfix") 330), (.str (so "binary") 331), (.str (so "cond") 332), (.str (so "assign") 333), (.str (so "index") 334), (.str (so "member") 335), (.str (so "options") 336), (.str (so "call") 337), (.str (so "new") 338), (.str (so "typename") 339), (.str (so "type_name") 340), (.str (so "type_array") 341), (.str (so "type_mapping") 342)] 0) #[])
noncomputable def o107 : Obj := (Obj.mk (.type "tuple") none (.seq #[] 0) #[])
noncomputable def o108 : Obj := (Obj.mk (.type "builtin_function_or_method") none (.fields #[(.builtin "type.__prepare__"), (.type "type")]) #[])
noncomputable def o109 (P : Params) : Obj := (Obj.mk (.type "dict") none (.dict #[(de P (so "__module__") (.str (so "__module__") 351) (.str (so "gasledger.sol_syntax") 320)), (de P (so "__qualname__") (.str (so "__qualname__") 353) (.str (so "Syn") 352)), (de P (so "__firstlineno__") (.str (so "__firstlineno__") 355) (.int 43 354)), (de P (so "__init__") (.str (so "__init__") 368) (.ref 120)), (de P (so "__static_attributes__") (.str (so "__static_attributes__") 375) (.ref 121))] 5) #[])
noncomputable def o110 : Obj := (Obj.mk (.type "tuple") none (.seq #[] 0) #[])
noncomputable def o111 : Obj := (Obj.mk .none none (.fields #[(.int 45 0), (.int 4 0), (.ref 119)]) #[])
noncomputable def o112 : Obj := (Obj.mk (.type "code") none (.fields #[(.str (so "Syn") 346), (.str (so "Syn") 347), (.str (so "/claim/cut.py") 348), (.int 43 0), (.int 0 0), (.int 0 0), (.int 0 0), (.int 0 0), (.ref 110), (Value.bool false), (.int 181 0), (.ref 111), .none, .none, .none, .none, (.int 349 0), (.int 43 0), (.str (so "/claim/cut.py") 350)]) #[])
noncomputable def o113 : Obj := (Obj.mk (.type "frame") none Data.plain #[(some (.ref 112)), (some (.ref 3)), (some (.ref 109)), none, (some (.str (so "gasledger.sol_syntax") 320)), none, (some (.ref 0))])
noncomputable def o114 : Obj := (Obj.mk (.type "tuple") none (.seq #[] 0) #[])
noncomputable def o115 : Obj := (Obj.mk .none none (.fields #[]) #[])
noncomputable def o116 : Obj := (Obj.mk (.type "tuple") none (.seq #[(.str (so "self") 359), (.str (so "kind") 360), (.str (so "line") 361), (.str (so "name") 362), (.str (so "kids") 363), (.str (so "more") 364), (.str (so "kid") 365)] 0) #[])
noncomputable def o117 : Obj := (Obj.mk (.type "tuple") none (.seq #[] 0) #[])
noncomputable def o118 : Obj := (Obj.mk .none none (.func (FuncData.mk (so "__init__") (so "Syn.__init__") (fPar (inCls (stAt 13) 0)) (.stmts (fBody (inCls (stAt 13) 0))) (fScope (inCls (stAt 13) 0)) 0 [] .none .none .none .none none .none .none 0)) #[])
noncomputable def o119 : Obj := (Obj.mk (.type "code") none (.fields #[(.str (so "__init__") 356), (.str (so "Syn.__init__") 357), (.str (so "/claim/cut.py") 358), (.int 45 0), (.int 6 0), (.int 0 0), (.int 0 0), (.int 3 0), (.ref 114), (Value.bool true), (.int 181 0), (.ref 115), .none, (.ref 116), (.ref 117), (.ref 118), (.int 366 0), (.int 45 0), (.str (so "/claim/cut.py") 367)]) #[])
noncomputable def o120 : Obj := (Obj.mk (.type "function") none (.func (FuncData.mk (so "__init__") (so "Syn.__init__") (fPar (inCls (stAt 13) 0)) (.stmts (fBody (inCls (stAt 13) 0))) (fScope (inCls (stAt 13) 0)) 3 [] .none .none .none (.str (so "gasledger.sol_syntax") 320) none (.ref 119) .none 0)) #[])
noncomputable def o121 : Obj := (Obj.mk (.type "tuple") none (.seq #[(.str (so "height") 369), (.str (so "kids") 370), (.str (so "kind") 371), (.str (so "line") 372), (.str (so "more") 373), (.str (so "name") 374)] 0) #[])
noncomputable def o122 (P : Params) : Obj := (Obj.mk (.type "dict") none (.dict #[(de P (so "__module__") (.str (so "__module__") 351) (.str (so "gasledger.sol_syntax") 320)), (de P (so "__firstlineno__") (.str (so "__firstlineno__") 355) (.int 43 354)), (de P (so "__init__") (.str (so "__init__") 368) (.ref 120)), (de P (so "__static_attributes__") (.str (so "__static_attributes__") 375) (.ref 121)), (de P (so "__dict__") (.str (so "__dict__") 377) (.ref 124)), (de P (so "__weakref__") (.str (so "__weakref__") 379) (.ref 125)), (de P (so "__doc__") (.str (so "__doc__") 380) .none)] 4) #[])
noncomputable def o123 : Obj := (Obj.mk (.type "type") none (.cls (ClassData.mk (so "Syn") [(.type "object")] [(.ref 123), (.type "object")] 122 (so "Syn") true [] [] false none false)) #[none, none, (some (.str (so "Syn") 344)), (some (.str (so "Syn") 352)), (some (.builtin "object.__new__")), (some (Value.bool true))])
noncomputable def o124 : Obj := (Obj.mk (.type "getset_descriptor") none (.fields #[(.str (so "__dict__") 376), (.ref 123), (.builtin "function.__dict__"), (.builtin "function.__dict__#set")]) #[])
noncomputable def o125 : Obj := (Obj.mk (.type "getset_descriptor") none (.fields #[(.str (so "__weakref__") 378), (.ref 123), (.builtin "ExceptionGroup.__weakref__"), .none]) #[])
noncomputable def o126 : Obj := (Obj.mk (.type "super") none (.fields #[(.ref 123), (.ref 123), (.ref 123)]) #[])
noncomputable def o127 : Obj := (Obj.mk (.type "builtin_function_or_method") none (.fields #[(.builtin "object.__init_subclass__"), (.ref 123)]) #[])
noncomputable def o128 : Obj := (Obj.mk (.type "tuple") none (.seq #[] 0) #[])
noncomputable def o129 : Obj := (Obj.mk .none none (.fields #[]) #[])
noncomputable def o130 : Obj := (Obj.mk .none none (.func (FuncData.mk (so "high_row") (so "high_row") (fPar (stAt 14)) (.stmts (fBody (stAt 14))) (fScope (stAt 14)) 0 [] .none .none .none .none none .none .none 0)) #[])
noncomputable def o131 : Obj := (Obj.mk (.type "code") none (.fields #[(.str (so "high_row") 383), (.str (so "high_row") 384), (.str (so "/claim/cut.py") 385), (.int 57 0), (.int 1 0), (.int 0 0), (.int 0 0), (.int 3 0), (.ref 128), (Value.bool true), (.int 181 0), (.ref 129), .none, .none, .none, (.ref 130), (.int 386 0), (.int 57 0), (.str (so "/claim/cut.py") 387)]) #[])
noncomputable def o132 : Obj := (Obj.mk (.type "function") none (.func (FuncData.mk (so "high_row") (so "high_row") (fPar (stAt 14)) (.stmts (fBody (stAt 14))) (fScope (stAt 14)) 3 [] .none .none .none (.str (so "gasledger.sol_syntax") 320) none (.ref 131) .none 0)) #[])
noncomputable def o133 : Obj := (Obj.mk (.type "tuple") none (.seq #[(.str (so "storage") 391), (.str (so "memory") 392), (.str (so "calldata") 393)] 0) #[])
noncomputable def o134 : Obj := (Obj.mk (.type "tuple") none (.seq #[] 0) #[])
noncomputable def o135 : Obj := (Obj.mk .none none (.fields #[]) #[])
noncomputable def o136 : Obj := (Obj.mk (.type "tuple") none (.seq #[(.str (so "cursor") 400), (.str (so "ahead") 401), (.str (so "text") 402)] 0) #[])
noncomputable def o137 : Obj := (Obj.mk (.type "tuple") none (.seq #[] 0) #[])
noncomputable def o138 : Obj := (Obj.mk .none none (.func (FuncData.mk (so "is_elementary") (so "is_elementary") (fPar (stAt 18)) (.stmts (fBody (stAt 18))) (fScope (stAt 18)) 0 [] .none .none .none .none none .none .none 0)) #[])
noncomputable def o139 : Obj := (Obj.mk (.type "code") none (.fields #[(.str (so "is_elementary") 397), (.str (so "is_elementary") 398), (.str (so "/claim/cut.py") 399), (.int 67 0), (.int 2 0), (.int 0 0), (.int 0 0), (.int 3 0), (.ref 134), (Value.bool true), (.int 181 0), (.ref 135), .none, (.ref 136), (.ref 137), (.ref 138), (.int 403 0), (.int 67 0), (.str (so "/claim/cut.py") 404)]) #[])
noncomputable def o140 : Obj := (Obj.mk (.type "function") none (.func (FuncData.mk (so "is_elementary") (so "is_elementary") (fPar (stAt 18)) (.stmts (fBody (stAt 18))) (fScope (stAt 18)) 3 [] .none .none .none (.str (so "gasledger.sol_parsetypes") 389) none (.ref 139) .none 0)) #[])
noncomputable def o141 : Obj := (Obj.mk (.type "tuple") none (.seq #[] 0) #[])
noncomputable def o142 : Obj := (Obj.mk .none none (.fields #[]) #[])
noncomputable def o143 : Obj := (Obj.mk (.type "tuple") none (.seq #[(.str (so "cursor") 409), (.str (so "word") 410), (.str (so "found") 411)] 0) #[])
noncomputable def o144 : Obj := (Obj.mk (.type "tuple") none (.seq #[] 0) #[])
noncomputable def o145 : Obj := (Obj.mk .none none (.func (FuncData.mk (so "read_path") (so "read_path") (fPar (stAt 19)) (.stmts (fBody (stAt 19))) (fScope (stAt 19)) 0 [] .none .none .none .none none .none .none 0)) #[])
noncomputable def o146 : Obj := (Obj.mk (.type "code") none (.fields #[(.str (so "read_path") 406), (.str (so "read_path") 407), (.str (so "/claim/cut.py") 408), (.int 70 0), (.int 2 0), (.int 0 0), (.int 0 0), (.int 3 0), (.ref 141), (Value.bool true), (.int 181 0), (.ref 142), .none, (.ref 143), (.ref 144), (.ref 145), (.int 412 0), (.int 70 0), (.str (so "/claim/cut.py") 413)]) #[])
noncomputable def o147 : Obj := (Obj.mk (.type "function") none (.func (FuncData.mk (so "read_path") (so "read_path") (fPar (stAt 19)) (.stmts (fBody (stAt 19))) (fScope (stAt 19)) 3 [] .none .none .none (.str (so "gasledger.sol_parsetypes") 389) none (.ref 146) .none 0)) #[])
noncomputable def o148 : Obj := (Obj.mk (.type "tuple") none (.seq #[] 0) #[])
noncomputable def o149 : Obj := (Obj.mk .none none (.fields #[]) #[])
noncomputable def o150 : Obj := (Obj.mk (.type "tuple") none (.seq #[(.str (so "cursor") 418), (.str (so "line") 419), (.str (so "name") 420), (.str (so "is_payable") 421)] 0) #[])
noncomputable def o151 : Obj := (Obj.mk (.type "tuple") none (.seq #[] 0) #[])
noncomputable def o152 : Obj := (Obj.mk .none none (.func (FuncData.mk (so "read_named") (so "read_named") (fPar (stAt 20)) (.stmts (fBody (stAt 20))) (fScope (stAt 20)) 0 [] .none .none .none .none none .none .none 0)) #[])
noncomputable def o153 : Obj := (Obj.mk (.type "code") none (.fields #[(.str (so "read_named") 415), (.str (so "read_named") 416), (.str (so "/claim/cut.py") 417), (.int 75 0), (.int 1 0), (.int 0 0), (.int 0 0), (.int 3 0), (.ref 148), (Value.bool true), (.int 181 0), (.ref 149), .none, (.ref 150), (.ref 151), (.ref 152), (.int 422 0), (.int 75 0), (.str (so "/claim/cut.py") 423)]) #[])
noncomputable def o154 : Obj := (Obj.mk (.type "function") none (.func (FuncData.mk (so "read_named") (so "read_named") (fPar (stAt 20)) (.stmts (fBody (stAt 20))) (fScope (stAt 20)) 3 [] .none .none .none (.str (so "gasledger.sol_parsetypes") 389) none (.ref 153) .none 0)) #[])
noncomputable def o155 : Obj := (Obj.mk (.type "tuple") none (.seq #[] 0) #[])
noncomputable def o156 : Obj := (Obj.mk .none none (.fields #[]) #[])
noncomputable def o157 : Obj := (Obj.mk (.type "tuple") none (.seq #[(.str (so "cursor") 428)] 0) #[])
noncomputable def o158 : Obj := (Obj.mk (.type "tuple") none (.seq #[] 0) #[])
noncomputable def o159 : Obj := (Obj.mk .none none (.func (FuncData.mk (so "skip_name") (so "skip_name") (fPar (stAt 21)) (.stmts (fBody (stAt 21))) (fScope (stAt 21)) 0 [] .none .none .none .none none .none .none 0)) #[])
noncomputable def o160 : Obj := (Obj.mk (.type "code") none (.fields #[(.str (so "skip_name") 425), (.str (so "skip_name") 426), (.str (so "/claim/cut.py") 427), (.int 82 0), (.int 1 0), (.int 0 0), (.int 0 0), (.int 3 0), (.ref 155), (Value.bool true), (.int 181 0), (.ref 156), .none, (.ref 157), (.ref 158), (.ref 159), (.int 429 0), (.int 82 0), (.str (so "/claim/cut.py") 430)]) #[])
noncomputable def o161 : Obj := (Obj.mk (.type "function") none (.func (FuncData.mk (so "skip_name") (so "skip_name") (fPar (stAt 21)) (.stmts (fBody (stAt 21))) (fScope (stAt 21)) 3 [] .none .none .none (.str (so "gasledger.sol_parsetypes") 389) none (.ref 160) .none 0)) #[])
noncomputable def o162 : Obj := (Obj.mk (.type "tuple") none (.seq #[] 0) #[])
noncomputable def o163 : Obj := (Obj.mk .none none (.fields #[]) #[])
noncomputable def o164 : Obj := (Obj.mk (.type "tuple") none (.seq #[(.str (so "cursor") 435), (.str (so "read_length") 436), (.str (so "line") 437), (.str (so "key") 438), (.str (so "value") 439), (.str (so "levels") 440)] 0) #[])
noncomputable def o165 : Obj := (Obj.mk (.type "tuple") none (.seq #[] 0) #[])
noncomputable def o166 : Obj := (Obj.mk .none none (.func (FuncData.mk (so "read_mapping") (so "read_mapping") (fPar (stAt 22)) (.stmts (fBody (stAt 22))) (fScope (stAt 22)) 0 [] .none .none .none .none none .none .none 0)) #[])
noncomputable def o167 : Obj := (Obj.mk (.type "code") none (.fields #[(.str (so "read_mapping") 432), (.str (so "read_mapping") 433), (.str (so "/claim/cut.py") 434), (.int 85 0), (.int 2 0), (.int 0 0), (.int 0 0), (.int 3 0), (.ref 162), (Value.bool true), (.int 181 0), (.ref 163), .none, (.ref 164), (.ref 165), (.ref 166), (.int 441 0), (.int 85 0), (.str (so "/claim/cut.py") 442)]) #[])
noncomputable def o168 : Obj := (Obj.mk (.type "function") none (.func (FuncData.mk (so "read_mapping") (so "read_mapping") (fPar (stAt 22)) (.stmts (fBody (stAt 22))) (fScope (stAt 22)) 3 [] .none .none .none (.str (so "gasledger.sol_parsetypes") 389) none (.ref 167) .none 0)) #[])
noncomputable def o169 : Obj := (Obj.mk (.type "tuple") none (.seq #[] 0) #[])
noncomputable def o170 : Obj := (Obj.mk .none none (.fields #[]) #[])
noncomputable def o171 : Obj := (Obj.mk (.type "tuple") none (.seq #[(.str (so "cursor") 447), (.str (so "read_length") 448), (.str (so "found") 449), (.str (so "levels") 450), (.str (so "line") 451), (.str (so "length") 452)] 0) #[])
noncomputable def o172 : Obj := (Obj.mk (.type "tuple") none (.seq #[] 0) #[])
noncomputable def o173 : Obj := (Obj.mk .none none (.func (FuncData.mk (so "type_at") (so "type_at") (fPar (stAt 23)) (.stmts (fBody (stAt 23))) (fScope (stAt 23)) 0 [] .none .none .none .none none .none .none 0)) #[])
noncomputable def o174 : Obj := (Obj.mk (.type "code") none (.fields #[(.str (so "type_at") 444), (.str (so "type_at") 445), (.str (so "/claim/cut.py") 446), (.int 98 0), (.int 2 0), (.int 0 0), (.int 0 0), (.int 3 0), (.ref 169), (Value.bool true), (.int 181 0), (.ref 170), .none, (.ref 171), (.ref 172), (.ref 173), (.int 453 0), (.int 98 0), (.str (so "/claim/cut.py") 454)]) #[])
noncomputable def o175 : Obj := (Obj.mk (.type "function") none (.func (FuncData.mk (so "type_at") (so "type_at") (fPar (stAt 23)) (.stmts (fBody (stAt 23))) (fScope (stAt 23)) 3 [] .none .none .none (.str (so "gasledger.sol_parsetypes") 389) none (.ref 174) .none 0)) #[])
noncomputable def o176 : Obj := (Obj.mk (.type "tuple") none (.seq #[] 0) #[])
noncomputable def o177 : Obj := (Obj.mk .none none (.fields #[]) #[])
noncomputable def o178 : Obj := (Obj.mk (.type "tuple") none (.seq #[(.str (so "cursor") 459), (.str (so "read_length") 460)] 0) #[])
noncomputable def o179 : Obj := (Obj.mk (.type "tuple") none (.seq #[] 0) #[])
noncomputable def o180 : Obj := (Obj.mk .none none (.func (FuncData.mk (so "read_type") (so "read_type") (fPar (stAt 24)) (.stmts (fBody (stAt 24))) (fScope (stAt 24)) 0 [] .none .none .none .none none .none .none 0)) #[])
noncomputable def o181 : Obj := (Obj.mk (.type "code") none (.fields #[(.str (so "read_type") 456), (.str (so "read_type") 457), (.str (so "/claim/cut.py") 458), (.int 113 0), (.int 2 0), (.int 0 0), (.int 0 0), (.int 3 0), (.ref 176), (Value.bool true), (.int 181 0), (.ref 177), .none, (.ref 178), (.ref 179), (.ref 180), (.int 461 0), (.int 113 0), (.str (so "/claim/cut.py") 462)]) #[])
noncomputable def o182 : Obj := (Obj.mk (.type "function") none (.func (FuncData.mk (so "read_type") (so "read_type") (fPar (stAt 24)) (.stmts (fBody (stAt 24))) (fScope (stAt 24)) 3 [] .none .none .none (.str (so "gasledger.sol_parsetypes") 389) none (.ref 181) .none 0)) #[])
noncomputable def o183 : Obj := (Obj.mk (.type "tuple") none (.seq #[] 0) #[])
noncomputable def o184 : Obj := (Obj.mk .none none (.fields #[]) #[])
noncomputable def o185 : Obj := (Obj.mk (.type "tuple") none (.seq #[(.str (so "cursor") 467), (.str (so "word") 468)] 0) #[])
noncomputable def o186 : Obj := (Obj.mk (.type "tuple") none (.seq #[] 0) #[])
noncomputable def o187 : Obj := (Obj.mk .none none (.func (FuncData.mk (so "read_place") (so "read_place") (fPar (stAt 25)) (.stmts (fBody (stAt 25))) (fScope (stAt 25)) 0 [] .none .none .none .none none .none .none 0)) #[])
noncomputable def o188 : Obj := (Obj.mk (.type "code") none (.fields #[(.str (so "read_place") 464), (.str (so "read_place") 465), (.str (so "/claim/cut.py") 466), (.int 115 0), (.int 1 0), (.int 0 0), (.int 0 0), (.int 3 0), (.ref 183), (Value.bool true), (.int 181 0), (.ref 184), .none, (.ref 185), (.ref 186), (.ref 187), (.int 469 0), (.int 115 0), (.str (so "/claim/cut.py") 470)]) #[])
noncomputable def o189 : Obj := (Obj.mk (.type "function") none (.func (FuncData.mk (so "read_place") (so "read_place") (fPar (stAt 25)) (.stmts (fBody (stAt 25))) (fScope (stAt 25)) 3 [] .none .none .none (.str (so "gasledger.sol_parsetypes") 389) none (.ref 188) .none 0)) #[])
noncomputable def o190 : Obj := (Obj.mk (.type "tuple") none (.seq #[] 0) #[])
noncomputable def o191 : Obj := (Obj.mk .none none (.fields #[]) #[])
noncomputable def o192 : Obj := (Obj.mk (.type "tuple") none (.seq #[(.str (so "cursor") 475), (.str (so "ahead") 476), (.str (so "depth") 477)] 0) #[])
noncomputable def o193 : Obj := (Obj.mk (.type "tuple") none (.seq #[] 0) #[])
noncomputable def o194 : Obj := (Obj.mk .none none (.func (FuncData.mk (so "end_of_brackets") (so "end_of_brackets") (fPar (stAt 26)) (.stmts (fBody (stAt 26))) (fScope (stAt 26)) 0 [] .none .none .none .none none .none .none 0)) #[])
noncomputable def o195 : Obj := (Obj.mk (.type "code") none (.fields #[(.str (so "end_of_brackets") 472), (.str (so "end_of_brackets") 473), (.str (so "/claim/cut.py") 474), (.int 120 0), (.int 2 0), (.int 0 0), (.int 0 0), (.int 3 0), (.ref 190), (Value.bool true), (.int 181 0), (.ref 191), .none, (.ref 192), (.ref 193), (.ref 194), (.int 478 0), (.int 120 0), (.str (so "/claim/cut.py") 479)]) #[])
noncomputable def o196 : Obj := (Obj.mk (.type "function") none (.func (FuncData.mk (so "end_of_brackets") (so "end_of_brackets") (fPar (stAt 26)) (.stmts (fBody (stAt 26))) (fScope (stAt 26)) 3 [] .none .none .none (.str (so "gasledger.sol_parsetypes") 389) none (.ref 195) .none 0)) #[])
noncomputable def o197 : Obj := (Obj.mk (.type "tuple") none (.seq #[] 0) #[])
noncomputable def o198 : Obj := (Obj.mk .none none (.fields #[]) #[])
noncomputable def o199 : Obj := (Obj.mk (.type "tuple") none (.seq #[(.str (so "cursor") 484), (.str (so "ahead") 485), (.str (so "is_payable") 486)] 0) #[])
noncomputable def o200 : Obj := (Obj.mk (.type "tuple") none (.seq #[] 0) #[])
noncomputable def o201 : Obj := (Obj.mk .none none (.func (FuncData.mk (so "end_of_type") (so "end_of_type") (fPar (stAt 27)) (.stmts (fBody (stAt 27))) (fScope (stAt 27)) 0 [] .none .none .none .none none .none .none 0)) #[])
noncomputable def o202 : Obj := (Obj.mk (.type "code") none (.fields #[(.str (so "end_of_type") 481), (.str (so "end_of_type") 482), (.str (so "/claim/cut.py") 483), (.int 133 0), (.int 2 0), (.int 0 0), (.int 0 0), (.int 3 0), (.ref 197), (Value.bool true), (.int 181 0), (.ref 198), .none, (.ref 199), (.ref 200), (.ref 201), (.int 487 0), (.int 133 0), (.str (so "/claim/cut.py") 488)]) #[])
noncomputable def o203 : Obj := (Obj.mk (.type "function") none (.func (FuncData.mk (so "end_of_type") (so "end_of_type") (fPar (stAt 27)) (.stmts (fBody (stAt 27))) (fScope (stAt 27)) 3 [] .none .none .none (.str (so "gasledger.sol_parsetypes") 389) none (.ref 202) .none 0)) #[])
noncomputable def o204 : Obj := (Obj.mk (.type "tuple") none (.seq #[] 0) #[])
noncomputable def o205 : Obj := (Obj.mk .none none (.fields #[]) #[])
noncomputable def o206 : Obj := (Obj.mk .none none (.func (FuncData.mk (so "begins_local") (so "begins_local") (fPar (stAt 28)) (.stmts (fBody (stAt 28))) (fScope (stAt 28)) 0 [] .none .none .none .none none .none .none 0)) #[])
noncomputable def o207 : Obj := (Obj.mk (.type "code") none (.fields #[(.str (so "begins_local") 490), (.str (so "begins_local") 491), (.str (so "/claim/cut.py") 492), (.int 146 0), (.int 2 0), (.int 0 0), (.int 0 0), (.int 3 0), (.ref 204), (Value.bool true), (.int 181 0), (.ref 205), .none, .none, .none, (.ref 206), (.int 493 0), (.int 146 0), (.str (so "/claim/cut.py") 494)]) #[])
noncomputable def o208 : Obj := (Obj.mk (.type "function") none (.func (FuncData.mk (so "begins_local") (so "begins_local") (fPar (stAt 28)) (.stmts (fBody (stAt 28))) (fScope (stAt 28)) 3 [] .none .none .none (.str (so "gasledger.sol_parsetypes") 389) none (.ref 207) .none 0)) #[])
noncomputable def o209 : Obj := (Obj.mk (.type "tuple") none (.seq #[(.str (so "name") 498), (.str (so "keyword") 499), (.str (so "sign") 500)] 0) #[])
noncomputable def o210 : Obj := (Obj.mk (.type "tuple") none (.seq #[] 0) #[])
noncomputable def o211 : Obj := (Obj.mk (.type "builtin_function_or_method") none (.fields #[(.builtin "type.__prepare__"), (.type "type")]) #[])
noncomputable def o212 (P : Params) : Obj := (Obj.mk (.type "dict") none (.dict #[(de P (so "__module__") (.str (so "__module__") 511) (.str (so "gasledger.sol_cursor") 496)), (de P (so "__qualname__") (.str (so "__qualname__") 513) (.str (so "Cursor") 512)), (de P (so "__firstlineno__") (.str (so "__firstlineno__") 515) (.int 156 514)), (de P (so "__init__") (.str (so "__init__") 523) (.ref 223)), (de P (so "peek") (.str (so "peek") 532) (.ref 231)), (de P (so "take") (.str (so "take") 540) (.ref 238)), (de P (so "line") (.str (so "line") 547) (.ref 245)), (de P (so "at") (.str (so "at") 556) (.ref 252)), (de P (so "is_behind") (.str (so "is_behind") 566) (.ref 259)), (de P (so "accept") (.str (so "accept") 574) (.ref 266)), (de P (so "expect") (.str (so "expect") 582) (.ref 273)), (de P (so "expect_name") (.str (so "expect_name") 590) (.ref 280)), (de P (so "is_end") (.str (so "is_end") 597) (.ref 287)), (de P (so "enter") (.str (so "enter") 604) (.ref 294)), (de P (so "leave") (.str (so "leave") 611) (.ref 301)), (de P (so "fault") (.str (so "fault") 619) (.ref 308)), (de P (so "__static_attributes__") (.str (so "__static_attributes__") 624) (.ref 309))] 17) #[])
noncomputable def o213 : Obj := (Obj.mk (.type "tuple") none (.seq #[] 0) #[])
noncomputable def o214 : Obj := (Obj.mk .none none (.fields #[(.int 158 0), (.int 4 0), (.ref 222), (.int 164 0), (.int 4 0), (.ref 230), (.int 167 0), (.int 4 0), (.ref 237), (.int 173 0), (.int 4 0), (.ref 244), (.int 176 0), (.int 4 0), (.ref 251), (.int 180 0), (.int 4 0), (.ref 258), (.int 184 0), (.int 4 0), (.ref 265), (.int 190 0), (.int 4 0), (.ref 272), (.int 195 0), (.int 4 0), (.ref 279), (.int 200 0), (.int 4 0), (.ref 286), (.int 203 0), (.int 4 0), (.ref 293), (.int 208 0), (.int 4 0), (.ref 300), (.int 211 0), (.int 4 0), (.ref 307)]) #[])
noncomputable def o215 : Obj := (Obj.mk (.type "code") none (.fields #[(.str (so "Cursor") 506), (.str (so "Cursor") 507), (.str (so "/claim/cut.py") 508), (.int 156 0), (.int 0 0), (.int 0 0), (.int 0 0), (.int 0 0), (.ref 213), (Value.bool false), (.int 181 0), (.ref 214), .none, .none, .none, .none, (.int 509 0), (.int 156 0), (.str (so "/claim/cut.py") 510)]) #[])
noncomputable def o216 : Obj := (Obj.mk (.type "frame") none Data.plain #[(some (.ref 215)), (some (.ref 3)), (some (.ref 212)), none, (some (.str (so "gasledger.sol_cursor") 496)), none, (some (.ref 0))])
noncomputable def o217 : Obj := (Obj.mk (.type "tuple") none (.seq #[] 0) #[])
noncomputable def o218 : Obj := (Obj.mk .none none (.fields #[]) #[])
noncomputable def o219 : Obj := (Obj.mk (.type "tuple") none (.seq #[(.str (so "self") 519), (.str (so "tokens") 520)] 0) #[])
noncomputable def o220 : Obj := (Obj.mk (.type "tuple") none (.seq #[] 0) #[])
noncomputable def o221 : Obj := (Obj.mk .none none (.func (FuncData.mk (so "__init__") (so "Cursor.__init__") (fPar (inCls (stAt 32) 0)) (.stmts (fBody (inCls (stAt 32) 0))) (fScope (inCls (stAt 32) 0)) 0 [] .none .none .none .none none .none .none 0)) #[])
noncomputable def o222 : Obj := (Obj.mk (.type "code") none (.fields #[(.str (so "__init__") 516), (.str (so "Cursor.__init__") 517), (.str (so "/claim/cut.py") 518), (.int 158 0), (.int 2 0), (.int 0 0), (.int 0 0), (.int 3 0), (.ref 217), (Value.bool true), (.int 181 0), (.ref 218), .none, (.ref 219), (.ref 220), (.ref 221), (.int 521 0), (.int 158 0), (.str (so "/claim/cut.py") 522)]) #[])
noncomputable def o223 : Obj := (Obj.mk (.type "function") none (.func (FuncData.mk (so "__init__") (so "Cursor.__init__") (fPar (inCls (stAt 32) 0)) (.stmts (fBody (inCls (stAt 32) 0))) (fScope (inCls (stAt 32) 0)) 3 [] .none .none .none (.str (so "gasledger.sol_cursor") 496) none (.ref 222) .none 0)) #[])
noncomputable def o224 : Obj := (Obj.mk (.type "tuple") none (.seq #[(.int 0 524)] 0) #[])
noncomputable def o225 : Obj := (Obj.mk (.type "tuple") none (.seq #[] 0) #[])
noncomputable def o226 : Obj := (Obj.mk .none none (.fields #[]) #[])
noncomputable def o227 : Obj := (Obj.mk (.type "tuple") none (.seq #[(.str (so "self") 528), (.str (so "ahead") 529)] 0) #[])
noncomputable def o228 : Obj := (Obj.mk (.type "tuple") none (.seq #[] 0) #[])
noncomputable def o229 : Obj := (Obj.mk .none none (.func (FuncData.mk (so "peek") (so "Cursor.peek") (fPar (inCls (stAt 32) 1)) (.stmts (fBody (inCls (stAt 32) 1))) (fScope (inCls (stAt 32) 1)) 0 [] .none .none .none .none none .none .none 0)) #[])
noncomputable def o230 : Obj := (Obj.mk (.type "code") none (.fields #[(.str (so "peek") 525), (.str (so "Cursor.peek") 526), (.str (so "/claim/cut.py") 527), (.int 164 0), (.int 2 0), (.int 0 0), (.int 0 0), (.int 3 0), (.ref 225), (Value.bool true), (.int 181 0), (.ref 226), .none, (.ref 227), (.ref 228), (.ref 229), (.int 530 0), (.int 164 0), (.str (so "/claim/cut.py") 531)]) #[])
noncomputable def o231 : Obj := (Obj.mk (.type "function") none (.func (FuncData.mk (so "peek") (so "Cursor.peek") (fPar (inCls (stAt 32) 1)) (.stmts (fBody (inCls (stAt 32) 1))) (fScope (inCls (stAt 32) 1)) 3 [] (.ref 224) .none .none (.str (so "gasledger.sol_cursor") 496) none (.ref 230) .none 0)) #[])
noncomputable def o232 : Obj := (Obj.mk (.type "tuple") none (.seq #[] 0) #[])
noncomputable def o233 : Obj := (Obj.mk .none none (.fields #[]) #[])
noncomputable def o234 : Obj := (Obj.mk (.type "tuple") none (.seq #[(.str (so "self") 536), (.str (so "found") 537)] 0) #[])
noncomputable def o235 : Obj := (Obj.mk (.type "tuple") none (.seq #[] 0) #[])
noncomputable def o236 : Obj := (Obj.mk .none none (.func (FuncData.mk (so "take") (so "Cursor.take") (fPar (inCls (stAt 32) 2)) (.stmts (fBody (inCls (stAt 32) 2))) (fScope (inCls (stAt 32) 2)) 0 [] .none .none .none .none none .none .none 0)) #[])
noncomputable def o237 : Obj := (Obj.mk (.type "code") none (.fields #[(.str (so "take") 533), (.str (so "Cursor.take") 534), (.str (so "/claim/cut.py") 535), (.int 167 0), (.int 1 0), (.int 0 0), (.int 0 0), (.int 3 0), (.ref 232), (Value.bool true), (.int 181 0), (.ref 233), .none, (.ref 234), (.ref 235), (.ref 236), (.int 538 0), (.int 167 0), (.str (so "/claim/cut.py") 539)]) #[])
noncomputable def o238 : Obj := (Obj.mk (.type "function") none (.func (FuncData.mk (so "take") (so "Cursor.take") (fPar (inCls (stAt 32) 2)) (.stmts (fBody (inCls (stAt 32) 2))) (fScope (inCls (stAt 32) 2)) 3 [] .none .none .none (.str (so "gasledger.sol_cursor") 496) none (.ref 237) .none 0)) #[])
noncomputable def o239 : Obj := (Obj.mk (.type "tuple") none (.seq #[] 0) #[])
noncomputable def o240 : Obj := (Obj.mk .none none (.fields #[]) #[])
noncomputable def o241 : Obj := (Obj.mk (.type "tuple") none (.seq #[(.str (so "self") 544)] 0) #[])
noncomputable def o242 : Obj := (Obj.mk (.type "tuple") none (.seq #[] 0) #[])
noncomputable def o243 : Obj := (Obj.mk .none none (.func (FuncData.mk (so "line") (so "Cursor.line") (fPar (inCls (stAt 32) 3)) (.stmts (fBody (inCls (stAt 32) 3))) (fScope (inCls (stAt 32) 3)) 0 [] .none .none .none .none none .none .none 0)) #[])
noncomputable def o244 : Obj := (Obj.mk (.type "code") none (.fields #[(.str (so "line") 541), (.str (so "Cursor.line") 542), (.str (so "/claim/cut.py") 543), (.int 173 0), (.int 1 0), (.int 0 0), (.int 0 0), (.int 3 0), (.ref 239), (Value.bool true), (.int 181 0), (.ref 240), .none, (.ref 241), (.ref 242), (.ref 243), (.int 545 0), (.int 173 0), (.str (so "/claim/cut.py") 546)]) #[])
noncomputable def o245 : Obj := (Obj.mk (.type "function") none (.func (FuncData.mk (so "line") (so "Cursor.line") (fPar (inCls (stAt 32) 3)) (.stmts (fBody (inCls (stAt 32) 3))) (fScope (inCls (stAt 32) 3)) 3 [] .none .none .none (.str (so "gasledger.sol_cursor") 496) none (.ref 244) .none 0)) #[])
noncomputable def o246 : Obj := (Obj.mk (.type "tuple") none (.seq #[] 0) #[])
noncomputable def o247 : Obj := (Obj.mk .none none (.fields #[]) #[])
noncomputable def o248 : Obj := (Obj.mk (.type "tuple") none (.seq #[(.str (so "self") 551), (.str (so "text") 552), (.str (so "token") 553)] 0) #[])
noncomputable def o249 : Obj := (Obj.mk (.type "tuple") none (.seq #[] 0) #[])
noncomputable def o250 : Obj := (Obj.mk .none none (.func (FuncData.mk (so "at") (so "Cursor.at") (fPar (inCls (stAt 32) 4)) (.stmts (fBody (inCls (stAt 32) 4))) (fScope (inCls (stAt 32) 4)) 0 [] .none .none .none .none none .none .none 0)) #[])
noncomputable def o251 : Obj := (Obj.mk (.type "code") none (.fields #[(.str (so "at") 548), (.str (so "Cursor.at") 549), (.str (so "/claim/cut.py") 550), (.int 176 0), (.int 2 0), (.int 0 0), (.int 0 0), (.int 3 0), (.ref 246), (Value.bool true), (.int 181 0), (.ref 247), .none, (.ref 248), (.ref 249), (.ref 250), (.int 554 0), (.int 176 0), (.str (so "/claim/cut.py") 555)]) #[])
noncomputable def o252 : Obj := (Obj.mk (.type "function") none (.func (FuncData.mk (so "at") (so "Cursor.at") (fPar (inCls (stAt 32) 4)) (.stmts (fBody (inCls (stAt 32) 4))) (fScope (inCls (stAt 32) 4)) 3 [] .none .none .none (.str (so "gasledger.sol_cursor") 496) none (.ref 251) .none 0)) #[])
noncomputable def o253 : Obj := (Obj.mk (.type "tuple") none (.seq #[] 0) #[])
noncomputable def o254 : Obj := (Obj.mk .none none (.fields #[]) #[])
noncomputable def o255 : Obj := (Obj.mk (.type "tuple") none (.seq #[(.str (so "self") 560), (.str (so "text") 561), (.str (so "ahead") 562), (.str (so "token") 563)] 0) #[])
noncomputable def o256 : Obj := (Obj.mk (.type "tuple") none (.seq #[] 0) #[])
noncomputable def o257 : Obj := (Obj.mk .none none (.func (FuncData.mk (so "is_behind") (so "Cursor.is_behind") (fPar (inCls (stAt 32) 5)) (.stmts (fBody (inCls (stAt 32) 5))) (fScope (inCls (stAt 32) 5)) 0 [] .none .none .none .none none .none .none 0)) #[])
noncomputable def o258 : Obj := (Obj.mk (.type "code") none (.fields #[(.str (so "is_behind") 557), (.str (so "Cursor.is_behind") 558), (.str (so "/claim/cut.py") 559), (.int 180 0), (.int 3 0), (.int 0 0), (.int 0 0), (.int 3 0), (.ref 253), (Value.bool true), (.int 181 0), (.ref 254), .none, (.ref 255), (.ref 256), (.ref 257), (.int 564 0), (.int 180 0), (.str (so "/claim/cut.py") 565)]) #[])
noncomputable def o259 : Obj := (Obj.mk (.type "function") none (.func (FuncData.mk (so "is_behind") (so "Cursor.is_behind") (fPar (inCls (stAt 32) 5)) (.stmts (fBody (inCls (stAt 32) 5))) (fScope (inCls (stAt 32) 5)) 3 [] .none .none .none (.str (so "gasledger.sol_cursor") 496) none (.ref 258) .none 0)) #[])
noncomputable def o260 : Obj := (Obj.mk (.type "tuple") none (.seq #[] 0) #[])
noncomputable def o261 : Obj := (Obj.mk .none none (.fields #[]) #[])
noncomputable def o262 : Obj := (Obj.mk (.type "tuple") none (.seq #[(.str (so "self") 570), (.str (so "text") 571)] 0) #[])
noncomputable def o263 : Obj := (Obj.mk (.type "tuple") none (.seq #[] 0) #[])
noncomputable def o264 : Obj := (Obj.mk .none none (.func (FuncData.mk (so "accept") (so "Cursor.accept") (fPar (inCls (stAt 32) 6)) (.stmts (fBody (inCls (stAt 32) 6))) (fScope (inCls (stAt 32) 6)) 0 [] .none .none .none .none none .none .none 0)) #[])
noncomputable def o265 : Obj := (Obj.mk (.type "code") none (.fields #[(.str (so "accept") 567), (.str (so "Cursor.accept") 568), (.str (so "/claim/cut.py") 569), (.int 184 0), (.int 2 0), (.int 0 0), (.int 0 0), (.int 3 0), (.ref 260), (Value.bool true), (.int 181 0), (.ref 261), .none, (.ref 262), (.ref 263), (.ref 264), (.int 572 0), (.int 184 0), (.str (so "/claim/cut.py") 573)]) #[])
noncomputable def o266 : Obj := (Obj.mk (.type "function") none (.func (FuncData.mk (so "accept") (so "Cursor.accept") (fPar (inCls (stAt 32) 6)) (.stmts (fBody (inCls (stAt 32) 6))) (fScope (inCls (stAt 32) 6)) 3 [] .none .none .none (.str (so "gasledger.sol_cursor") 496) none (.ref 265) .none 0)) #[])
noncomputable def o267 : Obj := (Obj.mk (.type "tuple") none (.seq #[] 0) #[])
noncomputable def o268 : Obj := (Obj.mk .none none (.fields #[]) #[])
noncomputable def o269 : Obj := (Obj.mk (.type "tuple") none (.seq #[(.str (so "self") 578), (.str (so "text") 579)] 0) #[])
noncomputable def o270 : Obj := (Obj.mk (.type "tuple") none (.seq #[] 0) #[])
noncomputable def o271 : Obj := (Obj.mk .none none (.func (FuncData.mk (so "expect") (so "Cursor.expect") (fPar (inCls (stAt 32) 7)) (.stmts (fBody (inCls (stAt 32) 7))) (fScope (inCls (stAt 32) 7)) 0 [] .none .none .none .none none .none .none 0)) #[])
noncomputable def o272 : Obj := (Obj.mk (.type "code") none (.fields #[(.str (so "expect") 575), (.str (so "Cursor.expect") 576), (.str (so "/claim/cut.py") 577), (.int 190 0), (.int 2 0), (.int 0 0), (.int 0 0), (.int 3 0), (.ref 267), (Value.bool true), (.int 181 0), (.ref 268), .none, (.ref 269), (.ref 270), (.ref 271), (.int 580 0), (.int 190 0), (.str (so "/claim/cut.py") 581)]) #[])
noncomputable def o273 : Obj := (Obj.mk (.type "function") none (.func (FuncData.mk (so "expect") (so "Cursor.expect") (fPar (inCls (stAt 32) 7)) (.stmts (fBody (inCls (stAt 32) 7))) (fScope (inCls (stAt 32) 7)) 3 [] .none .none .none (.str (so "gasledger.sol_cursor") 496) none (.ref 272) .none 0)) #[])
noncomputable def o274 : Obj := (Obj.mk (.type "tuple") none (.seq #[] 0) #[])
noncomputable def o275 : Obj := (Obj.mk .none none (.fields #[]) #[])
noncomputable def o276 : Obj := (Obj.mk (.type "tuple") none (.seq #[(.str (so "self") 586), (.str (so "word") 587)] 0) #[])
noncomputable def o277 : Obj := (Obj.mk (.type "tuple") none (.seq #[] 0) #[])
noncomputable def o278 : Obj := (Obj.mk .none none (.func (FuncData.mk (so "expect_name") (so "Cursor.expect_name") (fPar (inCls (stAt 32) 8)) (.stmts (fBody (inCls (stAt 32) 8))) (fScope (inCls (stAt 32) 8)) 0 [] .none .none .none .none none .none .none 0)) #[])
noncomputable def o279 : Obj := (Obj.mk (.type "code") none (.fields #[(.str (so "expect_name") 583), (.str (so "Cursor.expect_name") 584), (.str (so "/claim/cut.py") 585), (.int 195 0), (.int 2 0), (.int 0 0), (.int 0 0), (.int 3 0), (.ref 274), (Value.bool true), (.int 181 0), (.ref 275), .none, (.ref 276), (.ref 277), (.ref 278), (.int 588 0), (.int 195 0), (.str (so "/claim/cut.py") 589)]) #[])
noncomputable def o280 : Obj := (Obj.mk (.type "function") none (.func (FuncData.mk (so "expect_name") (so "Cursor.expect_name") (fPar (inCls (stAt 32) 8)) (.stmts (fBody (inCls (stAt 32) 8))) (fScope (inCls (stAt 32) 8)) 3 [] .none .none .none (.str (so "gasledger.sol_cursor") 496) none (.ref 279) .none 0)) #[])
noncomputable def o281 : Obj := (Obj.mk (.type "tuple") none (.seq #[] 0) #[])
noncomputable def o282 : Obj := (Obj.mk .none none (.fields #[]) #[])
noncomputable def o283 : Obj := (Obj.mk (.type "tuple") none (.seq #[(.str (so "self") 594)] 0) #[])
noncomputable def o284 : Obj := (Obj.mk (.type "tuple") none (.seq #[] 0) #[])
noncomputable def o285 : Obj := (Obj.mk .none none (.func (FuncData.mk (so "is_end") (so "Cursor.is_end") (fPar (inCls (stAt 32) 9)) (.stmts (fBody (inCls (stAt 32) 9))) (fScope (inCls (stAt 32) 9)) 0 [] .none .none .none .none none .none .none 0)) #[])
noncomputable def o286 : Obj := (Obj.mk (.type "code") none (.fields #[(.str (so "is_end") 591), (.str (so "Cursor.is_end") 592), (.str (so "/claim/cut.py") 593), (.int 200 0), (.int 1 0), (.int 0 0), (.int 0 0), (.int 3 0), (.ref 281), (Value.bool true), (.int 181 0), (.ref 282), .none, (.ref 283), (.ref 284), (.ref 285), (.int 595 0), (.int 200 0), (.str (so "/claim/cut.py") 596)]) #[])
noncomputable def o287 : Obj := (Obj.mk (.type "function") none (.func (FuncData.mk (so "is_end") (so "Cursor.is_end") (fPar (inCls (stAt 32) 9)) (.stmts (fBody (inCls (stAt 32) 9))) (fScope (inCls (stAt 32) 9)) 3 [] .none .none .none (.str (so "gasledger.sol_cursor") 496) none (.ref 286) .none 0)) #[])
noncomputable def o288 : Obj := (Obj.mk (.type "tuple") none (.seq #[] 0) #[])
noncomputable def o289 : Obj := (Obj.mk .none none (.fields #[]) #[])
noncomputable def o290 : Obj := (Obj.mk (.type "tuple") none (.seq #[(.str (so "self") 601)] 0) #[])
noncomputable def o291 : Obj := (Obj.mk (.type "tuple") none (.seq #[] 0) #[])
noncomputable def o292 : Obj := (Obj.mk .none none (.func (FuncData.mk (so "enter") (so "Cursor.enter") (fPar (inCls (stAt 32) 10)) (.stmts (fBody (inCls (stAt 32) 10))) (fScope (inCls (stAt 32) 10)) 0 [] .none .none .none .none none .none .none 0)) #[])
noncomputable def o293 : Obj := (Obj.mk (.type "code") none (.fields #[(.str (so "enter") 598), (.str (so "Cursor.enter") 599), (.str (so "/claim/cut.py") 600), (.int 203 0), (.int 1 0), (.int 0 0), (.int 0 0), (.int 3 0), (.ref 288), (Value.bool true), (.int 181 0), (.ref 289), .none, (.ref 290), (.ref 291), (.ref 292), (.int 602 0), (.int 203 0), (.str (so "/claim/cut.py") 603)]) #[])
noncomputable def o294 : Obj := (Obj.mk (.type "function") none (.func (FuncData.mk (so "enter") (so "Cursor.enter") (fPar (inCls (stAt 32) 10)) (.stmts (fBody (inCls (stAt 32) 10))) (fScope (inCls (stAt 32) 10)) 3 [] .none .none .none (.str (so "gasledger.sol_cursor") 496) none (.ref 293) .none 0)) #[])
noncomputable def o295 : Obj := (Obj.mk (.type "tuple") none (.seq #[] 0) #[])
noncomputable def o296 : Obj := (Obj.mk .none none (.fields #[]) #[])
noncomputable def o297 : Obj := (Obj.mk (.type "tuple") none (.seq #[(.str (so "self") 608)] 0) #[])
noncomputable def o298 : Obj := (Obj.mk (.type "tuple") none (.seq #[] 0) #[])
noncomputable def o299 : Obj := (Obj.mk .none none (.func (FuncData.mk (so "leave") (so "Cursor.leave") (fPar (inCls (stAt 32) 11)) (.stmts (fBody (inCls (stAt 32) 11))) (fScope (inCls (stAt 32) 11)) 0 [] .none .none .none .none none .none .none 0)) #[])
noncomputable def o300 : Obj := (Obj.mk (.type "code") none (.fields #[(.str (so "leave") 605), (.str (so "Cursor.leave") 606), (.str (so "/claim/cut.py") 607), (.int 208 0), (.int 1 0), (.int 0 0), (.int 0 0), (.int 3 0), (.ref 295), (Value.bool true), (.int 181 0), (.ref 296), .none, (.ref 297), (.ref 298), (.ref 299), (.int 609 0), (.int 208 0), (.str (so "/claim/cut.py") 610)]) #[])
noncomputable def o301 : Obj := (Obj.mk (.type "function") none (.func (FuncData.mk (so "leave") (so "Cursor.leave") (fPar (inCls (stAt 32) 11)) (.stmts (fBody (inCls (stAt 32) 11))) (fScope (inCls (stAt 32) 11)) 3 [] .none .none .none (.str (so "gasledger.sol_cursor") 496) none (.ref 300) .none 0)) #[])
noncomputable def o302 : Obj := (Obj.mk (.type "tuple") none (.seq #[] 0) #[])
noncomputable def o303 : Obj := (Obj.mk .none none (.fields #[]) #[])
noncomputable def o304 : Obj := (Obj.mk (.type "tuple") none (.seq #[(.str (so "self") 615), (.str (so "word") 616)] 0) #[])
noncomputable def o305 : Obj := (Obj.mk (.type "tuple") none (.seq #[] 0) #[])
noncomputable def o306 : Obj := (Obj.mk .none none (.func (FuncData.mk (so "fault") (so "Cursor.fault") (fPar (inCls (stAt 32) 12)) (.stmts (fBody (inCls (stAt 32) 12))) (fScope (inCls (stAt 32) 12)) 0 [] .none .none .none .none none .none .none 0)) #[])
noncomputable def o307 : Obj := (Obj.mk (.type "code") none (.fields #[(.str (so "fault") 612), (.str (so "Cursor.fault") 613), (.str (so "/claim/cut.py") 614), (.int 211 0), (.int 2 0), (.int 0 0), (.int 0 0), (.int 3 0), (.ref 302), (Value.bool true), (.int 181 0), (.ref 303), .none, (.ref 304), (.ref 305), (.ref 306), (.int 617 0), (.int 211 0), (.str (so "/claim/cut.py") 618)]) #[])
noncomputable def o308 : Obj := (Obj.mk (.type "function") none (.func (FuncData.mk (so "fault") (so "Cursor.fault") (fPar (inCls (stAt 32) 12)) (.stmts (fBody (inCls (stAt 32) 12))) (fScope (inCls (stAt 32) 12)) 3 [] .none .none .none (.str (so "gasledger.sol_cursor") 496) none (.ref 307) .none 0)) #[])
noncomputable def o309 : Obj := (Obj.mk (.type "tuple") none (.seq #[(.str (so "choices") 620), (.str (so "depth") 621), (.str (so "spot") 622), (.str (so "tokens") 623)] 0) #[])
noncomputable def o310 (P : Params) : Obj := (Obj.mk (.type "dict") none (.dict #[(de P (so "__module__") (.str (so "__module__") 511) (.str (so "gasledger.sol_cursor") 496)), (de P (so "__firstlineno__") (.str (so "__firstlineno__") 515) (.int 156 514)), (de P (so "__init__") (.str (so "__init__") 523) (.ref 223)), (de P (so "peek") (.str (so "peek") 532) (.ref 231)), (de P (so "take") (.str (so "take") 540) (.ref 238)), (de P (so "line") (.str (so "line") 547) (.ref 245)), (de P (so "at") (.str (so "at") 556) (.ref 252)), (de P (so "is_behind") (.str (so "is_behind") 566) (.ref 259)), (de P (so "accept") (.str (so "accept") 574) (.ref 266)), (de P (so "expect") (.str (so "expect") 582) (.ref 273)), (de P (so "expect_name") (.str (so "expect_name") 590) (.ref 280)), (de P (so "is_end") (.str (so "is_end") 597) (.ref 287)), (de P (so "enter") (.str (so "enter") 604) (.ref 294)), (de P (so "leave") (.str (so "leave") 611) (.ref 301)), (de P (so "fault") (.str (so "fault") 619) (.ref 308)), (de P (so "__static_attributes__") (.str (so "__static_attributes__") 624) (.ref 309)), (de P (so "__dict__") (.str (so "__dict__") 626) (.ref 312)), (de P (so "__weakref__") (.str (so "__weakref__") 628) (.ref 313)), (de P (so "__doc__") (.str (so "__doc__") 629) .none)] 4) #[])
noncomputable def o311 : Obj := (Obj.mk (.type "type") none (.cls (ClassData.mk (so "Cursor") [(.type "object")] [(.ref 311), (.type "object")] 310 (so "Cursor") true [] [] false none false)) #[none, none, (some (.str (so "Cursor") 504)), (some (.str (so "Cursor") 512)), (some (.builtin "object.__new__")), (some (Value.bool true))])
noncomputable def o312 : Obj := (Obj.mk (.type "getset_descriptor") none (.fields #[(.str (so "__dict__") 625), (.ref 311), (.builtin "function.__dict__"), (.builtin "function.__dict__#set")]) #[])
noncomputable def o313 : Obj := (Obj.mk (.type "getset_descriptor") none (.fields #[(.str (so "__weakref__") 627), (.ref 311), (.builtin "ExceptionGroup.__weakref__"), .none]) #[])
noncomputable def o314 : Obj := (Obj.mk (.type "super") none (.fields #[(.ref 311), (.ref 311), (.ref 311)]) #[])
noncomputable def o315 : Obj := (Obj.mk (.type "builtin_function_or_method") none (.fields #[(.builtin "object.__init_subclass__"), (.ref 311)]) #[])
noncomputable def o316 : Obj := (Obj.mk (.type "tuple") none (.seq #[(.str (so "=") 634), (.str (so "(") 635), (.str (so ")") 636), (.str (so "+=") 637), (.str (so "++") 638), (.str (so ";") 639), (.str (so "?") 640), (.str (so ",") 641), (.str (so "=>") 642)] 0) #[])
noncomputable def o317 : Obj := (Obj.mk (.type "tuple") none (.seq #[(.str (so "number") 644), (.str (so "7") 645)] 0) #[])
noncomputable def o318 : Obj := (Obj.mk (.type "tuple") none (.seq #[(.str (so "text") 646), (.str (so "\"a];\"") 647)] 0) #[])
noncomputable def o319 : Obj := (Obj.mk (.type "tuple") none (.seq #[(.str (so "sign") 648), (.str (so "(") 649)] 0) #[])
noncomputable def o320 : Obj := (Obj.mk (.type "tuple") none (.seq #[(.str (so "keyword") 650), (.str (so "delete") 651)] 0) #[])
noncomputable def o321 : Obj := (Obj.mk (.type "tuple") none (.seq #[(.str (so "sign") 652), (.str (so "-") 653)] 0) #[])
noncomputable def o322 : Obj := (Obj.mk (.type "tuple") none (.seq #[(.str (so "keyword") 654), (.str (so "new") 655)] 0) #[])
noncomputable def o323 : Obj := (Obj.mk (.type "tuple") none (.seq #[(.str (so "keyword") 656), (.str (so "true") 657)] 0) #[])
noncomputable def o324 : Obj := (Obj.mk (.type "tuple") none (.seq #[(.str (so "keyword") 658), (.str (so "payable") 659)] 0) #[])
noncomputable def o325 : Obj := (Obj.mk (.type "tuple") none (.seq #[(.str (so "keyword") 660), (.str (so "emit") 661)] 0) #[])
noncomputable def o326 : Obj := (Obj.mk (.type "tuple") none (.seq #[(.str (so "keyword") 662), (.str (so "memory") 663)] 0) #[])
noncomputable def o327 : Obj := (Obj.mk (.type "tuple") none (.seq #[(.str (so "sign") 664), (.str (so "[") 665)] 0) #[])
noncomputable def o328 : Obj := (Obj.mk (.type "tuple") none (.seq #[(.ref 317), (.ref 318), (.ref 319), (.ref 320), (.ref 321), (.ref 322), (.ref 323), (.ref 324), (.ref 325), (.ref 326), (.ref 327)] 0) #[])
noncomputable def o329 : Obj := (Obj.mk (.type "tuple") none (.seq #[] 0) #[])
noncomputable def o330 : Obj := (Obj.mk .none none (.fields #[]) #[])
noncomputable def o331 : Obj := (Obj.mk .none none (.func (FuncData.mk (so "_law_well") (so "_law_well") (fPar (stAt 36)) (.stmts (fBody (stAt 36))) (fScope (stAt 36)) 0 [] .none .none .none .none none .none .none 0)) #[])
noncomputable def o332 : Obj := (Obj.mk (.type "code") none (.fields #[(.str (so "_law_well") 667), (.str (so "_law_well") 668), (.str (so "/claim/cut.py") 669), (.int 216 0), (.int 1 0), (.int 0 0), (.int 0 0), (.int 3 0), (.ref 329), (Value.bool true), (.int 181 0), (.ref 330), .none, .none, .none, (.ref 331), (.int 670 0), (.int 216 0), (.str (so "/claim/cut.py") 671)]) #[])
noncomputable def o333 : Obj := (Obj.mk (.type "function") none (.func (FuncData.mk (so "_law_well") (so "_law_well") (fPar (stAt 36)) (.stmts (fBody (stAt 36))) (fScope (stAt 36)) 3 [] .none .none .none (.str (so "law_sa0310_01") 632) none (.ref 332) .none 0)) #[])
noncomputable def o334 : Obj := (Obj.mk (.type "tuple") none (.seq #[] 0) #[])
noncomputable def o335 : Obj := (Obj.mk .none none (.fields #[]) #[])
noncomputable def o336 : Obj := (Obj.mk (.type "tuple") none (.seq #[(.str (so "well") 676), (.str (so "size") 677), (.str (so "given") 678)] 0) #[])
noncomputable def o337 : Obj := (Obj.mk (.type "tuple") none (.seq #[] 0) #[])
noncomputable def o338 : Obj := (Obj.mk .none none (.func (FuncData.mk (so "_law_draw") (so "_law_draw") (fPar (stAt 37)) (.stmts (fBody (stAt 37))) (fScope (stAt 37)) 0 [] .none .none .none .none none .none .none 0)) #[])
noncomputable def o339 : Obj := (Obj.mk (.type "code") none (.fields #[(.str (so "_law_draw") 673), (.str (so "_law_draw") 674), (.str (so "/claim/cut.py") 675), (.int 218 0), (.int 2 0), (.int 0 0), (.int 0 0), (.int 3 0), (.ref 334), (Value.bool true), (.int 181 0), (.ref 335), .none, (.ref 336), (.ref 337), (.ref 338), (.int 679 0), (.int 218 0), (.str (so "/claim/cut.py") 680)]) #[])
noncomputable def o340 : Obj := (Obj.mk (.type "function") none (.func (FuncData.mk (so "_law_draw") (so "_law_draw") (fPar (stAt 37)) (.stmts (fBody (stAt 37))) (fScope (stAt 37)) 3 [] .none .none .none (.str (so "law_sa0310_01") 632) none (.ref 339) .none 0)) #[])
noncomputable def o341 : Obj := (Obj.mk (.type "tuple") none (.seq #[] 0) #[])
noncomputable def o342 : Obj := (Obj.mk .none none (.fields #[]) #[])
noncomputable def o343 : Obj := (Obj.mk (.type "tuple") none (.seq #[(.str (so "well") 685)] 0) #[])
noncomputable def o344 : Obj := (Obj.mk (.type "tuple") none (.seq #[] 0) #[])
noncomputable def o345 : Obj := (Obj.mk .none none (.func (FuncData.mk (so "_law_name") (so "_law_name") (fPar (stAt 38)) (.stmts (fBody (stAt 38))) (fScope (stAt 38)) 0 [] .none .none .none .none none .none .none 0)) #[])
noncomputable def o346 : Obj := (Obj.mk (.type "code") none (.fields #[(.str (so "_law_name") 682), (.str (so "_law_name") 683), (.str (so "/claim/cut.py") 684), (.int 226 0), (.int 1 0), (.int 0 0), (.int 0 0), (.int 3 0), (.ref 341), (Value.bool true), (.int 181 0), (.ref 342), .none, (.ref 343), (.ref 344), (.ref 345), (.int 686 0), (.int 226 0), (.str (so "/claim/cut.py") 687)]) #[])
noncomputable def o347 : Obj := (Obj.mk (.type "function") none (.func (FuncData.mk (so "_law_name") (so "_law_name") (fPar (stAt 38)) (.stmts (fBody (stAt 38))) (fScope (stAt 38)) 3 [] .none .none .none (.str (so "law_sa0310_01") 632) none (.ref 346) .none 0)) #[])
noncomputable def o348 : Obj := (Obj.mk (.type "tuple") none (.seq #[] 0) #[])
noncomputable def o349 : Obj := (Obj.mk .none none (.fields #[]) #[])
noncomputable def o350 : Obj := (Obj.mk (.type "tuple") none (.seq #[(.str (so "well") 692), (.str (so "deep") 693), (.str (so "way") 694)] 0) #[])
noncomputable def o351 : Obj := (Obj.mk (.type "tuple") none (.seq #[] 0) #[])
noncomputable def o352 : Obj := (Obj.mk .none none (.func (FuncData.mk (so "_law_filling") (so "_law_filling") (fPar (stAt 39)) (.stmts (fBody (stAt 39))) (fScope (stAt 39)) 0 [] .none .none .none .none none .none .none 0)) #[])
noncomputable def o353 : Obj := (Obj.mk (.type "code") none (.fields #[(.str (so "_law_filling") 689), (.str (so "_law_filling") 690), (.str (so "/claim/cut.py") 691), (.int 228 0), (.int 2 0), (.int 0 0), (.int 0 0), (.int 3 0), (.ref 348), (Value.bool true), (.int 181 0), (.ref 349), .none, (.ref 350), (.ref 351), (.ref 352), (.int 695 0), (.int 228 0), (.str (so "/claim/cut.py") 696)]) #[])
noncomputable def o354 : Obj := (Obj.mk (.type "function") none (.func (FuncData.mk (so "_law_filling") (so "_law_filling") (fPar (stAt 39)) (.stmts (fBody (stAt 39))) (fScope (stAt 39)) 3 [] .none .none .none (.str (so "law_sa0310_01") 632) none (.ref 353) .none 0)) #[])
noncomputable def o355 : Obj := (Obj.mk (.type "tuple") none (.seq #[] 0) #[])
noncomputable def o356 : Obj := (Obj.mk .none none (.fields #[]) #[])
noncomputable def o357 : Obj := (Obj.mk .none none (.func (FuncData.mk (so "_law_plain") (so "_law_plain") (fPar (stAt 40)) (.stmts (fBody (stAt 40))) (fScope (stAt 40)) 0 [] .none .none .none .none none .none .none 0)) #[])
noncomputable def o358 : Obj := (Obj.mk (.type "code") none (.fields #[(.str (so "_law_plain") 698), (.str (so "_law_plain") 699), (.str (so "/claim/cut.py") 700), (.int 237 0), (.int 1 0), (.int 0 0), (.int 0 0), (.int 3 0), (.ref 355), (Value.bool true), (.int 181 0), (.ref 356), .none, .none, .none, (.ref 357), (.int 701 0), (.int 237 0), (.str (so "/claim/cut.py") 702)]) #[])
noncomputable def o359 : Obj := (Obj.mk (.type "function") none (.func (FuncData.mk (so "_law_plain") (so "_law_plain") (fPar (stAt 40)) (.stmts (fBody (stAt 40))) (fScope (stAt 40)) 3 [] .none .none .none (.str (so "law_sa0310_01") 632) none (.ref 358) .none 0)) #[])
noncomputable def o360 : Obj := (Obj.mk (.type "tuple") none (.seq #[] 0) #[])
noncomputable def o361 : Obj := (Obj.mk .none none (.fields #[]) #[])
noncomputable def o362 : Obj := (Obj.mk (.type "tuple") none (.seq #[(.str (so "well") 707), (.str (so "found") 708), (.str (so "name") 709), (.str (so "spans") 710), (.str (so "turn") 711), (.str (so "begin") 712)] 0) #[])
noncomputable def o363 : Obj := (Obj.mk (.type "tuple") none (.seq #[] 0) #[])
noncomputable def o364 : Obj := (Obj.mk .none none (.func (FuncData.mk (so "_law_shape") (so "_law_shape") (fPar (stAt 41)) (.stmts (fBody (stAt 41))) (fScope (stAt 41)) 0 [] .none .none .none .none none .none .none 0)) #[])
noncomputable def o365 : Obj := (Obj.mk (.type "code") none (.fields #[(.str (so "_law_shape") 704), (.str (so "_law_shape") 705), (.str (so "/claim/cut.py") 706), (.int 252 0), (.int 1 0), (.int 0 0), (.int 0 0), (.int 3 0), (.ref 360), (Value.bool true), (.int 181 0), (.ref 361), .none, (.ref 362), (.ref 363), (.ref 364), (.int 713 0), (.int 252 0), (.str (so "/claim/cut.py") 714)]) #[])
noncomputable def o366 : Obj := (Obj.mk (.type "function") none (.func (FuncData.mk (so "_law_shape") (so "_law_shape") (fPar (stAt 41)) (.stmts (fBody (stAt 41))) (fScope (stAt 41)) 3 [] .none .none .none (.str (so "law_sa0310_01") 632) none (.ref 365) .none 0)) #[])
noncomputable def o367 : Obj := (Obj.mk (.type "tuple") none (.seq #[] 0) #[])
noncomputable def o368 : Obj := (Obj.mk .none none (.fields #[]) #[])
noncomputable def o369 : Obj := (Obj.mk (.type "tuple") none (.seq #[(.str (so "well") 719)] 0) #[])
noncomputable def o370 : Obj := (Obj.mk (.type "tuple") none (.seq #[] 0) #[])
noncomputable def o371 : Obj := (Obj.mk .none none (.func (FuncData.mk (so "_law_ended") (so "_law_ended") (fPar (stAt 42)) (.stmts (fBody (stAt 42))) (fScope (stAt 42)) 0 [] .none .none .none .none none .none .none 0)) #[])
noncomputable def o372 : Obj := (Obj.mk (.type "code") none (.fields #[(.str (so "_law_ended") 716), (.str (so "_law_ended") 717), (.str (so "/claim/cut.py") 718), (.int 260 0), (.int 1 0), (.int 0 0), (.int 0 0), (.int 3 0), (.ref 367), (Value.bool true), (.int 181 0), (.ref 368), .none, (.ref 369), (.ref 370), (.ref 371), (.int 720 0), (.int 260 0), (.str (so "/claim/cut.py") 721)]) #[])
noncomputable def o373 : Obj := (Obj.mk (.type "function") none (.func (FuncData.mk (so "_law_ended") (so "_law_ended") (fPar (stAt 42)) (.stmts (fBody (stAt 42))) (fScope (stAt 42)) 3 [] .none .none .none (.str (so "law_sa0310_01") 632) none (.ref 372) .none 0)) #[])
noncomputable def o374 : Obj := (Obj.mk (.type "tuple") none (.seq #[] 0) #[])
noncomputable def o375 : Obj := (Obj.mk .none none (.fields #[]) #[])
noncomputable def o376 : Obj := (Obj.mk (.type "tuple") none (.seq #[(.str (so "well") 726), (.str (so "way") 727), (.str (so "row") 728), (.str (so "shape") 729), (.str (so "name") 730), (.str (so "spans") 731), (.str (so "end") 732), (.str (so "pick") 733), (.str (so "other") 734), (.str (so "place") 735), (.str (so "own") 736), (.str (so "is_error") 737)] 0) #[])
noncomputable def o377 : Obj := (Obj.mk (.type "tuple") none (.seq #[] 0) #[])
noncomputable def o378 : Obj := (Obj.mk .none none (.func (FuncData.mk (so "_law_case") (so "_law_case") (fPar (stAt 43)) (.stmts (fBody (stAt 43))) (fScope (stAt 43)) 0 [] .none .none .none .none none .none .none 0)) #[])
noncomputable def o379 : Obj := (Obj.mk (.type "code") none (.fields #[(.str (so "_law_case") 723), (.str (so "_law_case") 724), (.str (so "/claim/cut.py") 725), (.int 262 0), (.int 1 0), (.int 0 0), (.int 0 0), (.int 3 0), (.ref 374), (Value.bool true), (.int 181 0), (.ref 375), .none, (.ref 376), (.ref 377), (.ref 378), (.int 738 0), (.int 262 0), (.str (so "/claim/cut.py") 739)]) #[])
noncomputable def o380 : Obj := (Obj.mk (.type "function") none (.func (FuncData.mk (so "_law_case") (so "_law_case") (fPar (stAt 43)) (.stmts (fBody (stAt 43))) (fScope (stAt 43)) 3 [] .none .none .none (.str (so "law_sa0310_01") 632) none (.ref 379) .none 0)) #[])
noncomputable def o381 : Obj := (Obj.mk (.type "tuple") none (.seq #[] 0) #[])
noncomputable def o382 : Obj := (Obj.mk .none none (.fields #[]) #[])
noncomputable def o383 : Obj := (Obj.mk (.type "tuple") none (.seq #[(.str (so "cursor") 744), (.str (so "line") 745), (.str (so "deep") 746), (.str (so "turn") 747)] 0) #[])
noncomputable def o384 : Obj := (Obj.mk (.type "tuple") none (.seq #[] 0) #[])
noncomputable def o385 : Obj := (Obj.mk .none none (.func (FuncData.mk (so "_law_length") (so "_law_length") (fPar (stAt 44)) (.stmts (fBody (stAt 44))) (fScope (stAt 44)) 0 [] .none .none .none .none none .none .none 0)) #[])
noncomputable def o386 : Obj := (Obj.mk (.type "code") none (.fields #[(.str (so "_law_length") 741), (.str (so "_law_length") 742), (.str (so "/claim/cut.py") 743), (.int 287 0), (.int 1 0), (.int 0 0), (.int 0 0), (.int 3 0), (.ref 381), (Value.bool true), (.int 181 0), (.ref 382), .none, (.ref 383), (.ref 384), (.ref 385), (.int 748 0), (.int 287 0), (.str (so "/claim/cut.py") 749)]) #[])
noncomputable def o387 : Obj := (Obj.mk (.type "function") none (.func (FuncData.mk (so "_law_length") (so "_law_length") (fPar (stAt 44)) (.stmts (fBody (stAt 44))) (fScope (stAt 44)) 3 [] .none .none .none (.str (so "law_sa0310_01") 632) none (.ref 386) .none 0)) #[])
noncomputable def o388 : Obj := (Obj.mk (.type "tuple") none (.seq #[] 0) #[])
noncomputable def o389 : Obj := (Obj.mk .none none (.fields #[]) #[])
noncomputable def o390 : Obj := (Obj.mk (.type "tuple") none (.seq #[(.str (so "cursor") 754), (.str (so "far") 755), (.str (so "end") 756), (.str (so "spans") 757), (.str (so "due") 758), (.str (so "turn") 759), (.str (so "begin") 760), (.str (so "part") 761)] 0) #[])
noncomputable def o391 : Obj := (Obj.mk (.type "tuple") none (.seq #[] 0) #[])
noncomputable def o392 : Obj := (Obj.mk .none none (.func (FuncData.mk (so "_law_is_read") (so "_law_is_read") (fPar (stAt 45)) (.stmts (fBody (stAt 45))) (fScope (stAt 45)) 0 [] .none .none .none .none none .none .none 0)) #[])
noncomputable def o393 : Obj := (Obj.mk (.type "code") none (.fields #[(.str (so "_law_is_read") 751), (.str (so "_law_is_read") 752), (.str (so "/claim/cut.py") 753), (.int 295 0), (.int 5 0), (.int 0 0), (.int 0 0), (.int 3 0), (.ref 388), (Value.bool true), (.int 181 0), (.ref 389), .none, (.ref 390), (.ref 391), (.ref 392), (.int 762 0), (.int 295 0), (.str (so "/claim/cut.py") 763)]) #[])
noncomputable def o394 : Obj := (Obj.mk (.type "function") none (.func (FuncData.mk (so "_law_is_read") (so "_law_is_read") (fPar (stAt 45)) (.stmts (fBody (stAt 45))) (fScope (stAt 45)) 3 [] .none .none .none (.str (so "law_sa0310_01") 632) none (.ref 393) .none 0)) #[])
noncomputable def o395 : Obj := (Obj.mk (.type "tuple") none (.seq #[] 0) #[])
noncomputable def o396 : Obj := (Obj.mk .none none (.fields #[]) #[])
noncomputable def o397 : Obj := (Obj.mk .none none (.func (FuncData.mk (so "law") (so "law") (fPar (stAt 46)) (.stmts (fBody (stAt 46))) (fScope (stAt 46)) 0 [] .none .none .none .none none .none .none 0)) #[])
noncomputable def o398 : Obj := (Obj.mk (.type "code") none (.fields #[(.str (so "law") 765), (.str (so "law") 766), (.str (so "/claim/cut.py") 767), (.int 309 0), (.int 1 0), (.int 0 0), (.int 0 0), (.int 3 0), (.ref 395), (Value.bool true), (.int 181 0), (.ref 396), .none, .none, .none, (.ref 397), (.int 768 0), (.int 309 0), (.str (so "/claim/cut.py") 769)]) #[])
noncomputable def o399 : Obj := (Obj.mk (.type "function") none (.func (FuncData.mk (so "law") (so "law") (fPar (stAt 46)) (.stmts (fBody (stAt 46))) (fScope (stAt 46)) 3 [] .none .none .none (.str (so "law_sa0310_01") 632) none (.ref 398) .none 0)) #[])
noncomputable def o12v1 : Obj := (Obj.mk .none none (.fields #[]) #[])
noncomputable def o3v1 (P : Params) : Obj := (Obj.mk (.type "dict") none (.dict #[(de P (so "__name__") (.str (so "__name__") 165) (.str (so "gasledger.sol_syntax") 320)), (de P (so "__doc__") (.str (so "__doc__") 166) .none), (de P (so "__package__") (.str (so "__package__") 167) .none), (de P (so "__loader__") (.str (so "__loader__") 168) (.builtin "__main__.__loader__#opaque")), (de P (so "__spec__") (.str (so "__spec__") 169) .none), (de P (so "__annotations__") (.str (so "__annotations__") 170) (.ref 6)), (de P (so "__builtins__") (.str (so "__builtins__") 171) (.ref 4)), (de P (so "__file__") (.str (so "__file__") 173) (.str (so "/claim/cut.py") 172)), (de P (so "__cached__") (.str (so "__cached__") 174) .none), (de P (so "_wall") (.str (so "_wall") 193) (.ref 21)), (de P (so "MachineFault") (.str (so "MachineFault") 224) (.ref 38)), (de P (so "LineFault") (.str (so "LineFault") 250) (.ref 58)), (de P (so "SourceFault") (.str (so "SourceFault") 266) (.ref 70)), (de P (so "DIGITS") (.str (so "DIGITS") 270) (.str (so "0123456789") 269)), (de P (so "Token") (.str (so "Token") 305) (.ref 89)), (de P (so "number_in") (.str (so "number_in") 311) (.ref 98)), (de P (so "elementary") (.str (so "elementary") 319) (.ref 105)), (de P (so "MOST_HEIGHT") (.str (so "MOST_HEIGHT") 323) (.int 120 322)), (de P (so "EXPRESSIONS") (.str (so "EXPRESSIONS") 343) (.ref 106))] 19) #[])
noncomputable def o12v2 : Obj := (Obj.mk .none none (.fields #[(.int 1 0), (.int 0 0), (.ref 20), (.int 5 0), (.int 0 0), (.ref 27), (.int 10 0), (.int 0 0), (.ref 47), (.int 15 0), (.int 0 0), (.ref 66), (.int 19 0), (.int 0 0), (.ref 78), (.int 26 0), (.int 0 0), (.ref 97), (.int 31 0), (.int 0 0), (.ref 104)]) #[])
noncomputable def o3v2 (P : Params) : Obj := (Obj.mk (.type "dict") none (.dict #[(de P (so "__name__") (.str (so "__name__") 165) (.str (so "gasledger.sol_cursor") 496)), (de P (so "__doc__") (.str (so "__doc__") 166) .none), (de P (so "__package__") (.str (so "__package__") 167) .none), (de P (so "__loader__") (.str (so "__loader__") 168) (.builtin "__main__.__loader__#opaque")), (de P (so "__spec__") (.str (so "__spec__") 169) .none), (de P (so "__annotations__") (.str (so "__annotations__") 170) (.ref 6)), (de P (so "__builtins__") (.str (so "__builtins__") 171) (.ref 4)), (de P (so "__file__") (.str (so "__file__") 173) (.str (so "/claim/cut.py") 172)), (de P (so "__cached__") (.str (so "__cached__") 174) .none), (de P (so "_wall") (.str (so "_wall") 193) (.ref 21)), (de P (so "MachineFault") (.str (so "MachineFault") 224) (.ref 38)), (de P (so "LineFault") (.str (so "LineFault") 250) (.ref 58)), (de P (so "SourceFault") (.str (so "SourceFault") 266) (.ref 70)), (de P (so "DIGITS") (.str (so "DIGITS") 270) (.str (so "0123456789") 269)), (de P (so "Token") (.str (so "Token") 305) (.ref 89)), (de P (so "number_in") (.str (so "number_in") 311) (.ref 98)), (de P (so "elementary") (.str (so "elementary") 319) (.ref 105)), (de P (so "MOST_HEIGHT") (.str (so "MOST_HEIGHT") 323) (.int 120 322)), (de P (so "EXPRESSIONS") (.str (so "EXPRESSIONS") 343) (.ref 106)), (de P (so "Syn") (.str (so "Syn") 382) (.ref 123)), (de P (so "high_row") (.str (so "high_row") 388) (.ref 132)), (de P (so "PLACES") (.str (so "PLACES") 394) (.ref 133)), (de P (so "DEEPEST") (.str (so "DEEPEST") 396) (.int 25 395)), (de P (so "is_elementary") (.str (so "is_elementary") 405) (.ref 140)), (de P (so "read_path") (.str (so "read_path") 414) (.ref 147)), (de P (so "read_named") (.str (so "read_named") 424) (.ref 154)), (de P (so "skip_name") (.str (so "skip_name") 431) (.ref 161)), (de P (so "read_mapping") (.str (so "read_mapping") 443) (.ref 168)), (de P (so "type_at") (.str (so "type_at") 455) (.ref 175)), (de P (so "read_type") (.str (so "read_type") 463) (.ref 182)), (de P (so "read_place") (.str (so "read_place") 471) (.ref 189)), (de P (so "end_of_brackets") (.str (so "end_of_brackets") 480) (.ref 196)), (de P (so "end_of_type") (.str (so "end_of_type") 489) (.ref 203)), (de P (so "begins_local") (.str (so "begins_local") 495) (.ref 208)), (de P (so "WORDS") (.str (so "WORDS") 501) (.ref 209)), (de P (so "MOST_NESTED") (.str (so "MOST_NESTED") 503) (.int 80 502))] 36) #[])
noncomputable def o12v3 : Obj := (Obj.mk .none none (.fields #[(.int 1 0), (.int 0 0), (.ref 20), (.int 5 0), (.int 0 0), (.ref 27), (.int 10 0), (.int 0 0), (.ref 47), (.int 15 0), (.int 0 0), (.ref 66), (.int 19 0), (.int 0 0), (.ref 78), (.int 26 0), (.int 0 0), (.ref 97), (.int 31 0), (.int 0 0), (.ref 104), (.int 43 0), (.int 0 0), (.ref 112), (.int 57 0), (.int 0 0), (.ref 131), (.int 67 0), (.int 0 0), (.ref 139), (.int 70 0), (.int 0 0), (.ref 146), (.int 75 0), (.int 0 0), (.ref 153), (.int 82 0), (.int 0 0), (.ref 160), (.int 85 0), (.int 0 0), (.ref 167), (.int 98 0), (.int 0 0), (.ref 174), (.int 113 0), (.int 0 0), (.ref 181), (.int 115 0), (.int 0 0), (.ref 188), (.int 120 0), (.int 0 0), (.ref 195), (.int 133 0), (.int 0 0), (.ref 202), (.int 146 0), (.int 0 0), (.ref 207)]) #[])
noncomputable def o3v3 (P : Params) : Obj := (Obj.mk (.type "dict") none (.dict #[(de P (so "__name__") (.str (so "__name__") 165) (.str (so "gasledger.sol_cursor") 496)), (de P (so "__doc__") (.str (so "__doc__") 166) .none), (de P (so "__package__") (.str (so "__package__") 167) .none), (de P (so "__loader__") (.str (so "__loader__") 168) (.builtin "__main__.__loader__#opaque")), (de P (so "__spec__") (.str (so "__spec__") 169) .none), (de P (so "__annotations__") (.str (so "__annotations__") 170) (.ref 6)), (de P (so "__builtins__") (.str (so "__builtins__") 171) (.ref 4)), (de P (so "__file__") (.str (so "__file__") 173) (.str (so "/claim/cut.py") 172)), (de P (so "__cached__") (.str (so "__cached__") 174) .none), (de P (so "_wall") (.str (so "_wall") 193) (.ref 21)), (de P (so "MachineFault") (.str (so "MachineFault") 224) (.ref 38)), (de P (so "LineFault") (.str (so "LineFault") 250) (.ref 58)), (de P (so "SourceFault") (.str (so "SourceFault") 266) (.ref 70)), (de P (so "DIGITS") (.str (so "DIGITS") 270) (.str (so "0123456789") 269)), (de P (so "Token") (.str (so "Token") 305) (.ref 89)), (de P (so "number_in") (.str (so "number_in") 311) (.ref 98)), (de P (so "elementary") (.str (so "elementary") 319) (.ref 105)), (de P (so "MOST_HEIGHT") (.str (so "MOST_HEIGHT") 323) (.int 120 322)), (de P (so "EXPRESSIONS") (.str (so "EXPRESSIONS") 343) (.ref 106)), (de P (so "Syn") (.str (so "Syn") 382) (.ref 123)), (de P (so "high_row") (.str (so "high_row") 388) (.ref 132)), (de P (so "PLACES") (.str (so "PLACES") 394) (.ref 133)), (de P (so "DEEPEST") (.str (so "DEEPEST") 396) (.int 25 395)), (de P (so "is_elementary") (.str (so "is_elementary") 405) (.ref 140)), (de P (so "read_path") (.str (so "read_path") 414) (.ref 147)), (de P (so "read_named") (.str (so "read_named") 424) (.ref 154)), (de P (so "skip_name") (.str (so "skip_name") 431) (.ref 161)), (de P (so "read_mapping") (.str (so "read_mapping") 443) (.ref 168)), (de P (so "type_at") (.str (so "type_at") 455) (.ref 175)), (de P (so "read_type") (.str (so "read_type") 463) (.ref 182)), (de P (so "read_place") (.str (so "read_place") 471) (.ref 189)), (de P (so "end_of_brackets") (.str (so "end_of_brackets") 480) (.ref 196)), (de P (so "end_of_type") (.str (so "end_of_type") 489) (.ref 203)), (de P (so "begins_local") (.str (so "begins_local") 495) (.ref 208)), (de P (so "WORDS") (.str (so "WORDS") 501) (.ref 209)), (de P (so "MOST_NESTED") (.str (so "MOST_NESTED") 503) (.int 80 502)), (de P (so "Cursor") (.str (so "Cursor") 631) (.ref 311))] 37) #[])
noncomputable def o12v4 : Obj := (Obj.mk .none none (.fields #[(.int 1 0), (.int 0 0), (.ref 20), (.int 5 0), (.int 0 0), (.ref 27), (.int 10 0), (.int 0 0), (.ref 47), (.int 15 0), (.int 0 0), (.ref 66), (.int 19 0), (.int 0 0), (.ref 78), (.int 26 0), (.int 0 0), (.ref 97), (.int 31 0), (.int 0 0), (.ref 104), (.int 43 0), (.int 0 0), (.ref 112), (.int 57 0), (.int 0 0), (.ref 131), (.int 67 0), (.int 0 0), (.ref 139), (.int 70 0), (.int 0 0), (.ref 146), (.int 75 0), (.int 0 0), (.ref 153), (.int 82 0), (.int 0 0), (.ref 160), (.int 85 0), (.int 0 0), (.ref 167), (.int 98 0), (.int 0 0), (.ref 174), (.int 113 0), (.int 0 0), (.ref 181), (.int 115 0), (.int 0 0), (.ref 188), (.int 120 0), (.int 0 0), (.ref 195), (.int 133 0), (.int 0 0), (.ref 202), (.int 146 0), (.int 0 0), (.ref 207), (.int 156 0), (.int 0 0), (.ref 215)]) #[])
noncomputable def myK (P : Params) : Frag := [(3, (o3 P)), (85, o85), (86, o86), (88, (o88 P)), (89, o89), (97, o97), (98, o98), (104, o104), (105, o105), (119, o119), (120, o120), (122, (o122 P)), (123, o123), (133, o133), (139, o139), (140, o140), (146, o146), (147, o147), (153, o153), (154, o154), (174, o174), (175, o175), (181, o181), (182, o182), (188, o188), (189, o189), (195, o195), (196, o196), (202, o202), (203, o203), (207, o207), (208, o208), (209, o209), (222, o222), (223, o223), (224, o224), (230, o230), (231, o231), (237, o237), (238, o238), (244, o244), (245, o245), (251, o251), (252, o252), (258, o258), (259, o259), (265, o265), (266, o266), (272, o272), (273, o273), (279, o279), (280, o280), (293, o293), (294, o294), (300, o300), (301, o301), (310, (o310 P)), (311, o311), (316, o316), (317, o317), (318, o318), (319, o319), (320, o320), (321, o321), (322, o322), (323, o323), (324, o324), (325, o325), (326, o326), (327, o327), (328, o328), (332, o332), (333, o333), (339, o339), (340, o340), (346, o346), (347, o347), (353, o353), (354, o354), (358, o358), (359, o359), (365, o365), (366, o366), (372, o372), (373, o373), (379, o379), (380, o380), (386, o386), (387, o387), (393, o393), (394, o394)]
noncomputable def myAt : List Addr := [3, 85, 86, 88, 89, 97, 98, 104, 105, 119, 120, 122, 123, 133, 139, 140, 146, 147, 153, 154, 174, 175, 181, 182, 188, 189, 195, 196, 202, 203, 207, 208, 209, 222, 223, 224, 230, 231, 237, 238, 244, 245, 251, 252, 258, 259, 265, 266, 272, 273, 279, 280, 293, 294, 300, 301, 310, 311, 316, 317, 318, 319, 320, 321, 322, 323, 324, 325, 326, 327, 328, 332, 333, 339, 340, 346, 347, 353, 354, 358, 359, 365, 366, 372, 373, 379, 380, 386, 387, 393, 394]
theorem myAt_eq (P : Params) : myAt = (myK P).map (·.1) := rfl
/-- the statements that the head keeps -/
noncomputable def qv : Program := view PySem.Challenge.pw_sa0310_01 [0, 2, 3, 4, 6, 7, 8, 9, 11, 12, 13, 14, 16, 17, 18, 19, 20, 21, 22, 23, 24, 25, 26, 27, 28, 30, 31, 32, 34, 35, 36, 37, 38, 39, 40, 41, 42, 43, 44, 45, 46]
noncomputable abbrev pw : Program := PySem.Challenge.pw_sa0310_01
noncomputable def life0 : Life := (Life.mk [] [] [] 0 [] [] false #[] [] 0 false false false 0 [2000, 10, 10] false 0 true [] [] 0 false)
noncomputable def ann0 : Option Value := (some (.ref 6))
noncomputable def env0 : Env := { scope := pw.main.scope, locals := mainNs, globals := mainNs, cells := [], code := (.ref 13), frame := some 14 }
noncomputable def bE : List Stmt := behindTheImports pw
noncomputable def cE : Code := .body bE env0
noncomputable def q0 : Pos := (Pos.mk 0 0 0 0)
noncomputable def t0 (P : Params) : BT := (.node (boot_o_0 P) (.node (boot_o_1 P) (.node (boot_o_3 P) (.node (boot_o_7 P) .nil .nil) (.node o11 .nil .nil)) (.node (boot_o_5 P) (.node (boot_o_9 P) .nil .nil) (.node o13 .nil .nil))) (.node (boot_o_2 P) (.node (boot_o_4 P) (.node (boot_o_8 P) .nil .nil) (.node o12v1 .nil .nil)) (.node (boot_o_6 P) (.node (boot_o_10 P) .nil .nil) (.node o14 .nil .nil))))
noncomputable def S0 (w : World) (os : OsState) : SharedT := ⟨t0 w.params, 15, life0, #[], boot_drawn, 187, os⟩
noncomputable def p0 : Pos := (Pos.mk 0 0 0 0)
noncomputable def t1 (P : Params) : BT := (.node (boot_o_0 P) (.node (boot_o_1 P) (.node (o3v1 P) (.node (boot_o_7 P) (.node o15 (.node o31 (.node (o63 P) .nil .nil) (.node o95 .nil .nil)) (.node o47 (.node o79 .nil .nil) .nil)) (.node o23 (.node o39 (.node o71 .nil .nil) (.node o103 .nil .nil)) (.node o55 (.node o87 .nil .nil) .nil))) (.node o11 (.node o19 (.node o35 (.node o67 .nil .nil) (.node o99 .nil .nil)) (.node o51 (.node o83 .nil .nil) .nil)) (.node o27 (.node o43 (.node (o75 P) .nil .nil) .nil) (.node o59 (.node o91 .nil .nil) .nil)))) (.node (boot_o_5 P) (.node (boot_o_9 P) (.node o17 (.node o33 (.node o65 .nil .nil) (.node o97 .nil .nil)) (.node o49 (.node o81 .nil .nil) .nil)) (.node o25 (.node o41 (.node o73 .nil .nil) (.node o105 .nil .nil)) (.node (o57 P) (.node o89 .nil .nil) .nil))) (.node o13 (.node o21 (.node (o37 P) (.node (o69 P) .nil .nil) (.node o101 .nil .nil)) (.node o53 (.node o85 .nil .nil) .nil)) (.node o29 (.node o45 (.node o77 .nil .nil) .nil) (.node o61 (.node o93 .nil .nil) .nil))))) (.node (o2 P) (.node (boot_o_4 P) (.node (boot_o_8 P) (.node o16 (.node o32 (.node o64 .nil .nil) (.node o96 .nil .nil)) (.node o48 (.node o80 .nil .nil) .nil)) (.node (o24 P) (.node o40 (.node o72 .nil .nil) (.node o104 .nil .nil)) (.node o56 (.node (o88 P) .nil .nil) .nil))) (.node o12v2 (.node o20 (.node o36 (.node o68 .nil .nil) (.node o100 .nil .nil)) (.node o52 (.node o84 .nil .nil) .nil)) (.node o28 (.node (o44 P) (.node o76 .nil .nil) .nil) (.node o60 (.node o92 .nil .nil) .nil)))) (.node (boot_o_6 P) (.node (boot_o_10 P) (.node o18 (.node o34 (.node o66 .nil .nil) (.node o98 .nil .nil)) (.node o50 (.node o82 .nil .nil) .nil)) (.node o26 (.node o42 (.node o74 .nil .nil) (.node o106 .nil .nil)) (.node o58 (.node o90 .nil .nil) .nil))) (.node o14 (.node o22 (.node o38 (.node o70 .nil .nil) (.node o102 .nil .nil)) (.node o54 (.node o86 .nil .nil) .nil)) (.node o30 (.node o46 (.node o78 .nil .nil) .nil) (.node o62 (.node o94 .nil .nil) .nil))))))
noncomputable def S1 (w : World) (os : OsState) : SharedT := ⟨t1 w.params, 107, life0, #[], boot_drawn, 344, os⟩
noncomputable def p1 : Pos := (Pos.mk 42 0 42 11)
noncomputable def t2 (P : Params) : BT := (.node (boot_o_0 P) (.node (boot_o_1 P) (.node (o3v2 P) (.node (boot_o_7 P) (.node o15 (.node o31 (.node (o63 P) (.node o127 .nil .nil) (.node o191 .nil .nil)) (.node o95 (.node o159 .nil .nil) .nil)) (.node o47 (.node o79 (.node o143 .nil .nil) (.node o207 .nil .nil)) (.node o111 (.node o175 .nil .nil) .nil))) (.node o23 (.node o39 (.node o71 (.node o135 .nil .nil) (.node o199 .nil .nil)) (.node o103 (.node o167 .nil .nil) .nil)) (.node o55 (.node o87 (.node o151 .nil .nil) .nil) (.node o119 (.node o183 .nil .nil) .nil)))) (.node o11 (.node o19 (.node o35 (.node o67 (.node o131 .nil .nil) (.node o195 .nil .nil)) (.node o99 (.node o163 .nil .nil) .nil)) (.node o51 (.node o83 (.node o147 .nil .nil) .nil) (.node o115 (.node o179 .nil .nil) .nil))) (.node o27 (.node o43 (.node (o75 P) (.node o139 .nil .nil) (.node o203 .nil .nil)) (.node o107 (.node o171 .nil .nil) .nil)) (.node o59 (.node o91 (.node o155 .nil .nil) .nil) (.node o123 (.node o187 .nil .nil) .nil))))) (.node (boot_o_5 P) (.node (boot_o_9 P) (.node o17 (.node o33 (.node o65 (.node o129 .nil .nil) (.node o193 .nil .nil)) (.node o97 (.node o161 .nil .nil) .nil)) (.node o49 (.node o81 (.node o145 .nil .nil) (.node o209 .nil .nil)) (.node o113 (.node o177 .nil .nil) .nil))) (.node o25 (.node o41 (.node o73 (.node o137 .nil .nil) (.node o201 .nil .nil)) (.node o105 (.node o169 .nil .nil) .nil)) (.node (o57 P) (.node o89 (.node o153 .nil .nil) .nil) (.node o121 (.node o185 .nil .nil) .nil)))) (.node o13 (.node o21 (.node (o37 P) (.node (o69 P) (.node o133 .nil .nil) (.node o197 .nil .nil)) (.node o101 (.node o165 .nil .nil) .nil)) (.node o53 (.node o85 (.node o149 .nil .nil) .nil) (.node o117 (.node o181 .nil .nil) .nil))) (.node o29 (.node o45 (.node o77 (.node o141 .nil .nil) (.node o205 .nil .nil)) (.node (o109 P) (.node o173 .nil .nil) .nil)) (.node o61 (.node o93 (.node o157 .nil .nil) .nil) (.node o125 (.node o189 .nil .nil) .nil)))))) (.node (o2 P) (.node (boot_o_4 P) (.node (boot_o_8 P) (.node o16 (.node o32 (.node o64 (.node o128 .nil .nil) (.node o192 .nil .nil)) (.node o96 (.node o160 .nil .nil) .nil)) (.node o48 (.node o80 (.node o144 .nil .nil) (.node o208 .nil .nil)) (.node o112 (.node o176 .nil .nil) .nil))) (.node (o24 P) (.node o40 (.node o72 (.node o136 .nil .nil) (.node o200 .nil .nil)) (.node o104 (.node o168 .nil .nil) .nil)) (.node o56 (.node (o88 P) (.node o152 .nil .nil) .nil) (.node o120 (.node o184 .nil .nil) .nil)))) (.node o12v3 (.node o20 (.node o36 (.node o68 (.node o132 .nil .nil) (.node o196 .nil .nil)) (.node o100 (.node o164 .nil .nil) .nil)) (.node o52 (.node o84 (.node o148 .nil .nil) .nil) (.node o116 (.node o180 .nil .nil) .nil))) (.node o28 (.node (o44 P) (.node o76 (.node o140 .nil .nil) (.node o204 .nil .nil)) (.node o108 (.node o172 .nil .nil) .nil)) (.node o60 (.node o92 (.node o156 .nil .nil) .nil) (.node o124 (.node o188 .nil .nil) .nil))))) (.node (boot_o_6 P) (.node (boot_o_10 P) (.node o18 (.node o34 (.node o66 (.node o130 .nil .nil) (.node o194 .nil .nil)) (.node o98 (.node o162 .nil .nil) .nil)) (.node o50 (.node o82 (.node o146 .nil .nil) .nil) (.node o114 (.node o178 .nil .nil) .nil))) (.node o26 (.node o42 (.node o74 (.node o138 .nil .nil) (.node o202 .nil .nil)) (.node o106 (.node o170 .nil .nil) .nil)) (.node o58 (.node o90 (.node o154 .nil .nil) .nil) (.node (o122 P) (.node o186 .nil .nil) .nil)))) (.node o14 (.node o22 (.node o38 (.node o70 (.node o134 .nil .nil) (.node o198 .nil .nil)) (.node o102 (.node o166 .nil .nil) .nil)) (.node o54 (.node o86 (.node o150 .nil .nil) .nil) (.node o118 (.node o182 .nil .nil) .nil))) (.node o30 (.node o46 (.node o78 (.node o142 .nil .nil) (.node o206 .nil .nil)) (.node o110 (.node o174 .nil .nil) .nil)) (.node o62 (.node o94 (.node o158 .nil .nil) .nil) (.node o126 (.node o190 .nil .nil) .nil)))))))
noncomputable def S2 (w : World) (os : OsState) : SharedT := ⟨t2 w.params, 210, life0, #[], boot_drawn, 504, os⟩
noncomputable def p2 : Pos := (Pos.mk 155 0 155 11)
noncomputable def t3 (P : Params) : BT := (.node (boot_o_0 P) (.node (boot_o_1 P) (.node (o3v3 P) (.node (boot_o_7 P) (.node o15 (.node o31 (.node (o63 P) (.node o127 (.node o255 .nil .nil) .nil) (.node o191 .nil .nil)) (.node o95 (.node o159 (.node o287 .nil .nil) .nil) (.node o223 .nil .nil))) (.node o47 (.node o79 (.node o143 (.node o271 .nil .nil) .nil) (.node o207 .nil .nil)) (.node o111 (.node o175 (.node o303 .nil .nil) .nil) (.node o239 .nil .nil)))) (.node o23 (.node o39 (.node o71 (.node o135 (.node o263 .nil .nil) .nil) (.node o199 .nil .nil)) (.node o103 (.node o167 (.node o295 .nil .nil) .nil) (.node o231 .nil .nil))) (.node o55 (.node o87 (.node o151 (.node o279 .nil .nil) .nil) (.node o215 .nil .nil)) (.node o119 (.node o183 (.node o311 .nil .nil) .nil) (.node o247 .nil .nil))))) (.node o11 (.node o19 (.node o35 (.node o67 (.node o131 (.node o259 .nil .nil) .nil) (.node o195 .nil .nil)) (.node o99 (.node o163 (.node o291 .nil .nil) .nil) (.node o227 .nil .nil))) (.node o51 (.node o83 (.node o147 (.node o275 .nil .nil) .nil) (.node o211 .nil .nil)) (.node o115 (.node o179 (.node o307 .nil .nil) .nil) (.node o243 .nil .nil)))) (.node o27 (.node o43 (.node (o75 P) (.node o139 (.node o267 .nil .nil) .nil) (.node o203 .nil .nil)) (.node o107 (.node o171 (.node o299 .nil .nil) .nil) (.node o235 .nil .nil))) (.node o59 (.node o91 (.node o155 (.node o283 .nil .nil) .nil) (.node o219 .nil .nil)) (.node o123 (.node o187 (.node o315 .nil .nil) .nil) (.node o251 .nil .nil)))))) (.node (boot_o_5 P) (.node (boot_o_9 P) (.node o17 (.node o33 (.node o65 (.node o129 (.node o257 .nil .nil) .nil) (.node o193 .nil .nil)) (.node o97 (.node o161 (.node o289 .nil .nil) .nil) (.node o225 .nil .nil))) (.node o49 (.node o81 (.node o145 (.node o273 .nil .nil) .nil) (.node o209 .nil .nil)) (.node o113 (.node o177 (.node o305 .nil .nil) .nil) (.node o241 .nil .nil)))) (.node o25 (.node o41 (.node o73 (.node o137 (.node o265 .nil .nil) .nil) (.node o201 .nil .nil)) (.node o105 (.node o169 (.node o297 .nil .nil) .nil) (.node o233 .nil .nil))) (.node (o57 P) (.node o89 (.node o153 (.node o281 .nil .nil) .nil) (.node o217 .nil .nil)) (.node o121 (.node o185 (.node o313 .nil .nil) .nil) (.node o249 .nil .nil))))) (.node o13 (.node o21 (.node (o37 P) (.node (o69 P) (.node o133 (.node o261 .nil .nil) .nil) (.node o197 .nil .nil)) (.node o101 (.node o165 (.node o293 .nil .nil) .nil) (.node o229 .nil .nil))) (.node o53 (.node o85 (.node o149 (.node o277 .nil .nil) .nil) (.node o213 .nil .nil)) (.node o117 (.node o181 (.node o309 .nil .nil) .nil) (.node o245 .nil .nil)))) (.node o29 (.node o45 (.node o77 (.node o141 (.node o269 .nil .nil) .nil) (.node o205 .nil .nil)) (.node (o109 P) (.node o173 (.node o301 .nil .nil) .nil) (.node o237 .nil .nil))) (.node o61 (.node o93 (.node o157 (.node o285 .nil .nil) .nil) (.node o221 .nil .nil)) (.node o125 (.node o189 .nil .nil) (.node o253 .nil .nil))))))) (.node (o2 P) (.node (boot_o_4 P) (.node (boot_o_8 P) (.node o16 (.node o32 (.node o64 (.node o128 (.node o256 .nil .nil) .nil) (.node o192 .nil .nil)) (.node o96 (.node o160 (.node o288 .nil .nil) .nil) (.node o224 .nil .nil))) (.node o48 (.node o80 (.node o144 (.node o272 .nil .nil) .nil) (.node o208 .nil .nil)) (.node o112 (.node o176 (.node o304 .nil .nil) .nil) (.node o240 .nil .nil)))) (.node (o24 P) (.node o40 (.node o72 (.node o136 (.node o264 .nil .nil) .nil) (.node o200 .nil .nil)) (.node o104 (.node o168 (.node o296 .nil .nil) .nil) (.node o232 .nil .nil))) (.node o56 (.node (o88 P) (.node o152 (.node o280 .nil .nil) .nil) (.node o216 .nil .nil)) (.node o120 (.node o184 (.node o312 .nil .nil) .nil) (.node o248 .nil .nil))))) (.node o12v4 (.node o20 (.node o36 (.node o68 (.node o132 (.node o260 .nil .nil) .nil) (.node o196 .nil .nil)) (.node o100 (.node o164 (.node o292 .nil .nil) .nil) (.node o228 .nil .nil))) (.node o52 (.node o84 (.node o148 (.node o276 .nil .nil) .nil) (.node (o212 P) .nil .nil)) (.node o116 (.node o180 (.node o308 .nil .nil) .nil) (.node o244 .nil .nil)))) (.node o28 (.node (o44 P) (.node o76 (.node o140 (.node o268 .nil .nil) .nil) (.node o204 .nil .nil)) (.node o108 (.node o172 (.node o300 .nil .nil) .nil) (.node o236 .nil .nil))) (.node o60 (.node o92 (.node o156 (.node o284 .nil .nil) .nil) (.node o220 .nil .nil)) (.node o124 (.node o188 .nil .nil) (.node o252 .nil .nil)))))) (.node (boot_o_6 P) (.node (boot_o_10 P) (.node o18 (.node o34 (.node o66 (.node o130 (.node o258 .nil .nil) .nil) (.node o194 .nil .nil)) (.node o98 (.node o162 (.node o290 .nil .nil) .nil) (.node o226 .nil .nil))) (.node o50 (.node o82 (.node o146 (.node o274 .nil .nil) .nil) (.node o210 .nil .nil)) (.node o114 (.node o178 (.node o306 .nil .nil) .nil) (.node o242 .nil .nil)))) (.node o26 (.node o42 (.node o74 (.node o138 (.node o266 .nil .nil) .nil) (.node o202 .nil .nil)) (.node o106 (.node o170 (.node o298 .nil .nil) .nil) (.node o234 .nil .nil))) (.node o58 (.node o90 (.node o154 (.node o282 .nil .nil) .nil) (.node o218 .nil .nil)) (.node (o122 P) (.node o186 (.node o314 .nil .nil) .nil) (.node o250 .nil .nil))))) (.node o14 (.node o22 (.node o38 (.node o70 (.node o134 (.node o262 .nil .nil) .nil) (.node o198 .nil .nil)) (.node o102 (.node o166 (.node o294 .nil .nil) .nil) (.node o230 .nil .nil))) (.node o54 (.node o86 (.node o150 (.node o278 .nil .nil) .nil) (.node o214 .nil .nil)) (.node o118 (.node o182 (.node (o310 P) .nil .nil) .nil) (.node o246 .nil .nil)))) (.node o30 (.node o46 (.node o78 (.node o142 (.node o270 .nil .nil) .nil) (.node o206 .nil .nil)) (.node o110 (.node o174 (.node o302 .nil .nil) .nil) (.node o238 .nil .nil))) (.node o62 (.node o94 (.node o158 (.node o286 .nil .nil) .nil) (.node o222 .nil .nil)) (.node o126 (.node o190 .nil .nil) (.node o254 .nil .nil))))))))
noncomputable def S3 (w : World) (os : OsState) : SharedT := ⟨t3 w.params, 316, life0, #[], boot_drawn, 632, os⟩
noncomputable def p3 : Pos := (Pos.mk 156 0 212 44)
noncomputable def t4 (P : Params) : BT := (.node (boot_o_0 P) (.node (boot_o_1 P) (.node (o3 P) (.node (boot_o_7 P) (.node o15 (.node o31 (.node (o63 P) (.node o127 (.node o255 .nil .nil) (.node o383 .nil .nil)) (.node o191 (.node o319 .nil .nil) .nil)) (.node o95 (.node o159 (.node o287 .nil .nil) .nil) (.node o223 (.node o351 .nil .nil) .nil))) (.node o47 (.node o79 (.node o143 (.node o271 .nil .nil) (.node o399 .nil .nil)) (.node o207 (.node o335 .nil .nil) .nil)) (.node o111 (.node o175 (.node o303 .nil .nil) .nil) (.node o239 (.node o367 .nil .nil) .nil)))) (.node o23 (.node o39 (.node o71 (.node o135 (.node o263 .nil .nil) (.node o391 .nil .nil)) (.node o199 (.node o327 .nil .nil) .nil)) (.node o103 (.node o167 (.node o295 .nil .nil) .nil) (.node o231 (.node o359 .nil .nil) .nil))) (.node o55 (.node o87 (.node o151 (.node o279 .nil .nil) .nil) (.node o215 (.node o343 .nil .nil) .nil)) (.node o119 (.node o183 (.node o311 .nil .nil) .nil) (.node o247 (.node o375 .nil .nil) .nil))))) (.node o11 (.node o19 (.node o35 (.node o67 (.node o131 (.node o259 .nil .nil) (.node o387 .nil .nil)) (.node o195 (.node o323 .nil .nil) .nil)) (.node o99 (.node o163 (.node o291 .nil .nil) .nil) (.node o227 (.node o355 .nil .nil) .nil))) (.node o51 (.node o83 (.node o147 (.node o275 .nil .nil) .nil) (.node o211 (.node o339 .nil .nil) .nil)) (.node o115 (.node o179 (.node o307 .nil .nil) .nil) (.node o243 (.node o371 .nil .nil) .nil)))) (.node o27 (.node o43 (.node (o75 P) (.node o139 (.node o267 .nil .nil) (.node o395 .nil .nil)) (.node o203 (.node o331 .nil .nil) .nil)) (.node o107 (.node o171 (.node o299 .nil .nil) .nil) (.node o235 (.node o363 .nil .nil) .nil))) (.node o59 (.node o91 (.node o155 (.node o283 .nil .nil) .nil) (.node o219 (.node o347 .nil .nil) .nil)) (.node o123 (.node o187 (.node o315 .nil .nil) .nil) (.node o251 (.node o379 .nil .nil) .nil)))))) (.node (boot_o_5 P) (.node (boot_o_9 P) (.node o17 (.node o33 (.node o65 (.node o129 (.node o257 .nil .nil) (.node o385 .nil .nil)) (.node o193 (.node o321 .nil .nil) .nil)) (.node o97 (.node o161 (.node o289 .nil .nil) .nil) (.node o225 (.node o353 .nil .nil) .nil))) (.node o49 (.node o81 (.node o145 (.node o273 .nil .nil) .nil) (.node o209 (.node o337 .nil .nil) .nil)) (.node o113 (.node o177 (.node o305 .nil .nil) .nil) (.node o241 (.node o369 .nil .nil) .nil)))) (.node o25 (.node o41 (.node o73 (.node o137 (.node o265 .nil .nil) (.node o393 .nil .nil)) (.node o201 (.node o329 .nil .nil) .nil)) (.node o105 (.node o169 (.node o297 .nil .nil) .nil) (.node o233 (.node o361 .nil .nil) .nil))) (.node (o57 P) (.node o89 (.node o153 (.node o281 .nil .nil) .nil) (.node o217 (.node o345 .nil .nil) .nil)) (.node o121 (.node o185 (.node o313 .nil .nil) .nil) (.node o249 (.node o377 .nil .nil) .nil))))) (.node o13 (.node o21 (.node (o37 P) (.node (o69 P) (.node o133 (.node o261 .nil .nil) (.node o389 .nil .nil)) (.node o197 (.node o325 .nil .nil) .nil)) (.node o101 (.node o165 (.node o293 .nil .nil) .nil) (.node o229 (.node o357 .nil .nil) .nil))) (.node o53 (.node o85 (.node o149 (.node o277 .nil .nil) .nil) (.node o213 (.node o341 .nil .nil) .nil)) (.node o117 (.node o181 (.node o309 .nil .nil) .nil) (.node o245 (.node o373 .nil .nil) .nil)))) (.node o29 (.node o45 (.node o77 (.node o141 (.node o269 .nil .nil) (.node o397 .nil .nil)) (.node o205 (.node o333 .nil .nil) .nil)) (.node (o109 P) (.node o173 (.node o301 .nil .nil) .nil) (.node o237 (.node o365 .nil .nil) .nil))) (.node o61 (.node o93 (.node o157 (.node o285 .nil .nil) .nil) (.node o221 (.node o349 .nil .nil) .nil)) (.node o125 (.node o189 (.node o317 .nil .nil) .nil) (.node o253 (.node o381 .nil .nil) .nil))))))) (.node (o2 P) (.node (boot_o_4 P) (.node (boot_o_8 P) (.node o16 (.node o32 (.node o64 (.node o128 (.node o256 .nil .nil) (.node o384 .nil .nil)) (.node o192 (.node o320 .nil .nil) .nil)) (.node o96 (.node o160 (.node o288 .nil .nil) .nil) (.node o224 (.node o352 .nil .nil) .nil))) (.node o48 (.node o80 (.node o144 (.node o272 .nil .nil) .nil) (.node o208 (.node o336 .nil .nil) .nil)) (.node o112 (.node o176 (.node o304 .nil .nil) .nil) (.node o240 (.node o368 .nil .nil) .nil)))) (.node (o24 P) (.node o40 (.node o72 (.node o136 (.node o264 .nil .nil) (.node o392 .nil .nil)) (.node o200 (.node o328 .nil .nil) .nil)) (.node o104 (.node o168 (.node o296 .nil .nil) .nil) (.node o232 (.node o360 .nil .nil) .nil))) (.node o56 (.node (o88 P) (.node o152 (.node o280 .nil .nil) .nil) (.node o216 (.node o344 .nil .nil) .nil)) (.node o120 (.node o184 (.node o312 .nil .nil) .nil) (.node o248 (.node o376 .nil .nil) .nil))))) (.node o12 (.node o20 (.node o36 (.node o68 (.node o132 (.node o260 .nil .nil) (.node o388 .nil .nil)) (.node o196 (.node o324 .nil .nil) .nil)) (.node o100 (.node o164 (.node o292 .nil .nil) .nil) (.node o228 (.node o356 .nil .nil) .nil))) (.node o52 (.node o84 (.node o148 (.node o276 .nil .nil) .nil) (.node (o212 P) (.node o340 .nil .nil) .nil)) (.node o116 (.node o180 (.node o308 .nil .nil) .nil) (.node o244 (.node o372 .nil .nil) .nil)))) (.node o28 (.node (o44 P) (.node o76 (.node o140 (.node o268 .nil .nil) (.node o396 .nil .nil)) (.node o204 (.node o332 .nil .nil) .nil)) (.node o108 (.node o172 (.node o300 .nil .nil) .nil) (.node o236 (.node o364 .nil .nil) .nil))) (.node o60 (.node o92 (.node o156 (.node o284 .nil .nil) .nil) (.node o220 (.node o348 .nil .nil) .nil)) (.node o124 (.node o188 (.node o316 .nil .nil) .nil) (.node o252 (.node o380 .nil .nil) .nil)))))) (.node (boot_o_6 P) (.node (boot_o_10 P) (.node o18 (.node o34 (.node o66 (.node o130 (.node o258 .nil .nil) (.node o386 .nil .nil)) (.node o194 (.node o322 .nil .nil) .nil)) (.node o98 (.node o162 (.node o290 .nil .nil) .nil) (.node o226 (.node o354 .nil .nil) .nil))) (.node o50 (.node o82 (.node o146 (.node o274 .nil .nil) .nil) (.node o210 (.node o338 .nil .nil) .nil)) (.node o114 (.node o178 (.node o306 .nil .nil) .nil) (.node o242 (.node o370 .nil .nil) .nil)))) (.node o26 (.node o42 (.node o74 (.node o138 (.node o266 .nil .nil) (.node o394 .nil .nil)) (.node o202 (.node o330 .nil .nil) .nil)) (.node o106 (.node o170 (.node o298 .nil .nil) .nil) (.node o234 (.node o362 .nil .nil) .nil))) (.node o58 (.node o90 (.node o154 (.node o282 .nil .nil) .nil) (.node o218 (.node o346 .nil .nil) .nil)) (.node (o122 P) (.node o186 (.node o314 .nil .nil) .nil) (.node o250 (.node o378 .nil .nil) .nil))))) (.node o14 (.node o22 (.node o38 (.node o70 (.node o134 (.node o262 .nil .nil) (.node o390 .nil .nil)) (.node o198 (.node o326 .nil .nil) .nil)) (.node o102 (.node o166 (.node o294 .nil .nil) .nil) (.node o230 (.node o358 .nil .nil) .nil))) (.node o54 (.node o86 (.node o150 (.node o278 .nil .nil) .nil) (.node o214 (.node o342 .nil .nil) .nil)) (.node o118 (.node o182 (.node (o310 P) .nil .nil) .nil) (.node o246 (.node o374 .nil .nil) .nil)))) (.node o30 (.node o46 (.node o78 (.node o142 (.node o270 .nil .nil) (.node o398 .nil .nil)) (.node o206 (.node o334 .nil .nil) .nil)) (.node o110 (.node o174 (.node o302 .nil .nil) .nil) (.node o238 (.node o366 .nil .nil) .nil))) (.node o62 (.node o94 (.node o158 (.node o286 .nil .nil) .nil) (.node o222 (.node o350 .nil .nil) .nil)) (.node o126 (.node o190 (.node o318 .nil .nil) .nil) (.node o254 (.node o382 .nil .nil) .nil))))))))
noncomputable def S4 (w : World) (os : OsState) : SharedT := ⟨t4 w.params, 400, life0, #[], boot_drawn, 771, os⟩
noncomputable def p4 : Pos := (Pos.mk 309 0 326 68)
noncomputable def l0 : List Stmt := bE.take 13
noncomputable def l1 : List Stmt := (bE.drop 13).take 19
noncomputable def l2 : List Stmt := (bE.drop 32).take 1
noncomputable def l3 : List Stmt := bE.drop 33
theorem l_all : bE = l0 ++ (l1 ++ (l2 ++ (l3 ++ []))) := by kernel_rfl
theorem run_pre (w : World) (os : OsState) : topGo treeTable pw w 11 ann0 12 ⟨boot_heap w.params, #[], boot_drawn, boot_toks, os⟩ (topStub pw) = some ((S0 w os).abs, ⟨denote treeTable cE, cE, p0, [topFrame q0]⟩) := by kernel_rfl
theorem run_block (w : World) (os : OsState) : segRun treeTable pw w 11 ann0 1 1 (S0 w os).abs (blockOf bE env0 cE p0 [topFrame q0]) = some (.next, (S0 w os).abs, cE, p0) := by kernel_rfl
theorem run0 (w : World) (os : OsState) : segRunT treeTable pw w 11 ann0 1 1089 (S0 w os) (piecesOf l0 env0 cE p0 [topFrame q0]) = some (.next, S1 w os, cE, p1) := by kernel_rfl
theorem run1 (w : World) (os : OsState) : segRunT treeTable pw w 11 ann0 1 660 (S1 w os) (piecesOf l1 env0 cE p1 [topFrame q0]) = some (.next, S2 w os, cE, p2) := by kernel_rfl
theorem run2 (w : World) (os : OsState) : segRunT treeTable pw w 11 ann0 1 611 (S2 w os) (piecesOf l2 env0 cE p2 [topFrame q0]) = some (.next, S3 w os, cE, p3) := by kernel_rfl
theorem run3 (w : World) (os : OsState) : segRunT treeTable pw w 11 ann0 1 423 (S3 w os) (piecesOf l3 env0 cE p3 [topFrame q0]) = some (.next, S4 w os, cE, p4) := by kernel_rfl
noncomputable def H1 (P : Params) : Heap := ⟨#[(boot_o_0 P), (boot_o_1 P), (o2 P), (o3 P), (boot_o_4 P), (boot_o_5 P), (boot_o_6 P), (boot_o_7 P), (boot_o_8 P), (boot_o_9 P), (boot_o_10 P), o11, o12, o13, o14, o15, o16, o17, o18, o19, o20, o21, o22, o23, (o24 P), o25, o26, o27, o28, o29, o30, o31, o32, o33, o34, o35, o36, (o37 P), o38, o39, o40, o41, o42, o43, (o44 P), o45, o46, o47, o48, o49, o50, o51, o52, o53, o54, o55, o56, (o57 P), o58, o59, o60, o61, o62, (o63 P), o64, o65, o66, o67, o68, (o69 P), o70, o71, o72, o73, o74, (o75 P), o76, o77, o78, o79, o80, o81, o82, o83, o84, o85, o86, o87, (o88 P), o89, o90, o91, o92, o93, o94, o95, o96, o97, o98, o99, o100, o101, o102, o103, o104, o105, o106, o107, o108, (o109 P), o110, o111, o112, o113, o114, o115, o116, o117, o118, o119, o120, o121, (o122 P), o123, o124, o125, o126, o127, o128, o129, o130, o131, o132, o133, o134, o135, o136, o137, o138, o139, o140, o141, o142, o143, o144, o145, o146, o147, o148, o149, o150, o151, o152, o153, o154, o155, o156, o157, o158, o159, o160, o161, o162, o163, o164, o165, o166, o167, o168, o169, o170, o171, o172, o173, o174, o175, o176, o177, o178, o179, o180, o181, o182, o183, o184, o185, o186, o187, o188, o189, o190, o191, o192, o193, o194, o195, o196, o197, o198, o199, o200, o201, o202, o203, o204, o205, o206, o207, o208, o209, o210, o211, (o212 P), o213, o214, o215, o216, o217, o218, o219, o220, o221, o222, o223, o224, o225, o226, o227, o228, o229, o230, o231, o232, o233, o234, o235, o236, o237, o238, o239, o240, o241, o242, o243, o244, o245, o246, o247, o248, o249, o250, o251, o252, o253, o254, o255, o256, o257, o258, o259, o260, o261, o262, o263, o264, o265, o266, o267, o268, o269, o270, o271, o272, o273, o274, o275, o276, o277, o278, o279, o280, o281, o282, o283, o284, o285, o286, o287, o288, o289, o290, o291, o292, o293, o294, o295, o296, o297, o298, o299, o300, o301, o302, o303, o304, o305, o306, o307, o308, o309, (o310 P), o311, o312, o313, o314, o315, o316, o317, o318, o319, o320, o321, o322, o323, o324, o325, o326, o327, o328, o329, o330, o331, o332, o333, o334, o335, o336, o337, o338, o339, o340, o341, o342, o343, o344, o345, o346, o347, o348, o349, o350, o351, o352, o353, o354, o355, o356, o357, o358, o359, o360, o361, o362, o363, o364, o365, o366, o367, o368, o369, o370, o371, o372, o373, o374, o375, o376, o377, o378, o379, o380, o381, o382, o383, o384, o385, o386, o387, o388, o389, o390, o391, o392, o393, o394, o395, o396, o397, o398, o399], life0⟩
theorem run_fin (w : World) (os : OsState) : topRun treeTable pw w 11 ann0 2 (S4 w os).abs ⟨doneF .next, cE, p4, [topFrame q0]⟩ = some ⟨H1 w.params, #[], boot_drawn, 771, os⟩ := by kernel_rfl
theorem run_all (w : World) (os : OsState) : topRun treeTable pw w 11 ann0 (12 + (1 + (1089 + (660 + (611 + (423 + 2)))))) ⟨boot_heap w.params, #[], boot_drawn, boot_toks, os⟩ (topStub pw) = some ⟨H1 w.params, #[], boot_drawn, 771, os⟩ := by
  refine go_top (run_pre w os) ?_
  refine piece_block (b := bE) (env := env0) (run_block w os) ?_
  rw [l_all]
  exact piece_app (segRun_of (run0 w os)) (piece_app (segRun_of (run1 w os)) (piece_app (segRun_of (run2 w os)) (piece_app (segRun_of (run3 w os)) (piece_nil (run_fin w os)))))
noncomputable abbrev myH : Hook := kHook myK myAt myAt_eq
noncomputable abbrev xt (s : Shared) : Bool := xlAt qv [] s && recOk (RowW.records PySem.Challenge.rw_sa0310_01.row.toRowW) s
theorem look_size (w : World) : ((boot_heap w.params).isNs mainGlobals && (#[] : Array GenState).size == 0, (boot_heap w.params).objs.size, (boot_heap w.params).nsMap mainGlobals "__annotations__") = (true, 11, ann0) := by kernel_rfl
noncomputable abbrev E1 (w : World) (os : OsState) : Shared := ⟨H1 w.params, #[], boot_drawn, 771, os⟩
theorem look_a (w : World) (os : OsState) : (staticsOk (importedModules pw.main.body) (boot_heap w.params) (H1 w.params) && namesBound pw (H1 w.params) && gensDone (E1 w os) && laidKept (boot_heap w.params) (H1 w.params)) = true := by kernel_rfl
theorem look_b (w : World) (os : OsState) : openSeen qv [] (importedModules pw.main.body) xt true (E1 w os) = openGood qv [] := by kernel_rfl
theorem look_c (w : World) (os : OsState) : Hook.obs myH (E1 w os) = Hook.val myH w := by kernel_rfl
theorem opening_eq : opening pw = plainProg pw.main.scope.names := by kernel_rfl
theorem fence_eq (s : Shared) : fenceModules? pw s = some s := by kernel_rfl
/-- the whole text is run, piece by piece -/
theorem left : LeftO pw qv [] xt (Hook.obs myH) (Hook.val myH) 5684 :=
  LeftO.of_pieces (H₀ := boot_heap) (H₁ := H1) (boot_open opening_eq rfl fence_eq) look_size run_all (by decide +kernel) fun w => funext fun os => Prod.ext (look_a w os) (Prod.ext (look_b w os) (look_c w os))
noncomputable abbrev lw : OpenLaw := PySem.Challenge.rw_sa0310_01
theorem said_names : namesResolve lw.prog = true := by kernel_rfl
theorem said_road : noRoadLSs { strict := !(importedModules lw.prog.main.body).all cThrough.contains, foot := none, bare := (["vars", "dir", "locals"] : List Str).filter (readsOut lw.prog lw.prog.main.body) } lw.prog.main.body = true := by kernel_rfl
theorem said_attr : (namesMeet lw.prog lw.prog.main.body fun _ n => attrL n) = true := by kernel_rfl
theorem said_looks : looksOpen lw.prog = true := look_both (look_both (look_both (look_both (look_both (by kernel_rfl) (by kernel_rfl)) said_names) (by kernel_rfl)) said_road) said_attr
theorem said_part : lw.row.partSaid = true :=
  look_both (look_both (look_both (look_both (look_both (look_both (look_both (look_both (look_both (look_both (look_both (look_both (look_both said_looks (by kernel_rfl)) (by kernel_rfl)) (by kernel_rfl)) (by kernel_rfl)) (by kernel_rfl)) (by kernel_rfl)) (by kernel_rfl)) (by kernel_rfl)) (by kernel_rfl)) (by kernel_rfl)) (by kernel_rfl)) (by kernel_rfl)) (by kernel_rfl)
theorem said_row : lw.row.wellSaid = true := look_both (look_both said_part (by kernel_rfl)) (by kernel_rfl)
theorem said_foot : noRoadLSs { strict := true, foot := some lw.bound', writes := lw.writes, may := lw.may } lw.footing = true := by kernel_rfl
theorem said_def : defStands lw.about lw.above = true := by kernel_rfl
theorem said_it : lw.namesIt = true := by kernel_rfl
theorem said_bound : lw.bound'.all (fun n => !builtinNamed n || lw.about == [n] || !lw.reads n) = true := by kernel_rfl
theorem said_meet : namesMeet lw.prog lw.footing (fun sc n => (!(["type", "isinstance", "issubclass", "getattr", "hasattr"] : List Str).contains n || sc.names.lookup n == some .globalImplicit) &&
    (lw.may != some n || sc.kind == .module || sc.names.lookup n == some .globalImplicit)) = true := by kernel_rfl
theorem said_above : namesMeet lw.prog lw.above (fun _ n => !lw.own.contains n) = true := by kernel_rfl
theorem said_below : (namesMeet lw.prog lw.footing fun sc n => sc.kind == .module || sc.names.lookup n != some .globalExplicit) = true := by kernel_rfl
/-- the looks at the law, one by one -/
theorem said : OpenLaw.wellSaid PySem.Challenge.rw_sa0310_01 = true :=
  look_both (look_both (look_both (look_both (look_both (look_both (look_both (look_both (look_both (look_both (look_both (look_both (look_both (look_both (look_both (look_both (look_both (look_both said_row
    (by kernel_rfl)) (by kernel_rfl)) (by kernel_rfl)) (by kernel_rfl)) (by kernel_rfl)) said_foot) said_def) said_it) (by kernel_rfl)) said_bound) (by kernel_rfl)) (by kernel_rfl)) said_meet) (by kernel_rfl)) (by kernel_rfl)) (by kernel_rfl)) said_above) said_below
end Sol
end

section
open PySem PySem.W PySem.Calls PyProof.Rows
namespace Sol

/-- pure values -/
inductive PV where
  | none
  | bool (b : Bool)
  | int (i : Int)
  | str (s : Str)
  | list (xs : List PV)
  | tup (xs : List PV)
  | inst (C : Addr) (ns : List Str) (xs : List PV)
  | ref (a : Addr)

/-- what stays as it is -/
noncomputable abbrev Ice := Addr → Obj → Prop

noncomputable abbrev lsO (vs : List Value) (n : Nat) : Obj := { cls := .type "list", data := .seq vs.toArray n }
noncomputable abbrev tpO (vs : List Value) (n : Nat) : Obj := { cls := .type "tuple", data := .seq vs.toArray n }

noncomputable def KeysAre : List Str → List DictEntry → Prop
  | [], es => es = []
  | n :: ns, es => ∃ hs t v r, es = ⟨hs, .str n t, v⟩ :: r ∧ KeysAre ns r

mutual
noncomputable def Rep (W : Ice) : PV → Value → Prop
  | .none, v => v = .none
  | .bool b, v => v = .bool b
  | .int i, v => ∃ t, v = .int i t
  | .str s, v => ∃ t, v = .str s t
  | .list xs, v => ∃ a vs n, v = .ref a ∧ W a (lsO vs n) ∧ RepL W xs vs
  | .tup xs, v => ∃ a vs n, v = .ref a ∧ W a (tpO vs n) ∧ RepL W xs vs
  | .inst C ns xs, v => ∃ a d es n, v = .ref a ∧ W a (instObj C d) ∧ W d (dictOf es n) ∧ KeysAre ns es ∧ RepL W xs (es.map (·.val))
  | .ref a, v => v = .ref a
noncomputable def RepL (W : Ice) : List PV → List Value → Prop
  | [], vs => vs = []
  | x :: xs, vs => ∃ v r, vs = v :: r ∧ Rep W x v ∧ RepL W xs r
end

noncomputable def Ice.le (W W' : Ice) : Prop := ∀ a o, W a o → W' a o
theorem Ice.le.refl {W : Ice} : W.le W := fun _ _ h => h
theorem Ice.le.trans {W W' W'' : Ice} (h : W.le W') (h' : W'.le W'') : W.le W'' := fun a o x => h' a o (h a o x)

mutual
theorem Rep.mono {W W' : Ice} (h : W.le W') : ∀ (p : PV) (v : Value), Rep W p v → Rep W' p v
  | .none, _, r => r
  | .bool _, _, r => r
  | .int _, _, r => r
  | .str _, _, r => r
  | .list xs, _, ⟨a, vs, n, e, w, r⟩ => ⟨a, vs, n, e, h _ _ w, RepL.mono h xs vs r⟩
  | .tup xs, _, ⟨a, vs, n, e, w, r⟩ => ⟨a, vs, n, e, h _ _ w, RepL.mono h xs vs r⟩
  | .inst _ _ xs, _, ⟨a, d, es, n, e, w, w', k, r⟩ => ⟨a, d, es, n, e, h _ _ w, h _ _ w', k, RepL.mono h xs _ r⟩
  | .ref _, _, r => r
theorem RepL.mono {W W' : Ice} (h : W.le W') : ∀ (ps : List PV) (vs : List Value), RepL W ps vs → RepL W' ps vs
  | [], _, r => r
  | x :: xs, _, ⟨v, r, e, a, b⟩ => ⟨v, r, e, Rep.mono h x v a, RepL.mono h xs r b⟩
end

theorem RepL.length {W : Ice} : ∀ {ps : List PV} {vs : List Value}, RepL W ps vs → vs.length = ps.length
  | [], _, r => by simp only [RepL] at r; subst r; rfl
  | _ :: _, _, ⟨_, _, e, _, b⟩ => by subst e; simp [RepL.length b]
theorem RepL.append {W : Ice} : ∀ {ps qs : List PV} {vs us : List Value}, RepL W ps vs → RepL W qs us → RepL W (ps ++ qs) (vs ++ us)
  | [], _, _, _, r, q => by simp only [RepL] at r; subst r; exact q
  | _ :: _, _, _, _, ⟨_, _, e, a, b⟩, q => by subst e; exact ⟨_, _, rfl, a, RepL.append b q⟩
theorem RepL.nil {W : Ice} : RepL W [] [] := rfl
theorem RepL.cons {W : Ice} {p : PV} {v : Value} {ps : List PV} {vs : List Value} (a : Rep W p v) (b : RepL W ps vs) : RepL W (p :: ps) (v :: vs) := ⟨_, _, rfl, a, b⟩
theorem RepL.get {W : Ice} : ∀ {ps : List PV} {vs : List Value} {i : Nat} {p : PV}, RepL W ps vs → ps[i]? = some p → ∃ v, vs[i]? = some v ∧ Rep W p v
  | [], _, _, _, _, e => by simp at e
  | _ :: _, _, 0, _, ⟨v, _, e, a, _⟩, h => by subst e; simp at h; subst h; exact ⟨v, rfl, a⟩
  | _ :: _, _, i + 1, _, ⟨_, _, e, _, b⟩, h => by subst e; simp at h; obtain ⟨v, hv, r⟩ := RepL.get b h; exact ⟨v, by simpa using hv, r⟩
theorem RepL.set {W : Ice} : ∀ {ps : List PV} {vs : List Value} (i : Nat) {p : PV} {v : Value}, RepL W ps vs → Rep W p v → RepL W (ps.set i p) (vs.set i v)
  | [], _, _, _, _, r, _ => by simp only [RepL] at r; subst r; simp [RepL]
  | _ :: _, _, 0, _, _, ⟨_, _, e, _, b⟩, r => by subst e; exact ⟨_, _, rfl, r, b⟩
  | _ :: _, _, i + 1, _, _, ⟨_, _, e, a, b⟩, r => by subst e; exact ⟨_, _, rfl, a, RepL.set i b r⟩
theorem RepL.extract {W : Ice} : ∀ {ps : List PV} {vs : List Value} (i : Nat), RepL W ps vs → RepL W (ps.drop i) (vs.drop i)
  | ps, vs, 0, r => r
  | [], _, i + 1, r => by simp only [RepL] at r; subst r; simp [RepL]
  | _ :: _, _, i + 1, ⟨_, _, e, _, b⟩ => by subst e; exact RepL.extract i b
theorem RepL.take {W : Ice} : ∀ {ps : List PV} {vs : List Value} (i : Nat), RepL W ps vs → RepL W (ps.take i) (vs.take i)
  | ps, vs, 0, r => by simp [RepL]
  | [], _, i + 1, r => by simp only [RepL] at r; subst r; simp [RepL]
  | _ :: _, _, i + 1, ⟨_, _, e, a, b⟩ => by subst e; exact ⟨_, _, rfl, a, RepL.take i b⟩

/-- what turns -/
inductive Cell where
  | lst (xs : List PV)
  | obj (C d : Addr) (ns : List Str) (xs : List PV)
  | cel (p : Option PV)

noncomputable abbrev Sig := List (Addr × Cell)
noncomputable def foot : Addr × Cell → List Addr
  | (a, .lst _) => [a]
  | (a, .obj _ d _ _) => [a, d]
  | (a, .cel _) => [a]
noncomputable def foots (σ : Sig) : List Addr := σ.flatMap foot

noncomputable def CellAt (W : Ice) (h : Heap) : Addr × Cell → Prop
  | (a, .lst xs) => ∃ vs n, h.get? a = some (lsO vs n) ∧ RepL W xs vs
  | (a, .obj C d ns xs) => ∃ es n, h.get? a = some (instObj C d) ∧ h.get? d = some (dictOf es n) ∧ KeysAre ns es ∧ RepL W xs (es.map (·.val))
  | (a, .cel none) => ∃ o, h.get? a = some o ∧ o.data = .cell none
  | (a, .cel (some p)) => ∃ o v, h.get? a = some o ∧ o.data = .cell (some v) ∧ Rep W p v

structure Cx where
  prog : Program
  w : World
  K : Frag
  h₀ : Heap
  mg : Str → Option Value
  mb : Str → Option Value
  g₀ : Array GenState
  os₀ : OsState

structure Cx.Ok (C : Cx) : Prop where
  K : C.K.In C.h₀
  g : C.h₀.Ns mainGlobals C.mg
  b : C.h₀.Ns builtinsNs C.mb
  builtins : ∀ x : Str, x ≠ "__name__" → C.mb x = bootBuiltins x
  nolimit : C.h₀.NoLimit

structure Inv (C : Cx) (W : Ice) (σ : Sig) (s : Shared) : Prop where
  ok : C.Ok
  ice : ∀ a o, W a o → s.heap.get? a = some o
  h0 : ∀ a o, C.h₀.get? a = some o → W a o
  cells : ∀ p ∈ σ, CellAt W s.heap p
  nodup : (foots σ).Nodup
  apart : ∀ a o, W a o → a ∉ foots σ
  gens : s.gens = C.g₀
  os : s.os = C.os₀

structure Step (X : List Addr) (W W' : Ice) (σ σ' : Sig) (s s' : Shared) : Prop where
  le : W.le W'
  new : ∀ a o, W' a o → W a o ∨ a ∈ foots σ ∨ s.heap.get? a = none
  kept : ∀ b o, s.heap.get? b = some o → b ∉ X → b ∉ foots σ → s'.heap.get? b = some o
  there : ∀ b, s'.heap.get? b = none → s.heap.get? b = none
  own : ∀ a ∈ foots σ', a ∈ foots σ ∨ s.heap.get? a = none

theorem Inv.keep0 {C W σ s} (I : Inv C W σ s) : ∀ b o, C.h₀.get? b = some o → s.heap.get? b = some o := fun b o e => I.ice _ _ (I.h0 _ _ e)
theorem Inv.K {C W σ s} (I : Inv C W σ s) : C.K.In s.heap := I.ok.K.keeps I.keep0
theorem Inv.nolimit {C W σ s} (I : Inv C W σ s) : s.heap.NoLimit := I.ok.nolimit.keeps I.keep0
theorem Inv.g {C W σ s} (I : Inv C W σ s) : s.heap.Ns mainGlobals C.mg := I.ok.g.keeps I.keep0
theorem Inv.b {C W σ s} (I : Inv C W σ s) : s.heap.Ns builtinsNs C.mb := I.ok.b.keeps I.keep0
theorem Inv.footLt {C W σ s} (I : Inv C W σ s) : ∀ a ∈ foots σ, a < s.heap.objs.size := by
  intro a ha
  obtain ⟨p, hp, hf⟩ := List.mem_flatMap.mp ha
  have := I.cells p hp
  obtain ⟨b, c⟩ := p
  cases c with
  | lst xs => obtain ⟨vs, n, e, _⟩ := this; simp [foot] at hf; subst hf; exact Heap.lt_size e
  | obj D d ns xs =>
    obtain ⟨es, n, e, e', _⟩ := this
    simp [foot] at hf
    rcases hf with rfl | rfl
    · exact Heap.lt_size e
    · exact Heap.lt_size e'
  | cel p =>
    simp [foot] at hf; subst hf
    cases p with
    | none => obtain ⟨o, e, _⟩ := this; exact Heap.lt_size e
    | some p => obtain ⟨o, v, e, _⟩ := this; exact Heap.lt_size e
theorem Inv.iceLt {C W σ s} (I : Inv C W σ s) : ∀ a o, W a o → a < s.heap.objs.size := fun a o h => Heap.lt_size (I.ice a o h)

theorem CellAt.keeps {W W' : Ice} {h h' : Heap} {p : Addr × Cell} (x : CellAt W h p) (hW : W.le W') (hk : ∀ a ∈ foot p, ∀ o, h.get? a = some o → h'.get? a = some o) : CellAt W' h' p := by
  obtain ⟨a, c⟩ := p
  cases c with
  | lst xs => obtain ⟨vs, n, e, r⟩ := x; exact ⟨vs, n, hk a (by simp [foot]) _ e, r.mono hW⟩
  | obj D d ns xs => obtain ⟨es, n, e, e', k, r⟩ := x; exact ⟨es, n, hk a (by simp [foot]) _ e, hk d (by simp [foot]) _ e', k, r.mono hW⟩
  | cel p =>
    cases p with
    | none => obtain ⟨o, e, d⟩ := x; exact ⟨o, hk a (by simp [foot]) _ e, d⟩
    | some p => obtain ⟨o, v, e, d, r⟩ := x; exact ⟨o, v, hk a (by simp [foot]) _ e, d, Rep.mono hW _ _ r⟩

/-- the invariant over a heap that keeps ice and cells -/
theorem Inv.keeps {C W σ s} (I : Inv C W σ s) {s' : Shared} (hi : ∀ a o, W a o → s'.heap.get? a = some o) (hf : ∀ a ∈ foots σ, ∀ o, s.heap.get? a = some o → s'.heap.get? a = some o)
    (hg : s'.gens = s.gens) (ho : s'.os = s.os) : Inv C W σ s' :=
  ⟨I.ok, hi, I.h0, fun p hp => (I.cells p hp).keeps .refl (fun a ha => hf a (List.mem_flatMap.mpr ⟨p, hp, ha⟩)), I.nodup, I.apart, hg.trans I.gens, ho.trans I.os⟩

theorem Inv.toks {C W σ s} (I : Inv C W σ s) (t : Nat) : Inv C W σ { s with toks := t } := I.keeps I.ice (fun _ _ _ e => e) rfl rfl
theorem Inv.sameBut {C W σ s} (I : Inv C W σ s) {a : Addr} {h' : Heap} {t : Nat} (hs : Heap.SameBut a s.heap h') (hf : a ∉ foots σ) (hw : ∀ o, ¬ W a o) : Inv C W σ { s with heap := h', toks := t } :=
  I.keeps (fun b o e => (hs.2 b (by rintro rfl; exact hw _ e)).trans (I.ice _ _ e)) (fun b hb o e => (hs.2 b (by rintro rfl; exact hf hb)).trans e) rfl rfl
theorem Inv.push {C W σ s} (I : Inv C W σ s) (o : Obj) (t : Nat) : Inv C W σ { s with heap := s.heap.push o, toks := t } :=
  I.keeps (fun b o' e => Heap.get?_push_of_some _ (I.ice _ _ e)) (fun b _ o' e => Heap.get?_push_of_some _ e) rfl rfl

noncomputable def Ice.add (W : Ice) (a : Addr) (o : Obj) : Ice := fun b o' => W b o' ∨ (b = a ∧ o' = o)
theorem Ice.le_add {W : Ice} {a : Addr} {o : Obj} : W.le (W.add a o) := fun _ _ h => .inl h
theorem Ice.add_self {W : Ice} {a : Addr} {o : Obj} : W.add a o a o := .inr ⟨rfl, rfl⟩

theorem Inv.ice1 {C W σ s} (I : Inv C W σ s) {a : Addr} {o : Obj} (e : s.heap.get? a = some o) (hf : a ∉ foots σ) : Inv C (W.add a o) σ s :=
  ⟨I.ok, fun b o' h => h.elim (I.ice b o') (fun ⟨h1, h2⟩ => by subst h1; subst h2; exact e), fun b o' h => .inl (I.h0 _ _ h),
   fun p hp => (I.cells p hp).keeps Ice.le_add (fun _ _ _ e => e), I.nodup, fun b o' h => h.elim (I.apart b o') (fun ⟨h1, _⟩ => by subst h1; exact hf), I.gens, I.os⟩

theorem Inv.pushIce {C W σ s} (I : Inv C W σ s) (o : Obj) (t : Nat) (hf : o.isFreed = false) : Inv C (W.add s.heap.objs.size o) σ { s with heap := s.heap.push o, toks := t } :=
  (I.push o t).ice1 (Heap.get?_push_size _ hf) (fun h => absurd (I.footLt _ h) (Nat.lt_irrefl _))

theorem get_size_none (h : Heap) : h.get? h.objs.size = none := by
  cases e : h.get? h.objs.size with
  | none => rfl
  | some o => exact absurd (Heap.lt_size e) (Nat.lt_irrefl _)
theorem there_of_keep {h h' : Heap} (k : ∀ b o, h.get? b = some o → h'.get? b = some o) : ∀ b, h'.get? b = none → h.get? b = none := by
  intro b e
  cases e' : h.get? b with
  | none => rfl
  | some o => rw [k b o e'] at e; cases e
theorem Step.refl {X : List Addr} {W : Ice} {σ : Sig} {s : Shared} : Step X W W σ σ s s := ⟨.refl, fun _ _ h => .inl h, fun _ _ e _ _ => e, fun _ h => h, fun _ h => .inl h⟩
theorem Step.keepAll {X : List Addr} {W : Ice} {σ : Sig} {s s' : Shared} (k : ∀ b o, s.heap.get? b = some o → s'.heap.get? b = some o) : Step X W W σ σ s s' :=
  ⟨.refl, fun _ _ h => .inl h, fun b o e _ _ => k b o e, there_of_keep k, fun _ h => .inl h⟩
theorem Step.toks {X : List Addr} {W : Ice} {σ : Sig} {s : Shared} (t : Nat) : Step X W W σ σ s { s with toks := t } := .keepAll fun _ _ e => e
theorem Step.trans {X : List Addr} {W W' W'' : Ice} {σ σ' σ'' : Sig} {s s' s'' : Shared} (a : Step X W W' σ σ' s s') (b : Step X W' W'' σ' σ'' s' s'') : Step X W W'' σ σ'' s s'' :=
  ⟨a.le.trans b.le, fun x o h => (b.new x o h).elim (a.new x o) (fun h => h.elim (fun h => .inr (a.own x h)) (fun h => .inr (.inr (a.there _ h)))),
   fun x o e hX hF => b.kept x o (a.kept x o e hX hF) hX (fun h => (a.own x h).elim hF (fun h => by rw [h] at e; cases e)),
   fun x h => a.there x (b.there x h), fun x h => (b.own x h).elim (a.own x) (fun h => .inr (a.there _ h))⟩
theorem Step.weaken {X Y : List Addr} {W W' : Ice} {σ σ' : Sig} {s s' : Shared} (a : Step X W W' σ σ' s s') (h : ∀ x ∈ X, x ∈ Y) : Step Y W W' σ σ' s s' :=
  ⟨a.le, a.new, fun x o e hX hF => a.kept x o e (fun q => hX (h x q)) hF, a.there, a.own⟩
theorem Step.ofNil {X : List Addr} {W W' : Ice} {σ σ' : Sig} {s s' : Shared} (a : Step [] W W' σ σ' s s') : Step X W W' σ σ' s s' := a.weaken (fun _ h => nomatch h)
/-- something fresh need not be kept -/
theorem Step.drop {X : List Addr} {x : Addr} {W W' : Ice} {σ σ' : Sig} {s s' : Shared} (a : Step (x :: X) W W' σ σ' s s') (h : s.heap.get? x = none) : Step X W W' σ σ' s s' :=
  ⟨a.le, a.new, fun y o e hX hF => a.kept y o e (fun q => (List.mem_cons.mp q).elim (fun q => by subst q; rw [h] at e; cases e) hX) hF, a.there, a.own⟩
theorem Step.push {X : List Addr} {W : Ice} {σ : Sig} {s : Shared} (o : Obj) (t : Nat) : Step X W W σ σ s { s with heap := s.heap.push o, toks := t } :=
  .keepAll fun _ _ e => Heap.get?_push_of_some _ e
theorem Step.pushIce {X : List Addr} {W : Ice} {σ : Sig} {s : Shared} (o : Obj) (t : Nat) : Step X W (W.add s.heap.objs.size o) σ σ s { s with heap := s.heap.push o, toks := t } :=
  ⟨Ice.le_add, fun _ _ h => h.elim .inl (fun h => .inr (.inr (by rw [h.1]; exact get_size_none _))), fun _ _ e _ _ => Heap.get?_push_of_some _ e, there_of_keep fun _ _ e => Heap.get?_push_of_some _ e, fun _ h => .inl h⟩
theorem Step.sameBut {X : List Addr} {W : Ice} {σ : Sig} {s : Shared} {a : Addr} {h' : Heap} {t : Nat} (hs : Heap.SameBut a s.heap h') (ha : a ∈ X) (hi : (h'.get? a).isSome = true) : Step X W W σ σ s { s with heap := h', toks := t } :=
  ⟨.refl, fun _ _ h => .inl h, fun b _ e hX _ => (hs.2 b (by rintro rfl; exact hX ha)).trans e, fun b h => by
    by_cases hb : b = a
    · subst hb; change h'.get? b = none at h; rw [h] at hi; cases hi
    · exact (hs.2 b hb).symm.trans h, fun _ h => .inl h⟩
theorem Step.iceSome {X : List Addr} {W W' : Ice} {σ σ' : Sig} {s s' : Shared} (a : Step X W W' σ σ' s s') {b : Addr} {o : Obj} (e : s.heap.get? b = some o) : (s'.heap.get? b).isSome = true := by
  cases h : s'.heap.get? b with
  | some _ => rfl
  | none => have := a.there _ h; rw [this] at e; cases e

/-- the frame -/
structure Loc (env : Env) (ρ : List (Str × PV)) (W : Ice) (σ : Sig) (s : Shared) : Prop where
  ns : ∃ m, s.heap.Ns env.locals m ∧ ∀ x p, ρ.lookup x = some p → ∃ v, m x = some v ∧ Rep W p v
  off : env.locals ∉ foots σ
  ice : ∀ o, ¬ W env.locals o

theorem Loc.at {env ρ W σ s} (l : Loc env ρ W σ s) : ∃ o, s.heap.get? env.locals = some o := let ⟨_, ⟨o, _, _, h, _⟩, _⟩ := l.ns; ⟨o, h⟩
theorem Loc.some {env ρ W σ s} (l : Loc env ρ W σ s) : s.heap.get? env.locals ≠ none := fun h => by obtain ⟨o, e⟩ := l.at; rw [h] at e; cases e
theorem Loc.step {env ρ W σ s W' σ' s'} (l : Loc env ρ W σ s) {X : List Addr} (a : Step X W W' σ σ' s s') (hX : env.locals ∉ X) : Loc env ρ W' σ' s' := by
  obtain ⟨m, ⟨o, es, ep, ho, hd, hk, hf⟩, hr⟩ := l.ns
  refine ⟨⟨m, ⟨o, es, ep, a.kept _ _ ho hX l.off, hd, hk, hf⟩, fun x p e => ?_⟩, fun h => ?_, fun o' h => ?_⟩
  · obtain ⟨v, h1, h2⟩ := hr x p e
    exact ⟨v, h1, Rep.mono a.le _ _ h2⟩
  · exact (a.own _ h).elim l.off (fun h => absurd h l.some)
  · exact (a.new _ _ h).elim (l.ice o') (fun h => h.elim l.off (fun h => absurd h l.some))
theorem Loc.step0 {env ρ W σ s W' σ' s'} (l : Loc env ρ W σ s) (a : Step [] W W' σ σ' s s') : Loc env ρ W' σ' s' := l.step a (fun h => nomatch h)

structure Room (A : Around) (n : Nat) : Prop where
  depth : A.depth + 4 * n < recursionLimit
  units : A.units + 12 * n < cLine
  handled : A.handled = none
theorem Room.mono {A : Around} {n k : Nat} (r : Room A n) (h : k ≤ n) : Room A k := ⟨by have := r.depth; omega, by have := r.units; omega, r.handled⟩

/-- a tree gives a value -/
noncomputable def TV (C : Cx) (n : Nat) (env : Env) (ρ : List (Str × PV)) (σ : Sig) (t : Sem Value) (K : PV → Sig → Prop) : Prop :=
  ∀ (A : Around) (W : Ice) (s : Shared) (Q : Value → Shared → Prop) (E : Value → Shared → Prop), Room A n → Inv C W σ s → Loc env ρ W σ s →
    (∀ v s' p σ' W', K p σ' → Inv C W' σ' s' → Step [] W W' σ σ' s s' → Rep W' p v → Q v s') → wpAny (model C.prog C.w) A t Q E s

noncomputable def EV (C : Cx) (n : Nat) (env : Env) (ρ : List (Str × PV)) (σ : Sig) (e : Expr) (K : PV → Sig → Prop) : Prop := TV C n env ρ σ (eval e env) K

theorem TV.mono {C n env ρ σ t} {K K' : PV → Sig → Prop} (h : TV C n env ρ σ t K) (hk : ∀ p σ', K p σ' → K' p σ') : TV C n env ρ σ t K' :=
  fun A W s Q E r I l k => h A W s Q E r I l (fun v s' p σ' W' a => k v s' p σ' W' (hk _ _ a))
theorem EV.mono {C n env ρ σ e} {K K' : PV → Sig → Prop} (h : EV C n env ρ σ e K) (hk : ∀ p σ', K p σ' → K' p σ') : EV C n env ρ σ e K' := TV.mono h hk

/-- a test -/
noncomputable def TB (C : Cx) (n : Nat) (env : Env) (ρ : List (Str × PV)) (σ : Sig) (e : Expr) (K : Bool → Sig → Prop) : Prop :=
  ∀ (A : Around) (W : Ice) (s : Shared) (Q : Bool → Shared → Prop) (E : Value → Shared → Prop), Room A n → Inv C W σ s → Loc env ρ W σ s →
    (∀ b s' σ' W', K b σ' → Inv C W' σ' s' → Step [] W W' σ σ' s s' → Q b s') → wpAny (model C.prog C.w) A (isTrue e env (eval e env)) Q E s

/-- args -/
noncomputable def ES (C : Cx) (n : Nat) (env : Env) (ρ : List (Str × PV)) (σ : Sig) (pos : Pos) (es : List Expr) (K : List PV → Sig → Prop) : Prop :=
  ∀ (A : Around) (W : Ice) (s : Shared) (Q : List Value → Shared → Prop) (E : Value → Shared → Prop), Room A n → Inv C W σ s → Loc env ρ W σ s →
    (∀ vs s' ps σ' W', K ps σ' → Inv C W' σ' s' → Step [] W W' σ σ' s s' → RepL W' ps vs → Q vs s') → wpAny (model C.prog C.w) A (spliced (backTo pos (starEach es env))) Q E s

/-- a def's contract -/
noncomputable def FN (C : Cx) (n : Nat) (f : Addr) (args : List PV) (σ : Sig) (K : PV → Sig → Prop) : Prop :=
  ∀ (A : Around) (W : Ice) (s : Shared) (vs : List Value) (R : Result → Shared → Prop), Room A n → Inv C W σ s → RepL W args vs →
    (∀ v s' p σ' W', K p σ' → Inv C W' σ' s' → Step [] W W' σ σ' s s' → Rep W' p v → R (.ok (.ret v)) s') → codeAny (model C.prog C.w) A (.call (.ref f) ⟨vs, []⟩) R s

inductive PF where
  | next | brk | cont
  | ret (p : PV)

noncomputable def RepF (W : Ice) : PF → Flow → Prop
  | .next, f => f = .next
  | .brk, f => f = .brk
  | .cont, f => f = .cont
  | .ret p, f => ∃ v, f = .ret v ∧ Rep W p v

/-- statements -/
noncomputable def TX (C : Cx) (n : Nat) (env : Env) (ρ : List (Str × PV)) (σ : Sig) (t : Sem Flow) (K : PF → List (Str × PV) → Sig → Prop) : Prop :=
  ∀ (A : Around) (W : Ice) (s : Shared) (Q : Flow → Shared → Prop) (E : Value → Shared → Prop), Room A n → Inv C W σ s → Loc env ρ W σ s →
    (∀ f s' pf ρ' σ' W', K pf ρ' σ' → Inv C W' σ' s' → Step [env.locals] W W' σ σ' s s' → Loc env ρ' W' σ' s' → RepF W' pf f → Q f s') → wpAny (model C.prog C.w) A t Q E s
noncomputable def XS (C : Cx) (n : Nat) (env : Env) (ρ : List (Str × PV)) (σ : Sig) (ss : List Stmt) (K : PF → List (Str × PV) → Sig → Prop) : Prop := TX C n env ρ σ (execs ss env) K
noncomputable def X1 (C : Cx) (n : Nat) (env : Env) (ρ : List (Str × PV)) (σ : Sig) (st : Stmt) (K : PF → List (Str × PV) → Sig → Prop) : Prop := TX C n env ρ σ (exec st env) K
theorem TX.mono {C n env ρ σ t} {K K' : PF → List (Str × PV) → Sig → Prop} (h : TX C n env ρ σ t K) (hk : ∀ f ρ' σ', K f ρ' σ' → K' f ρ' σ') : TX C n env ρ σ t K' :=
  fun A W s Q E r I l k => h A W s Q E r I l (fun v s' p ρ' σ' W' a => k v s' p ρ' σ' W' (hk _ _ _ a))

end Sol
end

section
open PySem PySem.W PySem.Calls PyProof.Rows
namespace Sol

/-- an operation on two values -/
noncomputable def OP2 (C : Cx) (n : Nat) (σ : Sig) (t : Value → Value → Sem Value) (p q : PV) (K : PV → Sig → Prop) : Prop :=
  ∀ (A : Around) (W : Ice) (s : Shared) (Q : Value → Shared → Prop) (E : Value → Shared → Prop) (a b : Value), Room A n → Inv C W σ s → Rep W p a → Rep W q b →
    (∀ v s' r σ' W', K r σ' → Inv C W' σ' s' → Step [] W W' σ σ' s s' → Rep W' r v → Q v s') → wpAny (model C.prog C.w) A (t a b) Q E s
noncomputable def OP1 (C : Cx) (n : Nat) (σ : Sig) (t : Value → Sem Value) (p : PV) (K : PV → Sig → Prop) : Prop :=
  ∀ (A : Around) (W : Ice) (s : Shared) (Q : Value → Shared → Prop) (E : Value → Shared → Prop) (a : Value), Room A n → Inv C W σ s → Rep W p a →
    (∀ v s' r σ' W', K r σ' → Inv C W' σ' s' → Step [] W W' σ σ' s s' → Rep W' r v → Q v s') → wpAny (model C.prog C.w) A (t a) Q E s

variable {C : Cx} {n : Nat} {env : Env} {ρ : List (Str × PV)} {σ : Sig} {K : PV → Sig → Prop}

theorem ev_int {i : Int} {k : Nat} {pos : Pos} (h : K (.int i) σ) : EV C n env ρ σ (.Constant (.int i) k pos) K :=
  fun A W s Q E r I l hk => wpAny_Constant_int (hk _ _ _ _ _ h (I.toks _) (.toks _) ⟨_, rfl⟩)
theorem ev_str {x : Str} {k : Nat} {pos : Pos} (h : K (.str x) σ) : EV C n env ρ σ (.Constant (.str x) k pos) K :=
  fun A W s Q E r I l hk => wpAny_Constant_str (hk _ _ _ _ _ h (I.toks _) (.toks _) ⟨_, rfl⟩)
theorem ev_bool {b : Bool} {k : Nat} {pos : Pos} (h : K (.bool b) σ) : EV C n env ρ σ (.Constant (.bool b) k pos) K :=
  fun A W s Q E r I l hk => wpAny_Constant_bool (hk _ _ _ _ _ h I .refl rfl)
theorem ev_none {k : Nat} {pos : Pos} (h : K .none σ) : EV C n env ρ σ (.Constant .none k pos) K :=
  fun A W s Q E r I l hk => wpAny_Constant_none (hk _ _ _ _ _ h I .refl rfl)

/-- a local name -/
theorem ev_name {x : Str} {pos : Pos} {p : PV} (hx : ρ.lookup x = some p) (h : K p σ) (hf : env.scope.kind = .function) (hl : env.kindOf x = some .local)
    (hd : (x == ("__debug__" : Str)) = false) : EV C n env ρ σ (.Name x pos) K :=
  fun A W s Q E r I l hk => by
    obtain ⟨m, hn, hr⟩ := l.ns
    obtain ⟨v, hv, rv⟩ := hr _ _ hx
    exact wpAny_Name (wpAny_loadName_local hf hl hn hv (hk _ _ _ _ _ h I .refl rv)) hd

/-- a name of the module: the value v, which is p -/
theorem ev_glob {x : Str} {pos : Pos} {p : PV} {v : Value} (hg : C.mg x = some v) (hp : ∀ W, (∀ a o, C.h₀.get? a = some o → W a o) → Rep W p v) (h : K p σ) (hf : env.scope.kind = .function) (hl : env.kindOf x = some .globalImplicit)
    (he : env.globals = mainGlobals) (hd : (x == ("__debug__" : Str)) = false) : EV C n env ρ σ (.Name x pos) K :=
  fun A W s Q E r I l hk => Name_function_global hf hl (loadGlobal_global (mg := C.mg) (by rw [he]; exact I.g) hg (hk _ _ _ _ _ h I .refl (hp W I.h0))) hd

theorem ev_bin {a b : Expr} {op : Operator} {pos : Pos} (h : EV C n env ρ σ a fun p σ1 => EV C n env ρ σ1 b fun q σ2 => OP2 C n σ2 (binaryOp op) p q K) : EV C n env ρ σ (.BinOp a op b pos) K :=
  fun A W s Q E r I l hk => wpAny_BinOp (h A W s _ E r I l fun v1 s1 p σ1 W1 h1 I1 st1 r1 =>
    h1 A W1 s1 _ E r I1 (l.step0 st1) fun v2 s2 q σ2 W2 h2 I2 st2 r2 => h2 A W2 s2 Q E v1 v2 r I2 (Rep.mono st2.le _ _ r1) r2 fun v s' t σ' W' h3 I3 st3 r3 =>
      hk v s' t σ' W' h3 I3 ((st1.trans st2).trans st3) r3)
theorem ev_un {a : Expr} {op : UnaryOp} {pos : Pos} (h : EV C n env ρ σ a fun p σ1 => OP1 C n σ1 (unaryOp op) p K) : EV C n env ρ σ (.UnaryOp op a pos) K :=
  fun A W s Q E r I l hk => wpAny_UnaryOp (h A W s _ E r I l fun v1 s1 p σ1 W1 h1 I1 st1 r1 => h1 A W1 s1 Q E v1 r I1 r1 fun v s' t σ' W' h3 I3 st3 r3 => hk v s' t σ' W' h3 I3 (st1.trans st3) r3)
theorem ev_cmp {a b : Expr} {op : CmpOp} {pos : Pos} (h : EV C n env ρ σ a fun p σ1 => EV C n env ρ σ1 b fun q σ2 => OP2 C n σ2 (compareOp op) p q K)
    (hm : behindInMarks op b = false) : EV C n env ρ σ (.Compare a [op] [b] pos) K :=
  fun A W s Q E r I l hk => wpAny_Compare1 (h A W s _ E r I l fun v1 s1 p σ1 W1 h1 I1 st1 r1 =>
    h1 A W1 s1 _ E r I1 (l.step0 st1) fun v2 s2 q σ2 W2 h2 I2 st2 r2 => h2 A W2 s2 Q E v1 v2 r I2 (Rep.mono st2.le _ _ r1) r2 fun v s' t σ' W' h3 I3 st3 r3 =>
      hk v s' t σ' W' h3 I3 ((st1.trans st2).trans st3) r3) hm

theorem op2_here {t : Value → Value → Sem Value} {p q r : PV} (h : K r σ)
    (hr : ∀ (A : Around) (W : Ice) (s : Shared) (Q : Value → Shared → Prop) (E : Value → Shared → Prop) (a b : Value), Room A n → Inv C W σ s → Rep W p a → Rep W q b → (∀ v t, Rep W r v → Q v { s with toks := t }) → wpAny (model C.prog C.w) A (t a b) Q E s) :
    OP2 C n σ t p q K :=
  fun A W s Q E a b ro I ra rb hk => hr A W s Q E a b ro I ra rb fun v t rv => hk v _ r σ W h (I.toks t) (.toks t) rv

theorem op_add_int {i j : Int} (h : K (.int (i + j)) σ) : OP2 C n σ (binaryOp .Add) (.int i) (.int j) K :=
  op2_here h fun A W s Q E a b ro I ra rb hk => by
    obtain ⟨t, rfl⟩ := ra; obtain ⟨u, rfl⟩ := rb
    exact add_int (hk _ _ ⟨_, rfl⟩)
theorem op_sub_int {i j : Int} (h : K (.int (i - j)) σ) : OP2 C n σ (binaryOp .Sub) (.int i) (.int j) K :=
  op2_here h fun A W s Q E a b ro I ra rb hk => by
    obtain ⟨t, rfl⟩ := ra; obtain ⟨u, rfl⟩ := rb
    exact sub_int (hk _ _ ⟨_, rfl⟩)
theorem op_mul_int {i j : Int} (hok : IntMulOk i j) (h : K (.int (i * j)) σ) : OP2 C n σ (binaryOp .Mult) (.int i) (.int j) K :=
  op2_here h fun A W s Q E a b ro I ra rb hk => by
    obtain ⟨t, rfl⟩ := ra; obtain ⟨u, rfl⟩ := rb
    exact mul_int (hk _ _ ⟨_, rfl⟩) hok
theorem op_mod_int {i j : Int} (hj : j ≠ 0) (h : K (.int (i.fmod j)) σ) : OP2 C n σ (binaryOp .Mod) (.int i) (.int j) K :=
  op2_here h fun A W s Q E a b ro I ra rb hk => by
    obtain ⟨t, rfl⟩ := ra; obtain ⟨u, rfl⟩ := rb
    exact mod_int hj (hk _ _ ⟨_, rfl⟩)
theorem op_div_int {i j : Int} (hj : j ≠ 0) (hp : Builtin.divisionGoesByPylong i j = false) (h : K (.int (i.fdiv j)) σ) : OP2 C n σ (binaryOp .FloorDiv) (.int i) (.int j) K :=
  op2_here h fun A W s Q E a b ro I ra rb hk => by
    obtain ⟨t, rfl⟩ := ra; obtain ⟨u, rfl⟩ := rb
    exact floordiv_int hj (hk _ _ ⟨_, rfl⟩) (.inl hp)
theorem op_add_str {x y : Str} (hz : x.length + y.length ≤ sizeLine) (h : K (.str (x ++ y)) σ) : OP2 C n σ (binaryOp .Add) (.str x) (.str y) K :=
  op2_here h fun A W s Q E a b ro I ra rb hk => by
    obtain ⟨t, rfl⟩ := ra; obtain ⟨u, rfl⟩ := rb
    exact add_str (fun t' tk => hk _ _ ⟨_, rfl⟩) hz
theorem op_neg {i : Int} (h : K (.int (-i)) σ) : OP1 C n σ (unaryOp .USub) (.int i) K :=
  fun A W s Q E a ro I ra hk => by
    obtain ⟨t, rfl⟩ := ra
    exact neg_int (hk _ _ _ _ _ h (I.toks _) (.toks _) ⟨_, rfl⟩)

theorem op_eq_int {i j : Int} (h : K (.bool (i == j)) σ) : OP2 C n σ (compareOp .Eq) (.int i) (.int j) K :=
  op2_here h fun A W s Q E a b ro I ra rb hk => by
    obtain ⟨t, rfl⟩ := ra; obtain ⟨u, rfl⟩ := rb
    exact eq_int (hk _ _ rfl)
theorem op_ne_int {i j : Int} (h : K (.bool (i != j)) σ) : OP2 C n σ (compareOp .NotEq) (.int i) (.int j) K :=
  op2_here h fun A W s Q E a b ro I ra rb hk => by
    obtain ⟨t, rfl⟩ := ra; obtain ⟨u, rfl⟩ := rb
    exact ne_int (hk _ _ rfl)
theorem op_lt_int {i j : Int} (h : K (.bool (decide (i < j))) σ) : OP2 C n σ (compareOp .Lt) (.int i) (.int j) K :=
  op2_here h fun A W s Q E a b ro I ra rb hk => by
    obtain ⟨t, rfl⟩ := ra; obtain ⟨u, rfl⟩ := rb
    exact lt_int (hk _ _ rfl)
theorem op_le_int {i j : Int} (h : K (.bool (decide (i ≤ j))) σ) : OP2 C n σ (compareOp .LtE) (.int i) (.int j) K :=
  op2_here h fun A W s Q E a b ro I ra rb hk => by
    obtain ⟨t, rfl⟩ := ra; obtain ⟨u, rfl⟩ := rb
    exact le_int (hk _ _ rfl)
theorem op_gt_int {i j : Int} (h : K (.bool (decide (j < i))) σ) : OP2 C n σ (compareOp .Gt) (.int i) (.int j) K :=
  op2_here h fun A W s Q E a b ro I ra rb hk => by
    obtain ⟨t, rfl⟩ := ra; obtain ⟨u, rfl⟩ := rb
    exact gt_int (hk _ _ rfl)
theorem op_ge_int {i j : Int} (h : K (.bool (decide (j ≤ i))) σ) : OP2 C n σ (compareOp .GtE) (.int i) (.int j) K :=
  op2_here h fun A W s Q E a b ro I ra rb hk => by
    obtain ⟨t, rfl⟩ := ra; obtain ⟨u, rfl⟩ := rb
    exact ge_int (hk _ _ rfl)
theorem op_eq_str {i j : Str} (h : K (.bool (i == j)) σ) : OP2 C n σ (compareOp .Eq) (.str i) (.str j) K :=
  op2_here h fun A W s Q E a b ro I ra rb hk => by
    obtain ⟨t, rfl⟩ := ra; obtain ⟨u, rfl⟩ := rb
    exact eq_str (hk _ _ rfl)
theorem op_ne_str {i j : Str} (h : K (.bool (i != j)) σ) : OP2 C n σ (compareOp .NotEq) (.str i) (.str j) K :=
  op2_here h fun A W s Q E a b ro I ra rb hk => by
    obtain ⟨t, rfl⟩ := ra; obtain ⟨u, rfl⟩ := rb
    exact ne_str (hk _ _ rfl)

/-- «is» against none, and of two bools -/
noncomputable def PV.isNone : PV → Bool
  | .none => true
  | _ => false
theorem rep_none_eq {W : Ice} {p : PV} {v : Value} (r : Rep W p v) : (v == Value.none) = p.isNone := by
  cases p <;> simp only [Rep] at r
  · subst r; rfl
  · subst r; rfl
  · obtain ⟨t, rfl⟩ := r; rfl
  · obtain ⟨t, rfl⟩ := r; rfl
  · obtain ⟨_, _, _, rfl, _⟩ := r; rfl
  · obtain ⟨_, _, _, rfl, _⟩ := r; rfl
  · obtain ⟨_, _, _, _, rfl, _⟩ := r; rfl
  · subst r; rfl
theorem op_is_none {p : PV} (h : K (.bool p.isNone) σ) : OP2 C n σ (compareOp .Is) p .none K :=
  op2_here h fun A W s Q E a b ro I ra rb hk => by
    have rb' : b = .none := rb
    subst rb'
    refine wpAny_is_plain ?_ (hk _ _ ?_)
    · have := rep_none_eq ra
      cases p <;> simp only [Rep] at ra <;> first | (subst ra; rfl) | (obtain ⟨t, rfl⟩ := ra; rfl) | (obtain ⟨_, _, _, rfl, _⟩ := ra; rfl) | (obtain ⟨_, _, _, _, rfl, _⟩ := ra; rfl)
    · rw [rep_none_eq ra]; rfl
theorem op_isNot_none {p : PV} (h : K (.bool (!p.isNone)) σ) : OP2 C n σ (compareOp .IsNot) p .none K :=
  op2_here h fun A W s Q E a b ro I ra rb hk => by
    have rb' : b = .none := rb
    subst rb'
    refine wpAny_isNot_plain ?_ (hk _ _ ?_)
    · have := rep_none_eq ra
      cases p <;> simp only [Rep] at ra <;> first | (subst ra; rfl) | (obtain ⟨t, rfl⟩ := ra; rfl) | (obtain ⟨_, _, _, rfl, _⟩ := ra; rfl) | (obtain ⟨_, _, _, _, rfl, _⟩ := ra; rfl)
    · rw [rep_none_eq ra]; rfl
theorem op_isNot_bool {a b : Bool} (h : K (.bool (!(a == b))) σ) : OP2 C n σ (compareOp .IsNot) (.bool a) (.bool b) K :=
  op2_here h fun A W s Q E x y ro I ra rb hk => by
    have ra' : x = .bool a := ra
    have rb' : y = .bool b := rb
    subst ra' rb'
    refine wpAny_isNot_plain rfl (hk _ _ ?_)
    cases a <;> cases b <;> rfl

/-- lists and tuples written out -/
theorem es_nil {pos : Pos} {K : List PV → Sig → Prop} (h : K [] σ) : ES C n env ρ σ pos [] K :=
  fun A W s Q E r I l hk => args_nil (hk _ _ _ _ _ h I .refl rfl)
theorem es_cons {pos : Pos} {e : Expr} {rest : List Expr} {K : List PV → Sig → Prop} (h : EV C n env ρ σ e fun p σ1 => ES C n env ρ σ1 pos rest fun ps σ2 => K (p :: ps) σ2)
    (he : starEach (e :: rest) env = (false, eval e env) :: starEach rest env := by rfl) : ES C n env ρ σ pos (e :: rest) K :=
  fun A W s Q E r I l hk => args_cons (h A W s _ E r I l fun v1 s1 p σ1 W1 h1 I1 st1 r1 => h1 A W1 s1 _ E r I1 (l.step0 st1) fun vs s2 ps σ2 W2 h2 I2 st2 r2 =>
    hk _ _ _ _ _ h2 I2 (st1.trans st2) (.cons (Rep.mono st2.le _ _ r1) r2)) he
theorem ES.mono {pos : Pos} {es : List Expr} {K K' : List PV → Sig → Prop} (h : ES C n env ρ σ pos es K) (hk : ∀ p σ', K p σ' → K' p σ') : ES C n env ρ σ pos es K' :=
  fun A W s Q E r I l k => h A W s Q E r I l (fun v s' p σ' W' a => k v s' p σ' W' (hk _ _ a))

theorem ev_list {es : List Expr} {pos : Pos} (h : ES C n env ρ σ pos es fun ps σ1 => ps.length ≤ 1000 ∧ K (.list ps) σ1) : EV C n env ρ σ (.List es pos) K :=
  fun A W s Q E r I l hk => wpAny_List (h A W s _ E r I l fun vs s1 ps σ1 W1 h1 I1 st1 r1 => by
    have hsz := h1.1
    rw [← r1.length] at hsz
    refine ⟨by rw [sizeLine_eq]; omega, ?_⟩
    exact hk _ _ _ _ _ h1.2 (I1.pushIce (lsO vs 0) s1.toks rfl) (st1.trans (.pushIce (lsO vs 0) s1.toks)) ⟨_, vs, 0, rfl, Ice.add_self, r1.mono Ice.le_add⟩)
theorem ev_tuple {es : List Expr} {k : Nat} {pos : Pos} (h : ES C n env ρ σ pos es fun ps σ1 => ps.length ≤ 1000 ∧ K (.tup ps) σ1) : EV C n env ρ σ (.Tuple es k pos) K :=
  fun A W s Q E r I l hk => wpAny_Tuple_spliced (h A W s _ E r I l fun vs s1 ps σ1 W1 h1 I1 st1 r1 => by
    have hsz := h1.1
    rw [← r1.length] at hsz
    refine ⟨by rw [sizeLine_eq]; omega, ?_⟩
    exact hk _ _ _ _ _ h1.2 (I1.pushIce (tpO vs 0) s1.toks rfl) (st1.trans (.pushIce (tpO vs 0) s1.toks)) ⟨_, vs, 0, rfl, Ice.add_self, r1.mono Ice.le_add⟩)
/-- an empty list that is to turn -/
theorem ev_list_cell {pos : Pos} (h : ∀ a, a ∉ foots σ → K (.ref a) ((a, .lst []) :: σ)) : EV C n env ρ σ (.List [] pos) K :=
  fun A W s Q E r I l hk => wpAny_List (args_nil (by
    refine ⟨Nat.zero_le _, ?_⟩
    have hn : s.heap.objs.size ∉ foots σ := fun h => absurd (I.footLt _ h) (Nat.lt_irrefl _)
    have I1 := I.push (lsO [] 0) s.toks
    refine hk _ _ _ ((s.heap.objs.size, .lst []) :: σ) W (h _ hn) ⟨I1.ok, I1.ice, I1.h0, fun p hp => ?_, ?_, fun a o w hf => ?_, I1.gens, I1.os⟩
      ⟨.refl, fun _ _ h => .inl h, fun _ _ e _ _ => Heap.get?_push_of_some _ e, there_of_keep fun _ _ e => Heap.get?_push_of_some _ e, fun a h => ?_⟩ rfl
    · rcases List.mem_cons.mp hp with rfl | hp
      · exact ⟨[], 0, Heap.get?_push_size _ rfl, rfl⟩
      · exact I1.cells p hp
    · show (s.heap.objs.size :: foots σ).Nodup
      exact List.nodup_cons.mpr ⟨hn, I.nodup⟩
    · change a ∈ s.heap.objs.size :: foots σ at hf
      rcases List.mem_cons.mp hf with rfl | hf
      · exact absurd (I.iceLt _ _ w) (Nat.lt_irrefl _)
      · exact I.apart _ _ w hf
    · change a ∈ s.heap.objs.size :: foots σ at h
      rcases List.mem_cons.mp h with rfl | h
      · exact .inr (get_size_none _)
      · exact .inl h))

/-- tests -/
theorem tb_mono {e : Expr} {K K' : Bool → Sig → Prop} (h : TB C n env ρ σ e K) (hk : ∀ p σ', K p σ' → K' p σ') : TB C n env ρ σ e K' :=
  fun A W s Q E r I l k => h A W s Q E r I l (fun v s' σ' W' a => k v s' σ' W' (hk _ _ a))
theorem tb_plain {e : Expr} {K : Bool → Sig → Prop} (h : EV C n env ρ σ e fun p σ1 => ∃ b, p = .bool b ∧ K b σ1)
    (he : ∀ whole, isTrue e env whole = (do let v ← whole; standAt e.pos; holding [v] (truthy v)) := by intro _; rfl) : TB C n env ρ σ e K :=
  fun A W s Q E r I l hk => wpAny_isTrue_value (h A W s _ E r I l fun v1 s1 p σ1 W1 h1 I1 st1 r1 => by
    obtain ⟨b, rfl, h1⟩ := h1
    have r1' : v1 = .bool b := r1
    subst r1'
    exact wpAny_truthy_bool (hk _ _ _ _ h1 I1 st1)) (he _)
theorem tb_cmp {a b : Expr} {op : CmpOp} {pos : Pos} {K : Bool → Sig → Prop} (h : EV C n env ρ σ a fun p σ1 => EV C n env ρ σ1 b fun q σ2 => OP2 C n σ2 (compareOp op) p q fun p σ3 => ∃ b, p = .bool b ∧ K b σ3)
    (hm : behindInMarks op b = false) : TB C n env ρ σ (.Compare a [op] [b] pos) K :=
  fun A W s Q E r I l hk => wpAny_isTrue_Compare1 (h A W s _ E r I l fun v1 s1 p σ1 W1 h1 I1 st1 r1 =>
    h1 A W1 s1 _ E r I1 (l.step0 st1) fun v2 s2 q σ2 W2 h2 I2 st2 r2 => h2 A W2 s2 _ E v1 v2 r I2 (Rep.mono st2.le _ _ r1) r2 fun v s' t σ' W' h3 I3 st3 r3 => by
      obtain ⟨b, rfl, h3⟩ := h3
      have r3' : v = .bool b := r3
      subst r3'
      exact wpAny_truthy_bool (hk _ _ _ _ h3 I3 ((st1.trans st2).trans st3))) hm
theorem tb_not {e : Expr} {pos : Pos} {K : Bool → Sig → Prop} (h : TB C n env ρ σ e fun b σ1 => K (!b) σ1) : TB C n env ρ σ (.UnaryOp .Not e pos) K :=
  fun A W s Q E r I l hk => wpAny_isTrue_Not (h A W s _ E r I l fun b s1 σ1 W1 h1 I1 st1 => hk _ _ _ _ h1 I1 st1)
noncomputable def TA (C : Cx) (n : Nat) (env : Env) (ρ : List (Str × PV)) (σ : Sig) (op : BoolOp) (es : List Expr) (K : Bool → Sig → Prop) : Prop :=
  ∀ (A : Around) (W : Ice) (s : Shared) (Q : Bool → Shared → Prop) (E : Value → Shared → Prop), Room A n → Inv C W σ s → Loc env ρ W σ s →
    (∀ b s' σ' W', K b σ' → Inv C W' σ' s' → Step [] W W' σ σ' s s' → Q b s') → wpAny (model C.prog C.w) A (allTrue op es env) Q E s
theorem tb_bool {op : BoolOp} {es : List Expr} {pos : Pos} {K : Bool → Sig → Prop} (h : TA C n env ρ σ op es K) : TB C n env ρ σ (.BoolOp op es pos) K :=
  fun A W s Q E r I l hk => wpAny_isTrue_BoolOp (h A W s Q E r I l hk)
theorem ta_and_nil {K : Bool → Sig → Prop} (h : K true σ) : TA C n env ρ σ .And [] K := fun A W s Q E r I l hk => wpAny_allTrue_And_nil (hk _ _ _ _ h I .refl)
theorem ta_or_nil {K : Bool → Sig → Prop} (h : K false σ) : TA C n env ρ σ .Or [] K := fun A W s Q E r I l hk => wpAny_allTrue_Or_nil (hk _ _ _ _ h I .refl)
theorem ta_and {e : Expr} {es : List Expr} {K : Bool → Sig → Prop} (h : TB C n env ρ σ e fun b σ1 => (b = true → TA C n env ρ σ1 .And es K) ∧ (b = false → K false σ1)) : TA C n env ρ σ .And (e :: es) K :=
  fun A W s Q E r I l hk => wpAny_allTrue_And_cons (h A W s _ E r I l fun b s1 σ1 W1 h1 I1 st1 => by
    cases b with
    | true => rw [if_pos rfl]; exact h1.1 rfl A W1 s1 Q E r I1 (l.step0 st1) fun b s2 σ2 W2 h2 I2 st2 => hk _ _ _ _ h2 I2 (st1.trans st2)
    | false => rw [if_neg (by decide)]; exact hk _ _ _ _ (h1.2 rfl) I1 st1)
theorem ta_or {e : Expr} {es : List Expr} {K : Bool → Sig → Prop} (h : TB C n env ρ σ e fun b σ1 => (b = false → TA C n env ρ σ1 .Or es K) ∧ (b = true → K true σ1)) : TA C n env ρ σ .Or (e :: es) K :=
  fun A W s Q E r I l hk => wpAny_allTrue_Or_cons (h A W s _ E r I l fun b s1 σ1 W1 h1 I1 st1 => by
    cases b with
    | false => rw [if_neg (by decide)]; exact h1.1 rfl A W1 s1 Q E r I1 (l.step0 st1) fun b s2 σ2 W2 h2 I2 st2 => hk _ _ _ _ h2 I2 (st1.trans st2)
    | true => rw [if_pos rfl]; exact hk _ _ _ _ (h1.2 rfl) I1 st1)
/-- a chain of three -/
theorem tb_chain {a b c : Expr} {op op' : CmpOp} {pos : Pos} {K : Bool → Sig → Prop}
    (h : EV C n env ρ σ a fun p σ1 => EV C n env ρ σ1 b fun q σ2 => OP2 C n σ2 (compareOp op) p q fun r σ3 => ∃ x, r = .bool x ∧ (x = false → K false σ3) ∧
      (x = true → EV C n env ρ σ3 c fun t σ4 => OP2 C n σ4 (compareOp op') q t fun r' σ5 => ∃ y, r' = .bool y ∧ K y σ5))
    (hm : lastMarks [op, op'] [b, c] = false) : TB C n env ρ σ (.Compare a [op, op'] [b, c] pos) K :=
  fun A W s Q E r I l hk => isTrue_chain (h A W s _ E r I l fun v1 s1 p σ1 W1 h1 I1 st1 r1 => by
    unfold testChain
    refine wpAny_bind (wpAny_holding (h1 A W1 s1 _ E r I1 (l.step0 st1) fun v2 s2 q σ2 W2 h2 I2 st2 r2 => wpAny_bind (wpAny_standAt ?_)))
    refine wpAny_bind (wpAny_holding (h2 A W2 s2 _ E v1 v2 r I2 (Rep.mono st2.le _ _ r1) r2 fun v3 s3 p3 σ3 W3 h3 I3 st3 r3 => ?_))
    obtain ⟨x, rfl, hf, ht⟩ := h3
    have r3' : v3 = .bool x := r3
    subst r3'
    refine wpAny_bind (wpAny_release (wpAny_bind (wpAny_holding (wpAny_truthy_bool ?_))))
    cases x with
    | false => rw [if_neg (by decide)]; exact wpAny_pure (hk _ _ _ _ (hf rfl) I3 ((st1.trans st2).trans st3))
    | true =>
      rw [if_pos rfl]
      unfold testChain
      refine wpAny_bind (wpAny_holding (ht rfl A W3 s3 _ E r I3 (l.step0 ((st1.trans st2).trans st3)) fun v4 s4 p4 σ4 W4 h4 I4 st4 r4 => wpAny_bind (wpAny_standAt ?_)))
      refine wpAny_bind (wpAny_operating (h4 A W4 s4 _ E v2 v4 r I4 (Rep.mono (st3.le.trans st4.le) _ _ r2) r4 fun v5 s5 p5 σ5 W5 h5 I5 st5 r5 => ?_))
      obtain ⟨y, rfl, h5⟩ := h5
      have r5' : v5 = .bool y := r5
      subst r5'
      exact wpAny_holding (wpAny_truthy_bool (hk _ _ _ _ h5 I5 ((((st1.trans st2).trans st3).trans st4).trans st5)))) hm

theorem ev_if {t a b : Expr} {pos : Pos} (h : TB C n env ρ σ t fun c σ1 => (c = true → EV C n env ρ σ1 a K) ∧ (c = false → EV C n env ρ σ1 b K)) : EV C n env ρ σ (.IfExp t a b pos) K :=
  fun A W s Q E r I l hk => wpAny_IfExp (h A W s _ E r I l fun c s1 σ1 W1 h1 I1 st1 => by
    cases c with
    | true => rw [if_pos rfl]; exact h1.1 rfl A W1 s1 Q E r I1 (l.step0 st1) fun v s' p σ' W' h2 I2 st2 r2 => hk v s' p σ' W' h2 I2 (st1.trans st2) r2
    | false => rw [if_neg (by decide)]; exact h1.2 rfl A W1 s1 Q E r I1 (l.step0 st1) fun v s' p σ' W' h2 I2 st2 r2 => hk v s' p σ' W' h2 I2 (st1.trans st2) r2)
/-- «and», «or» as values, of bools -/
theorem ev_and {a b : Expr} {pos : Pos} (h : EV C n env ρ σ a fun p σ1 => ∃ x, p = .bool x ∧ (x = true → EV C n env ρ σ1 b K) ∧ (x = false → K (.bool false) σ1)) : EV C n env ρ σ (.BoolOp .And [a, b] pos) K :=
  fun A W s Q E r I l hk => wpAny_And2 (h A W s _ E r I l fun v1 s1 p σ1 W1 h1 I1 st1 r1 => by
    obtain ⟨x, rfl, ht, hf⟩ := h1
    have r1' : v1 = .bool x := r1
    subst r1'
    refine wpAny_truthy_bool ?_
    cases x with
    | true => rw [if_pos rfl]; exact ht rfl A W1 s1 Q E r I1 (l.step0 st1) fun v s' p σ' W' h2 I2 st2 r2 => hk v s' p σ' W' h2 I2 (st1.trans st2) r2
    | false => rw [if_neg (by decide)]; exact hk _ _ _ _ _ (hf rfl) I1 st1 rfl)
theorem ev_or {a b : Expr} {pos : Pos} (h : EV C n env ρ σ a fun p σ1 => ∃ x, p = .bool x ∧ (x = false → EV C n env ρ σ1 b K) ∧ (x = true → K (.bool true) σ1)) : EV C n env ρ σ (.BoolOp .Or [a, b] pos) K :=
  fun A W s Q E r I l hk => wpAny_Or2 (h A W s _ E r I l fun v1 s1 p σ1 W1 h1 I1 st1 r1 => by
    obtain ⟨x, rfl, ht, hf⟩ := h1
    have r1' : v1 = .bool x := r1
    subst r1'
    refine wpAny_truthy_bool ?_
    cases x with
    | false => rw [if_neg (by decide)]; exact ht rfl A W1 s1 Q E r I1 (l.step0 st1) fun v s' p σ' W' h2 I2 st2 r2 => hk v s' p σ' W' h2 I2 (st1.trans st2) r2
    | true => rw [if_pos rfl]; exact hk _ _ _ _ _ (hf rfl) I1 st1 rfl)

end Sol
end

section
open PySem PySem.W PySem.Calls PyProof.Rows PySem.SeqAt PySem.SeqRoads2 PySem.MeetsSeq3 PySem.P
namespace Sol
variable {C : Cx} {n : Nat} {env : Env} {ρ : List (Str × PV)} {σ : Sig} {K : PV → Sig → Prop}

theorem Inv.isList {W s} (I : Inv C W σ s) {a : Addr} {vs : List Value} {k : Nat} (w : W a (lsO vs k)) : s.heap.IsList a vs.toArray := ⟨_, I.ice _ _ w, rfl, k, rfl⟩
theorem Inv.isTup {W s} (I : Inv C W σ s) {a : Addr} {vs : List Value} {k : Nat} (w : W a (tpO vs k)) : s.heap.IsTuple a vs.toArray := ⟨_, I.ice _ _ w, rfl, k, rfl⟩

/-- the same value is the same text -/
theorem repL_get {W : Ice} {ps : List PV} {vs : List Value} (r : RepL W ps vs) (j : Nat) (h : j < vs.length) : ∃ p, ps[j]? = some p ∧ Rep W p vs[j] := by
  have hl := r.length
  have : j < ps.length := by omega
  obtain ⟨v, hv, rv⟩ := r.get (List.getElem?_eq_getElem this)
  refine ⟨ps[j], List.getElem?_eq_getElem this, ?_⟩
  rw [List.getElem?_eq_getElem h] at hv
  cases hv; exact rv

/-- texts, and pairs of texts -/
noncomputable def pair (x y : Str) : PV := .tup [.str x, .str y]

theorem repStr {W : Ice} {x : Str} {v : Value} (r : Rep W (.str x) v) : ∃ t, v = .str x t := r
theorem rep_pair {W : Ice} {x y : Str} {v : Value} (r : Rep W (pair x y) v) : ∃ a t u k, v = .ref a ∧ W a (tpO [.str x t, .str y u] k) := by
  obtain ⟨a, vs, k, rfl, w, rl⟩ := r
  obtain ⟨v1, r1, rfl, ⟨t, rfl⟩, rl⟩ := rl
  obtain ⟨v2, r2, rfl, ⟨u, rfl⟩, rl⟩ := rl
  simp only [RepL] at rl
  subst rl
  exact ⟨a, t, u, k, rfl, w⟩

theorem eqAt_pair {W : Ice} {s : Shared} {A : Around} (I : Inv C W σ s) (hu : A.units < cLine) {x y x' y' : Str} {v v' : Value} (r : Rep W (pair x y) v) (r' : Rep W (pair x' y') v') :
    EqAt A s v v' (x == x' && y == y') := by
  obtain ⟨a, t, u, k, rfl, w⟩ := rep_pair r
  obtain ⟨a', t', u', k', rfl, w'⟩ := rep_pair r'
  by_cases h : a = a'
  · subst h
    have e1 := I.ice _ _ w
    have e2 := I.ice _ _ w'
    rw [e1] at e2
    simp only [Option.some.injEq, Obj.mk.injEq, Data.seq.injEq, List.toArray, Array.mk.injEq, List.cons.injEq, Value.str.injEq, true_and, and_true] at e2
    obtain ⟨⟨⟨rfl, _⟩, ⟨rfl, _⟩⟩, _⟩ := e2
    have hb : (x == x && y == y) = true := by simp
    rw [hb]
    exact EqAt.same _
  · refine EqAt.of_refs h ?_
    have := RcAt.tuples (A := A) (s := s) (e := fun j => if j = 0 then x == x' else y == y') (I.isTup w) (I.isTup w') hu (fun j h1 h2 => by
      match j, h1 with
      | 0, _ => exact EqAt.str_str x t x' t'
      | 1, _ => exact EqAt.str_str y u y' u')
    have e : ((List.range (min [Value.str x t, Value.str y u].toArray.size [Value.str x' t', Value.str y' u'].toArray.size)).all (fun j => if j = 0 then x == x' else y == y') && [Value.str x t, Value.str y u].toArray.size == [Value.str x' t', Value.str y' u'].toArray.size) = (x == x' && y == y') := by
      show ((x == x' && (y == y' && true)) && true) = _
      rw [Bool.and_true, Bool.and_true]
    rw [e] at this
    exact this

theorem op_eq_pair {x y x' y' : Str} (h : K (.bool (x == x' && y == y')) σ) : OP2 C n σ (compareOp .Eq) (pair x y) (pair x' y') K :=
  op2_here h fun A W s Q E a b ro I ra rb hk => by
    obtain ⟨a, t, u, k, rfl, w⟩ := rep_pair ra
    obtain ⟨a', t', u', k', rfl, w'⟩ := rep_pair rb
    have := RcAt.tuples (A := A) (s := s) (e := fun j => if j = 0 then x == x' else y == y') (I.isTup w) (I.isTup w') (by have := ro.units; omega) (fun j h1 h2 => by
      match j, h1 with
      | 0, _ => exact EqAt.str_str x t x' t'
      | 1, _ => exact EqAt.str_str y u y' u')
    have e : ((List.range (min [Value.str x t, Value.str y u].toArray.size [Value.str x' t', Value.str y' u'].toArray.size)).all (fun j => if j = 0 then x == x' else y == y') && [Value.str x t, Value.str y u].toArray.size == [Value.str x' t', Value.str y' u'].toArray.size) = (x == x' && y == y') := by
      show ((x == x' && (y == y' && true)) && true) = _
      rw [Bool.and_true, Bool.and_true]
    rw [e] at this
    exact this _ _ _ _ (hk _ _ rfl)

/-- a list of pairs against a list of one written pair -/
noncomputable def pairs (l : List (Str × Str)) : PV := .list (l.map fun p => pair p.1 p.2)
theorem op_eq_pairs1 (hn : 1 ≤ n) {l : List (Str × Str)} {x y : Str} (h : K (.bool (l == [(x, y)])) σ) : OP2 C n σ (compareOp .Eq) (pairs l) (.list [pair x y]) K :=
  op2_here h fun A W s Q E a b ro I ra rb hk => by
    obtain ⟨a, vs, k, rfl, w, rl⟩ := ra
    obtain ⟨b, us, k', rfl, w', rl'⟩ := rb
    have hl := rl.length
    have hl' := rl'.length
    simp only [List.length_map, List.length_cons, List.length_nil] at hl hl'
    have hu : A.units < cLine := by have := ro.units; omega
    have hu1 : A.in1.units < cLine := by have := ro.units; show A.units + 1 < cLine; omega
    by_cases hz : l.length = 1
    · obtain ⟨p, rfl⟩ : ∃ p, l = [p] := by
        match l, hz with
        | [p], _ => exact ⟨p, rfl⟩
      obtain ⟨v, vr, rfl, rv, rl⟩ := rl
      obtain ⟨u, ur, rfl, ru, rl'⟩ := rl'
      simp only [RepL] at rl rl'
      subst rl rl'
      refine eq_listAt (e := fun _ => p.1 == x && p.2 == y) (I.isList w) (I.isList w') rfl hu (fun j h1 h2 => ?_) (hk _ _ ?_)
      · match j, h1 with
        | 0, _ => exact eqAt_pair I hu1 rv ru
      · show Value.bool _ = Value.bool _
        congr 1
    · refine eq_list_lengthsAt (I.isList w) (I.isList w') ?_ hu (hk _ _ ?_)
      · simp only [List.size_toArray, hl, hl', bne_iff_ne, ne_eq]; exact hz
      · show Value.bool _ = Value.bool _
        congr 1
        have : l ≠ [(x, y)] := by rintro rfl; exact hz rfl
        simp [this]

/-- a list against the empty one -/
theorem op_ne_nil {ps : List PV} (h : K (.bool (!ps.isEmpty)) σ) : OP2 C n σ (compareOp .NotEq) (.list ps) (.list []) K :=
  op2_here h fun A W s Q E a b ro I ra rb hk => by
    obtain ⟨a, vs, k, rfl, w, rl⟩ := ra
    obtain ⟨b, us, k', rfl, w', rl'⟩ := rb
    have hl := rl.length
    simp only [RepL] at rl'
    subst rl'
    have hu : A.units < cLine := by have := ro.units; omega
    cases ps with
    | nil =>
      simp only [List.length_nil, List.length_eq_zero_iff] at hl
      subst hl
      exact RcNeAt.lists (e := fun _ => true) (I.isList w) (I.isList w') rfl hu (fun j h1 h2 => absurd h1 (by simp)) _ _ _ _ (hk _ _ rfl)
    | cons p ps =>
      refine RcNeAt.lists_lengths (I.isList w) (I.isList w') ?_ hu _ _ _ _ (hk _ _ rfl)
      simp only [List.size_toArray, hl, List.length_cons, List.length_nil, bne_iff_ne, ne_eq]; omega

/-- a text in a tuple of texts; in a text -/
theorem op_in_strs {x : Str} {ys : List Str} (h : K (.bool (ys.any (· == x))) σ) : OP2 C n σ (compareOp .In) (.str x) (.tup (ys.map .str)) K :=
  op2_here h fun A W s Q E a b ro I ra rb hk => by
    obtain ⟨t, rfl⟩ := ra
    obtain ⟨b, us, k', rfl, w', rl⟩ := rb
    refine in_tupleAt (fun v => v.isStr x) (I.isTup w') (fun y hy => ?_) (hk _ _ ?_)
    · obtain ⟨j, hj, rfl⟩ := List.mem_iff_getElem.mp (List.mem_toArray.mp hy)
      obtain ⟨p, hp, rp⟩ := repL_get rl j hj
      rw [List.getElem?_map] at hp
      cases hq : ys[j]? with
      | none => rw [hq] at hp; cases hp
      | some z =>
        rw [hq] at hp
        cases hp
        obtain ⟨u, e⟩ := rp
        rw [e]
        exact EqAt.str_str z u x t
    · show Value.bool _ = Value.bool _
      congr 1
      rw [List.any_toArray]
      clear hk w' h
      induction ys generalizing us with
      | nil => simp only [List.map_nil, RepL] at rl; subst rl; rfl
      | cons y ys ih =>
        obtain ⟨v, r, rfl, ⟨u, rfl⟩, rl⟩ := rl
        rw [List.any_cons, List.any_cons, ih _ rl]; rfl

/-- «not in» of two texts -/
theorem op_notIn_str {x y : Str} (h : K (.bool (!(!(Builtin.Str.occurrences y x 0 y.length 1).isEmpty))) σ) : OP2 C n σ (compareOp .NotIn) (.str x) (.str y) K :=
  op2_here h fun A W s Q E a b ro I ra rb hk => by
    obtain ⟨t, rfl⟩ := ra
    obtain ⟨u, rfl⟩ := rb
    exact PyProof.Rows.notIn_str (hk _ _ rfl)

/-- a new frozen list -/
theorem op_new {W : Ice} {s : Shared} {Q : Value → Shared → Prop} (I : Inv C W σ s) {ps : List PV} {vs : List Value} (r : RepL W ps vs) (h : K (.list ps) σ)
    (hk : ∀ v s' r σ' W', K r σ' → Inv C W' σ' s' → Step [] W W' σ σ' s s' → Rep W' r v → Q v s') (t : Nat) : Q (.ref s.heap.objs.size) { s with heap := s.heap.push (lsO vs 0), toks := t } :=
  hk _ _ _ _ _ h (I.pushIce (lsO vs 0) t rfl) (.pushIce (lsO vs 0) t) ⟨_, vs, 0, rfl, Ice.add_self, r.mono Ice.le_add⟩

theorem op_add_list {ps qs : List PV} (hz : ps.length + qs.length ≤ 1000) (h : K (.list (ps ++ qs)) σ) : OP2 C n σ (binaryOp .Add) (.list ps) (.list qs) K :=
  fun A W s Q E a b ro I ra rb hk => by
    obtain ⟨a, vs, k, rfl, w, rl⟩ := ra
    obtain ⟨b, us, k', rfl, w', rl'⟩ := rb
    have hl := rl.length
    have hl' := rl'.length
    have e : vs.toArray ++ us.toArray = (vs ++ us).toArray := by simp
    refine concat_meets ⟨_, I.ice _ _ w, rfl⟩ ⟨_, I.ice _ _ w', rfl⟩ noFill_list_add seq_list_add PySem.F.slot_list_add PySem.F.entry_list_add (PySem.F.args_list_add_2 _ _)
      (list_addW a b vs.toArray us.toArray k k' none none #[] #[] (by simp only [List.size_toArray, hl, hl', sizeLine_eq]; omega)) ⟨I.ice _ _ w, I.ice _ _ w', ?_⟩
    rw [e]
    exact op_new I (rl.append rl') h hk s.toks

theorem foldl_replicate (vs : List Value) : ∀ (k : Nat) (acc : Array Value), List.foldl (fun x1 x2 => x1 ++ x2) acc (List.replicate k vs.toArray) = acc ++ (List.replicate k vs).flatten.toArray
  | 0, acc => by simp
  | k + 1, acc => by
    rw [List.replicate_succ, List.foldl_cons, foldl_replicate vs k]
    simp [List.replicate_succ]
theorem RepL.flat {W : Ice} {ps : List PV} {vs : List Value} (r : RepL W ps vs) : ∀ k : Nat, RepL W (List.replicate k ps).flatten (List.replicate k vs).flatten
  | 0 => by simp [RepL]
  | k + 1 => by rw [List.replicate_succ, List.replicate_succ, List.flatten_cons, List.flatten_cons]; exact r.append (r.flat k)

theorem op_mul_list {ps : List PV} {i : Int} (hi : 0 ≤ i) (hi' : i < 1000) (hz : ps.length ≤ 1000) (h : K (.list (List.replicate i.toNat ps).flatten) σ) : OP2 C n σ (binaryOp .Mult) (.list ps) (.int i) K :=
  fun A W s Q E a b ro I ra rb hk => by
    obtain ⟨a, vs, k, rfl, w, rl⟩ := ra
    obtain ⟨u, rfl⟩ := rb
    have hl := rl.length
    have ho := I.ice _ _ w
    have hsz : vs.toArray.size * i.toNat ≤ 1000 * 1000 := Nat.mul_le_mul (by simp only [List.size_toArray, hl]; exact hz) (by omega)
    refine wpAny_binaryOp_repeat_ref (T := "list") (U := "int") (by decide) ⟨_, ho, rfl⟩ (fun s' => typeIs_int s' i u) noFill_list_mul F.fills_int_mul F.slot_int_rmul repeat_list F.slot_int_index.lookup
      (call_meets F.slot_int_rmul (typeIs_int s i u) F.entry_int_rmul (F.args_int_rmul_2 _ _) (int___rmul___int_list i u a vs.toArray k)
        ⟨ho, rfl, ⟨_, ho, rfl⟩, call_meets F.slot_list_mul ⟨_, ho, rfl⟩ F.entry_list_mul (F.args_list_mul_2 _ _)
          (AutoListH.list___mul___list_int_3 a vs.toArray k i u (by simp [Builtin.List.listFitsIndex]; omega) (by omega) (by simp [Builtin.List.listTooLong, sizeLine]; simp at hsz; omega))
          ⟨ho, ?_⟩⟩)
    have e : (List.foldl (fun x1 x2 => x1 ++ x2) #[] (List.replicate (if vs.toArray.isEmpty = true then 0 else i.toNat) vs.toArray)) = (List.replicate i.toNat vs).flatten.toArray := by
      rw [foldl_replicate]
      cases vs with
      | nil => simp
      | cons v r => simp
    rw [e]
    exact op_new I (rl.flat i.toNat) h hk s.toks

/-- items -/
theorem ev_sub {a b : Expr} {pos : Pos} (h : EV C n env ρ σ a fun p σ1 => EV C n env ρ σ1 b fun q σ2 => OP2 C n σ2 (subscriptTail a b) p q K) : EV C n env ρ σ (.Subscript a b pos) K :=
  fun A W s Q E r I l hk => Subscript_ (h A W s _ E r I l fun v1 s1 p σ1 W1 h1 I1 st1 r1 =>
    h1 A W1 s1 _ E r I1 (l.step0 st1) fun v2 s2 q σ2 W2 h2 I2 st2 r2 => h2 A W2 s2 Q E v1 v2 r I2 (Rep.mono st2.le _ _ r1) r2 fun v s' t σ' W' h3 I3 st3 r3 =>
      hk v s' t σ' W' h3 I3 ((st1.trans st2).trans st3) r3)

theorem seqIndex_of {i : Int} {len : Nat} (h0 : 0 ≤ i) (h : i.toNat < len) : seqIndex? i len = some i.toNat := by
  unfold seqIndex?
  have h1 : ¬ i < 0 := by omega
  have h2 : i < (len : Int) := by omega
  simp only [h1, if_false, h0, h2, decide_true, Bool.and_self, if_true]
theorem op_item_list {a b : Expr} {ps : List PV} {i : Int} {p : PV} (h0 : 0 ≤ i) (h1 : i < 2 ^ 63) (hp : ps[i.toNat]? = some p) (h : K p σ)
    (hs : ∀ o v, subscripted b false o v = operate [o, v] (getItem o v) := by intro _ _; rfl) : OP2 C n σ (subscriptTail a b) (.list ps) (.int i) K :=
  fun A W s Q E a b ro I ra rb hk => by
    obtain ⟨a, vs, k, rfl, w, rl⟩ := ra
    obtain ⟨u, rfl⟩ := rb
    obtain ⟨v, hv, rv⟩ := rl.get hp
    exact tail_any ⟨_, I.ice _ _ w, rfl⟩ slot_list_getitem.lookup (wpAny_getItem_list (I.isList w) h0 h1 (by simpa using hv) (hk _ _ _ _ _ h I .refl rv)) (hs _ _)
theorem op_item_tup {a b : Expr} {ps : List PV} {i : Int} {p : PV} (h0 : 0 ≤ i) (h1 : i < 2 ^ 63) (hp : ps[i.toNat]? = some p) (h : K p σ)
    (hs : ∀ o v, subscripted b false o v = operate [o, v] (getItem o v) := by intro _ _; rfl) : OP2 C n σ (subscriptTail a b) (.tup ps) (.int i) K :=
  fun A W s Q E a b ro I ra rb hk => by
    obtain ⟨a, vs, k, rfl, w, rl⟩ := ra
    obtain ⟨u, rfl⟩ := rb
    obtain ⟨v, hv, rv⟩ := rl.get hp
    have hlt : i.toNat < vs.length := (List.getElem?_eq_some_iff.mp hv).1
    refine tail_any (T := "tuple") ⟨_, I.ice _ _ w, rfl⟩ slot_tuple_getitem.lookup (getItem_tuple (I.isTup w) (by omega) h1 (j := i.toNat) ?_ (by simpa using hv) (hk _ _ _ _ _ h I .refl rv)) (hs _ _)
    exact seqIndex_of h0 (by simpa using hlt)
theorem op_item_str {a b : Expr} {x : Str} {i : Int} {c : Nat} (h0 : 0 ≤ i) (h1 : i < 2 ^ 63) (hp : x.cps[i.toNat]? = some c) (h : K (.str ⟨#[c]⟩) σ)
    (hs : ∀ o v, subscripted b false o v = operate [o, v] (getItem o v) := by intro _ _; rfl) : OP2 C n σ (subscriptTail a b) (.str x) (.int i) K :=
  fun A W s Q E a b ro I ra rb hk => by
    obtain ⟨t, rfl⟩ := ra
    obtain ⟨u, rfl⟩ := rb
    have hlt : i.toNat < x.cps.size := (Array.getElem?_eq_some_iff.mp hp).1
    refine tail_any (T := "str") (typeIs_str s x t) F.slot_str_getitem.lookup (P.getItem_str (c := c) ?_ ?_ (hk _ _ _ _ _ h (I.toks _) (.toks _) ⟨_, rfl⟩)) (hs _ _)
    · simp; omega
    · rw [seqIndex_of (len := x.length) h0 hlt]; exact hp

end Sol
end

section
open PySem PySem.W PySem.Calls PyProof.Rows PySem.SeqAt PySem.SeqRoads2 PySem.MeetsSeq3 PySem.P
namespace Sol
variable {C : Cx} {n : Nat} {env : Env} {ρ : List (Str × PV)} {σ : Sig} {K : PV → Sig → Prop}

/-- slices -/
theorem ev_slice_upto {a u : Expr} {p pos : Pos} (h : EV C n env ρ σ a fun v σ1 => EV C n env ρ σ1 u fun k σ2 => ∃ (ps : List PV) (j : Nat), v = .list ps ∧ k = .int j ∧ ps.length ≤ 1000000 ∧ K (.list (ps.take j)) σ2)
    (ht : ∀ o r, letTemporaryGo a o r = pure ()) : EV C n env ρ σ (.Subscript a (.Slice none (some u) none p) pos) K :=
  fun A W s Q E r I l hk => wpAny_Subscript_list_slice (h A W s _ E r I l fun v1 s1 p1 σ1 W1 h1 I1 st1 r1 => wpAny_evalPart_none (wpAny_evalPart_some (h1 A W1 s1 _ E r I1 (l.step0 st1) fun v2 s2 p2 σ2 W2 h2 I2 st2 r2 => by
    obtain ⟨ps, j, rfl, rfl, hz, hK⟩ := h2
    obtain ⟨al, vs, k, rfl, w, rl⟩ := Rep.mono st2.le _ _ r1
    obtain ⟨t, rfl⟩ := r2
    have hl := rl.length
    refine ⟨al, vs.toArray, none, some (j : Int), rfl, I2.isList w, (by simp only [List.size_toArray, hl, sizeLine_eq]; omega), .none, .int _ _, ?_⟩
    rw [slicePick_upto']
    simp only
    have I3 := I2.push { cls := .type "slice", data := .fields #[Value.none, Value.int j t, Value.none] } s2.toks
    have z := op_new (C := C) (K := fun p σ' => p = .list (ps.take j) ∧ σ' = σ2) (Q := Q) I3 (rl.take j) ⟨rfl, rfl⟩ (fun v s' r σ' W' hr I' st' rr => by
      obtain ⟨rfl, rfl⟩ := hr
      exact hk _ _ _ _ _ hK I' ((st1.trans st2).trans ((Step.push _ _).trans st')) rr) s2.toks
    simpa using z))) ht

/-- the text that a slice of a text is -/
noncomputable def sliceS (x : Str) (l u : Option Int) : Str :=
  if (Builtin.Str.strSliceIndices l u 1 x.length).length = x.length then x else ⟨((Builtin.Str.strSliceIndices l u 1 x.length).filterMap (x.cps[·]?)).toArray⟩
theorem sliceMade_post {x : Str} {t : Tok} {l u : Option (Int × Tok)} {Q : Value → Shared → Prop} {s : Shared} (hz : x.length ≤ 1000) (h : ∀ t' tk, Q (.str (sliceS x (l.map (·.1)) (u.map (·.1))) t') { s with toks := tk })
    (hlen : (sliceS x (l.map (·.1)) (u.map (·.1))).length ≤ 1000) : (sliceMade x t l u none).post Q s := by
  unfold sliceMade slicePicked
  simp only [Option.map_none, Option.getD_none]
  unfold sliceS at h hlen
  by_cases e : (Builtin.Str.strSliceIndices (l.map (·.1)) (u.map (·.1)) 1 x.length).length = x.length
  · rw [if_pos (by simp [e])]
    rw [if_pos e] at h
    exact h t s.toks
  · rw [if_neg (by simp [e])]
    rw [if_neg e] at h hlen
    refine ⟨by rw [sizeLine_eq]; omega, ?_⟩
    exact h s.toks (s.toks + 1)

/-- a part of a slice: absent, or an int -/
noncomputable def EP (C : Cx) (n : Nat) (env : Env) (ρ : List (Str × PV)) (σ : Sig) (e : Option Expr) (K : Option Int → Sig → Prop) : Prop := match e with
  | none => K none σ
  | some e => EV C n env ρ σ e fun p σ1 => ∃ i, p = .int i ∧ K (some i) σ1
theorem ep_run {e : Option Expr} {K : Option Int → Sig → Prop} (h : EP C n env ρ σ e K) {A : Around} {W : Ice} {s : Shared} {Q : Value → Shared → Prop} {E : Value → Shared → Prop} (r : Room A n) (I : Inv C W σ s) (l : Loc env ρ W σ s)
    (hk : ∀ (o : Option (Int × Tok)) s' σ' W', K (o.map (·.1)) σ' → Inv C W' σ' s' → Step [] W W' σ σ' s s' → Q (partValue o) s') : wpAny (model C.prog C.w) A (evalPart e env) Q E s := by
  cases e with
  | none => exact wpAny_evalPart_none (hk none s σ W h I .refl)
  | some e =>
    exact wpAny_evalPart_some (h A W s _ E r I l fun v1 s1 p1 σ1 W1 h1 I1 st1 r1 => by
      obtain ⟨i, rfl, hK⟩ := h1
      obtain ⟨t, rfl⟩ := r1
      exact hk (some (i, t)) s1 σ1 W1 hK I1 st1)
theorem ev_slice_str {a : Expr} {l u : Option Expr} {p pos : Pos} (h : EV C n env ρ σ a fun v σ1 => EP C n env ρ σ1 l fun i σ2 => EP C n env ρ σ2 u fun j σ3 => ∃ x, v = .str x ∧ x.length ≤ 1000 ∧ (sliceS x i j).length ≤ 1000 ∧ K (.str (sliceS x i j)) σ3)
    (ht : ∀ o r, letTemporaryGo a o r = pure ()) : EV C n env ρ σ (.Subscript a (.Slice l u none p) pos) K :=
  fun A W s Q E r I lo hk => wpAny_Subscript_str_slice (h A W s _ E r I lo fun v1 s1 p1 σ1 W1 h1 I1 st1 r1 => ep_run h1 r I1 (lo.step0 st1) fun o2 s2 σ2 W2 h2 I2 st2 => ep_run h2 r I2 (lo.step0 (st1.trans st2)) fun o3 s3 σ3 W3 h3 I3 st3 => by
    obtain ⟨x, rfl, hx, hy, hK⟩ := h3
    obtain ⟨t, rfl⟩ := r1
    refine ⟨x, t, o2, o3, rfl, rfl, rfl, sliceMade_post hx (fun t' tk => ?_) hy⟩
    exact hk _ _ _ _ _ hK (I3.push _ tk) (((st1.trans st2).trans st3).trans (.push _ tk)) ⟨_, rfl⟩) ht

/-- cells in the state -/
theorem mem_of_lookup {σ : Sig} {a : Addr} {c : Cell} (h : σ.lookup a = some c) : (a, c) ∈ σ := by
  induction σ with
  | nil => cases h
  | cons p r ih =>
    obtain ⟨b, d⟩ := p
    rw [List.lookup_cons] at h
    split at h
    · rename_i q; cases h; rw [beq_iff_eq.mp q]; exact .head _
    · exact .tail _ (ih h)
noncomputable def upd (σ : Sig) (a : Addr) (c : Cell) : Sig := σ.map fun p => if p.1 = a then (a, c) else p
theorem foots_upd {σ : Sig} {a : Addr} {c c' : Cell} (hm : (a, c) ∈ σ) (hn : (foots σ).Nodup) (hf : foot (a, c') = foot (a, c)) : foots (upd σ a c') = foots σ := by
  induction σ with
  | nil => rfl
  | cons p r ih =>
    obtain ⟨b, d⟩ := p
    have hcons : foots ((b, d) :: r) = foot (b, d) ++ foots r := rfl
    have hb : ∀ x : Addr × Cell, x.1 ∈ foot x := fun x => by obtain ⟨x, y⟩ := x; cases y <;> simp [foot]
    rw [hcons] at hn
    have hdis := (List.nodup_append.mp hn).2.2
    show foots ((if b = a then (a, c') else (b, d)) :: upd r a c') = _
    have inR : (a, c) ∈ r → b ≠ a := fun hr e => by
      subst e
      exact hdis b (hb (b, d)) b (List.mem_flatMap.mpr ⟨_, hr, hb (b, c)⟩) rfl
    rcases List.mem_cons.mp hm with e | hr
    · cases e
      rw [if_pos rfl]
      have : upd r a c' = r := by
        unfold upd
        conv => rhs; rw [← List.map_id r]
        refine List.map_congr_left fun q hq => ?_
        have : q.1 ≠ a := fun e => hdis a (hb (a, c)) a (List.mem_flatMap.mpr ⟨q, hq, by rw [← e]; exact hb q⟩) rfl
        simp [this]
      rw [this, hcons]
      show foot (a, c') ++ foots r = _
      rw [hf]
    · rw [if_neg (inR hr), hcons]
      show foot (b, d) ++ foots (upd r a c') = _
      rw [ih hr (List.nodup_append.mp hn).2.1]

/-- a write into a cell, at the address b of its foot -/
theorem Inv.write {W s} (I : Inv C W σ s) {a b : Addr} {c c' : Cell} (hm : (a, c) ∈ σ) (hf : foot (a, c') = foot (a, c)) (hb : b ∈ foot (a, c)) {h' : Heap} {t : Nat} (hs : Heap.SameBut b s.heap h') (hc : CellAt W h' (a, c')) :
    Inv C W (upd σ a c') { s with heap := h', toks := t } := by
  have hbf : b ∈ foots σ := List.mem_flatMap.mpr ⟨_, hm, hb⟩
  have hfo := foots_upd hm I.nodup hf
  refine ⟨I.ok, fun x o w => (hs.2 x (by rintro rfl; exact I.apart _ _ w hbf)).trans (I.ice _ _ w), I.h0, fun p hp => ?_, by rw [hfo]; exact I.nodup, by rw [hfo]; exact I.apart, I.gens, I.os⟩
  obtain ⟨q, hq, e⟩ := List.mem_map.mp hp
  by_cases hqa : q.1 = a
  · rw [if_pos hqa] at e; subst e; exact hc
  · rw [if_neg hqa] at e; subst e
    refine (I.cells q hq).keeps .refl fun x hx o e => (hs.2 x ?_).trans e
    rintro rfl
    -- the feet of two cells are apart
    have key : ∀ (l : Sig), (foots l).Nodup → (a, c) ∈ l → q ∈ l → x ∈ foot (a, c) → x ∈ foot q → q.1 = a := by
      intro l
      induction l with
      | nil => intro _ h; cases h
      | cons p r ih =>
        intro hn h1 h2 h3 h4
        have hcons : foots (p :: r) = foot p ++ foots r := rfl
        rw [hcons] at hn
        obtain ⟨n1, n2, n3⟩ := List.nodup_append.mp hn
        rcases List.mem_cons.mp h1 with e1 | e1 <;> rcases List.mem_cons.mp h2 with e2 | e2
        · rw [e2, ← e1]
        · subst e1; exact absurd rfl (n3 x h3 x (List.mem_flatMap.mpr ⟨_, e2, h4⟩))
        · subst e2; exact absurd rfl (n3 x h4 x (List.mem_flatMap.mpr ⟨_, e1, h3⟩))
        · exact ih n2 e1 e2 h3 h4
    exact hqa (key σ I.nodup hm hq hb hx)
theorem Step.write {X W s} (I : Inv C W σ s) {a b : Addr} {c c' : Cell} (hm : (a, c) ∈ σ) (hf : foot (a, c') = foot (a, c)) (hb : b ∈ foot (a, c)) {h' : Heap} {t : Nat} (hs : Heap.SameBut b s.heap h') (hi : (h'.get? b).isSome = true) :
    Step X W W σ (upd σ a c') s { s with heap := h', toks := t } := by
  have hbf : b ∈ foots σ := List.mem_flatMap.mpr ⟨_, hm, hb⟩
  refine ⟨.refl, fun _ _ h => .inl h, fun x o e _ hx => (hs.2 x (by rintro rfl; exact hx hbf)).trans e, fun x h => ?_, by rw [foots_upd hm I.nodup hf]; exact fun _ h => .inl h⟩
  by_cases e : x = b
  · subst e; change h'.get? x = none at h; rw [h] at hi; cases hi
  · exact (hs.2 x e).symm.trans h

/-- an item of a list that turns -/
theorem op_item_cell {a b : Expr} {x : Addr} {ps : List PV} {i : Int} {p : PV} (hx : σ.lookup x = some (.lst ps)) (h0 : 0 ≤ i) (h1 : i < 2 ^ 63) (hp : ps[i.toNat]? = some p) (h : K p σ)
    (hs : ∀ o v, subscripted b false o v = operate [o, v] (getItem o v) := by intro _ _; rfl) : OP2 C n σ (subscriptTail a b) (.ref x) (.int i) K :=
  fun A W s Q E a b ro I ra rb hk => by
    have ra' : a = .ref x := ra
    subst ra'
    obtain ⟨vs, k, ho, rl⟩ := I.cells _ (mem_of_lookup hx)
    obtain ⟨u, rfl⟩ := rb
    obtain ⟨v, hv, rv⟩ := rl.get hp
    exact tail_any ⟨_, ho, rfl⟩ slot_list_getitem.lookup (wpAny_getItem_list ⟨_, ho, rfl, k, rfl⟩ h0 h1 (by simpa using hv) (hk _ _ _ _ _ h I .refl rv)) (hs _ _)

theorem mapSeq_ls {vs us : List Value} {k : Nat} {f : Array Value → Array Value} (h : f vs.toArray = us.toArray) : ∃ k', Obj.mapSeq f (lsO vs k) = lsO us k' :=
  ⟨_, by show Obj.mk _ _ _ _ = _; rw [h]⟩
theorem append_ls {prog w} {A : Around} {E : Value → Shared → Prop} {s : Shared} {l : Addr} {vs : List Value} {k : Nat} {x : Value} {Q : Value → Shared → Prop} (ho : s.heap.get? l = some (lsO vs k))
    (hQ : ∀ h' k', h'.get? l = some (lsO (vs ++ [x]) k') → Heap.SameBut l s.heap h' → Q .none { s with heap := h' }) (hsz : vs.length ≤ sizeLine) :
    wpAny (model prog w) A (call (.builtin "list.append") [.ref l, x]) Q E s := by
  have hl : s.heap.IsList l vs.toArray := ⟨_, ho, rfl, k, rfl⟩
  obtain ⟨k', e⟩ := mapSeq_ls (vs := vs) (k := k) (f := (·.push x)) (us := vs ++ [x]) (by simp)
  refine wpAny_call_entry slot_list_append hl.typeIs entry_list_append ?_ (args_list_append _ _)
  show wpAny _ _ (updateSeq l (·.push x) >>= fun _ => ret .none) _ _ s
  refine wpAny_bind (wpAny_updateSeq ho rfl (wpAny_pure ⟨.none, rfl, hQ _ k' ?_ (Heap.SameBut.update ..)⟩) (by simpa using hsz))
  rw [Heap.get?_update_self _ ho (by rw [e]; rfl), e]
theorem setItem_ls {prog w} {A : Around} {E : Value → Shared → Prop} {s : Shared} {l : Addr} {vs : List Value} {n : Nat} {k : Int} {t : Tok} {x : Value} {Q : Unit → Shared → Prop} (ho : s.heap.get? l = some (lsO vs n))
    (h0 : 0 ≤ k) (hfit : k < 2 ^ 63) (hn : k < vs.length)
    (hQ : ∀ h' k', h'.get? l = some (lsO (vs.set k.toNat x) k') → Heap.SameBut l s.heap h' → Q () { s with heap := h' }) :
    wpAny (model prog w) A (setItem (.ref l) (.int k t) x) Q E s := by
  have hl : s.heap.IsList l vs.toArray := ⟨_, ho, rfl, n, rfl⟩
  unfold setItem
  try with_reducible refine wpAny_holding ?_
  first | refine wpAny_bind (wpAny_pure ?_) | skip
  refine wpAny_bind (wpAny_sequenceKey hl.typeIs (by decide) ?_)
  refine wpAny_bind (wpAny_callSpecial?_slot (name := Str.ofString "__setitem__") hl.typeIs slot_list_setitem
    (wpAny_call_entry slot_list_setitem hl.typeIs entry_list_setitem ?_ (args_list_setitem _ _ _)))
  show wpAny _ _ (Builtin.List.listSubscript? (.int k t) >>= _) _ _ s
  refine wpAny_bind (wpAny_listSubscript_int (fitsIndex_of h0 hfit) ?_)
  clear hfit
  obtain ⟨j, rfl⟩ := Int.eq_ofNat_of_zero_le h0
  have hj : j < vs.length := by omega
  have hx' : vs.toArray[j]? = some vs[j] := by simp [hj]
  show wpAny _ _ ((seqItemAt l j >>= fun r => pure (r.map (j, ·))) >>= _) _ _ s
  refine wpAny_bind (wpAny_bind (wpAny_seqItemAt ho rfl (wpAny_pure ?_)))
  rw [hx']
  show wpAny _ _ (setSeqItemAt l j x >>= _) _ _ s
  obtain ⟨k', e⟩ := mapSeq_ls (vs := vs) (k := n) (f := (·.setIfInBounds j x)) (us := vs.set j x) (by simp)
  have hfin : (s.heap.update l (Obj.mapSeq (·.setIfInBounds j x))).get? l = some (lsO (vs.set j x) k') := by
    rw [Heap.get?_update_self _ ho (by rw [e]; rfl), e]
  refine wpAny_bind (wpAny_setSeqItemAt ho rfl ?_)
  first
    | exact wpAny_bind (wpAny_pure (wpAny_pure ⟨.none, rfl, wpAny_pure (hQ _ _ hfin (Heap.SameBut.update ..))⟩))
    | exact wpAny_pure ⟨.none, rfl, wpAny_pure (hQ _ _ hfin (Heap.SameBut.update ..))⟩

/-- attributes -/
structure Plain (C : Cx) (c : Addr) : Prop where
  ga : findIn C.K (.ref c) "__getattribute__" = some (some (.builtin "object.__getattribute__"))
  gt : findIn C.K (.ref c) "__getattr__" = some none
  sa : findIn C.K (.ref c) "__setattr__" = some (some (.builtin "object.__setattr__"))
  po : plainOver C.K c = true
  hd : hasDictIn C.K c = true
structure Field (C : Cx) (c : Addr) (x : Str) : Prop where
  f : findIn C.K (.ref c) x = some none
  t : takerIn C.K c x = some none

noncomputable def fieldOf : List Str → List PV → Str → Option PV
  | n :: ns, p :: ps, x => if n = x then some p else fieldOf ns ps x
  | _, _, _ => none
noncomputable def putF : List Str → List PV → Str → PV → List Str × List PV
  | n :: ns, p :: ps, x, q => if n = x then (n :: ns, q :: ps) else (n :: (putF ns ps x q).1, p :: (putF ns ps x q).2)
  | _, _, x, q => ([x], [q])

theorem isStr_iff (n x : Str) (t : Tok) : (Value.str n t).isStr x = decide (n = x) := by
  show (n == x) = _
  by_cases h : n = x
  · subst h; simp
  · simp [h]
theorem getL_of {W : Ice} {x : Str} : ∀ {ns : List Str} {ps : List PV} {es : List DictEntry} {p : PV}, KeysAre ns es → RepL W ps (es.map (·.val)) → fieldOf ns ps x = some p → ∃ v, getL x es = some (some v) ∧ Rep W p v
  | [], _, _, _, _, _, h => by cases h
  | _ :: _, [], _, _, _, _, h => by cases h
  | n :: ns, q :: ps, _, p, ⟨hs, t, v, r, e, k⟩, rl, h => by
    subst e
    obtain ⟨v', r', e', rq, rl⟩ := rl
    simp only [List.map_cons, List.cons.injEq] at e'
    obtain ⟨rfl, rfl⟩ := e'
    unfold fieldOf at h
    by_cases hn : n = x
    · rw [if_pos hn] at h; cases h
      refine ⟨v, ?_, rq⟩
      unfold getL
      rw [List.find?_cons_of_pos (by rw [isStr_iff]; simpa using hn)]
    · rw [if_neg hn] at h
      obtain ⟨v', h1, h2⟩ := getL_of k rl h
      refine ⟨v', ?_, h2⟩
      unfold getL at h1 ⊢
      rw [List.find?_cons_of_neg (by rw [isStr_iff]; simpa using hn)]
      have : ((⟨hs, .str n t, v⟩ : DictEntry) :: r).any (·.refKey) = r.any (·.refKey) := by simp [DictEntry.refKey]
      rw [this]; exact h1
theorem getL_none {x : Str} : ∀ {ns : List Str} {es : List DictEntry}, KeysAre ns es → x ∉ ns → getL x es = some none
  | [], _, h, _ => by simp only [KeysAre] at h; subst h; rfl
  | n :: ns, _, ⟨hs, t, v, r, e, k⟩, h => by
    subst e
    have h1 := getL_none k (fun q => h (.tail _ q))
    have hn : n ≠ x := fun q => h (by rw [q]; exact .head _)
    unfold getL at h1 ⊢
    rw [List.find?_cons_of_neg (by rw [isStr_iff]; simpa using hn)]
    have : ((⟨hs, .str n t, v⟩ : DictEntry) :: r).any (·.refKey) = r.any (·.refKey) := by simp [DictEntry.refKey]
    rw [this]; exact h1
theorem getL_isSome {x : Str} : ∀ {ns : List Str} {es : List DictEntry}, KeysAre ns es → (getL x es).isSome = true
  | [], _, h => by simp only [KeysAre] at h; subst h; rfl
  | n :: ns, _, ⟨hs, t, v, r, e, k⟩ => by
    subst e
    have h1 := getL_isSome (x := x) k
    unfold getL at h1 ⊢
    by_cases hn : n = x
    · rw [List.find?_cons_of_pos (by rw [isStr_iff]; simpa using hn)]; rfl
    · rw [List.find?_cons_of_neg (by rw [isStr_iff]; simpa using hn)]
      have : ((⟨hs, .str n t, v⟩ : DictEntry) :: r).any (·.refKey) = r.any (·.refKey) := by simp [DictEntry.refKey]
      rw [this]; exact h1
theorem put_keys {W : Ice} {x : Str} {hsh : Int} {t : Tok} {q : PV} {u : Value} (ru : Rep W q u) : ∀ {ns : List Str} {ps : List PV} {es : List DictEntry}, KeysAre ns es → RepL W ps (es.map (·.val)) →
    KeysAre (putF ns ps x q).1 (putL x hsh (.str x t) u es) ∧ RepL W (putF ns ps x q).2 ((putL x hsh (.str x t) u es).map (·.val)) ∧ (putL x hsh (.str x t) u es).length ≤ es.length + 1
  | [], ps, es, k, rl => by
    simp only [KeysAre] at k; subst k
    have : ps = [] := by
      have := rl.length
      cases ps with
      | nil => rfl
      | cons _ _ => simp at this
    subst this
    exact ⟨⟨_, _, _, _, rfl, rfl⟩, ⟨_, _, rfl, ru, rfl⟩, Nat.le_refl _⟩
  | n :: ns, [], _, ⟨hs, t', v, r, e, k⟩, rl => by subst e; simp [RepL] at rl
  | n :: ns, p :: ps, _, ⟨hs, t', v, r, e, k⟩, rl => by
    subst e
    obtain ⟨v', r', e', rq, rl⟩ := rl
    simp only [List.map_cons, List.cons.injEq] at e'
    obtain ⟨rfl, rfl⟩ := e'
    unfold putL putF
    have hst : (Value.str n t').isStr x = decide (n = x) := isStr_iff n x t'
    by_cases hn : n = x
    · rw [if_pos hn, if_pos (by show (Value.str n t').isStr x = true; rw [hst]; simpa using hn)]
      exact ⟨⟨_, _, _, _, rfl, k⟩, ⟨_, _, rfl, ru, rl⟩, Nat.le_succ _⟩
    · rw [if_neg hn, if_neg (by show ¬ (Value.str n t').isStr x = true; rw [hst]; simpa using hn)]
      obtain ⟨a, b, c⟩ := put_keys (W := W) (x := x) (hsh := hsh) (t := t) ru k rl
      exact ⟨⟨_, _, _, _, rfl, a⟩, ⟨_, _, rfl, rq, b⟩, Nat.succ_le_succ c⟩
theorem KeysAre.length : ∀ {ns : List Str} {es : List DictEntry}, KeysAre ns es → es.length = ns.length
  | [], _, h => by simp only [KeysAre] at h; subst h; rfl
  | _ :: _, _, ⟨_, _, _, _, e, k⟩ => by subst e; simp [KeysAre.length k]

theorem handed_rep {W : Ice} {p : PV} {v : Value} (r : Rep W p v) : handedIn v = true := by
  cases p <;> simp only [Rep] at r
  · subst r; rfl
  · subst r; rfl
  · obtain ⟨t, rfl⟩ := r; rfl
  · obtain ⟨t, rfl⟩ := r; rfl
  · obtain ⟨_, _, _, rfl, _⟩ := r; rfl
  · obtain ⟨_, _, _, rfl, _⟩ := r; rfl
  · obtain ⟨_, _, _, _, rfl, _⟩ := r; rfl
  · subst r; rfl

theorem ev_attr {a : Expr} {x : Str} {pos : Pos} (h : EV C n env ρ σ a fun p σ1 => OP1 C n σ1 (fun v => getAttr v x true) p K)
    (hb : attributeBase a x env (eval a env) = eval a env := by rfl) : EV C n env ρ σ (.Attribute a x pos) K :=
  fun A W s Q E r I l hk => Attribute_any_ (h A W s _ E r I l fun v1 s1 p σ1 W1 h1 I1 st1 r1 => h1 A W1 s1 Q E v1 r I1 r1 fun v s' t σ' W' h3 I3 st3 r3 => hk v s' t σ' W' h3 I3 (st1.trans st3) r3)
    (congrArg (fun e : Sem Value => (do let o ← e; standAt pos.atName; let r ← holding [o] (getAttr o x true); letTemporaryGo a o r; pure r : Sem Value)) hb)

end Sol
end

section
open PySem PySem.W PySem.Calls PyProof.Rows PySem.SeqAt PySem.SeqRoads2 PySem.MeetsSeq3 PySem.P
open Builtin Builtin.ObjectAttr Builtin.Getset_descriptor
namespace Sol
variable {C : Cx} {n : Nat} {env : Env} {ρ : List (Str × PV)} {σ : Sig} {K : PV → Sig → Prop}

theorem op_attr_inst {c : Addr} {ns : List Str} {ps : List PV} {x : Str} {p : PV} (P : Plain C c) (F : Field C c x) (hf : fieldOf ns ps x = some p) (h : K p σ) : OP1 C n σ (fun v => getAttr v x true) (.inst c ns ps) K :=
  fun A W s Q E a ro I ra hk => by
    obtain ⟨a, d, es, k, rfl, w, w', kk, rl⟩ := ra
    obtain ⟨v, hv, rv⟩ := getL_of kk rl hf
    have IA : InstAt s.heap a (instObj c d) c (some (dictOf es k)) := ⟨I.ice _ _ w, rfl, rfl, I.ice _ _ w'⟩
    exact get_value I.K IA P.ga (findObj_own P.hd F.f rfl (by rw [lookIn_dict]; exact hv)) (handed_rep rv) (hk _ _ _ _ _ h (I.toks _) (.toks _) rv)
theorem op_attr_cell {a c d : Addr} {ns : List Str} {ps : List PV} {x : Str} {p : PV} (P : Plain C c) (F : Field C c x) (ha : σ.lookup a = some (.obj c d ns ps)) (hf : fieldOf ns ps x = some p) (h : K p σ) : OP1 C n σ (fun v => getAttr v x true) (.ref a) K :=
  fun A W s Q E v ro I ra hk => by
    have ra' : v = .ref a := ra
    subst ra'
    obtain ⟨es, k, ho, ho', kk, rl⟩ := I.cells _ (mem_of_lookup ha)
    obtain ⟨v, hv, rv⟩ := getL_of kk rl hf
    have IA : InstAt s.heap a (instObj c d) c (some (dictOf es k)) := ⟨ho, rfl, rfl, ho'⟩
    exact get_value I.K IA P.ga (findObj_own P.hd F.f rfl (by rw [lookIn_dict]; exact hv)) (handed_rep rv) (hk _ _ _ _ _ h (I.toks _) (.toks _) rv)

theorem setAttr_obj {prog w} {A : Around} {E : Value → Shared → Prop} {s : Shared} {K : Frag} {x c d : Addr} {es : List DictEntry} {k : Nat} {name : Str} {v : Value} {Q : Unit → Shared → Prop} (X : K.In s.heap)
    (hx : s.heap.get? x = some (instObj c d)) (hd : s.heap.get? d = some (dictOf es k))
    (hs : findIn K (.ref c) "__setattr__" = some (some (.builtin "object.__setattr__"))) (hp : plainOver K c = true) (ht : takerIn K c name = some none) (hh : hasDictIn K c = true) (hl : (getL name es).isSome = true) (hz : (putL name (PyData.keyHash w.params name) (.str name (s.toks + 1)) v es).length ≤ 1000)
    (h : ∀ h', h'.get? d = some (dictOf (putL name (PyData.keyHash w.params name) (.str name (s.toks + 1)) v es) (putN name es k)) → Heap.SameBut d s.heap h' → Q () { s with heap := h', toks := s.toks + 2 }) :
    wpAny (model prog w) A (setAttr (.ref x) name v) Q E s := by
  obtain ⟨hh0, gg, dd, tt, oo⟩ := s
  have IA : InstAt hh0 x (instObj c d) c (some (dictOf es k)) := ⟨hx, rfl, rfl, hd⟩
  refine set_plain X IA hs ?_
  refine osa_open (s := ⟨hh0, gg, dd, tt + 1, oo⟩) X IA hp ht fun b => ?_
  obtain ⟨cd, hc, hd'⟩ := any_some hh
  have hput := putName_dict name (PyData.keyHash w.params name) (.str name (tt + 1)) v es k
  have D' : (hh0.update d (Obj.putName name (PyData.keyHash w.params name) (.str name (tt + 1)) v)).get? d = some (dictOf (putL name (PyData.keyHash w.params name) (.str name (tt + 1)) v es) (putN name es k)) := by
    rw [Heap.get?_update_self _ hd (by rw [hput]; rfl), hput]
  refine wpAny_bind (wpAny_pure (wpAny_bind (wpAny_bind (wpAny_loadPart hx (wpAny_bind ((looks_clsIn (h := hh0) X hc).at ?_))))))
  rw [hd']
  refine wpAny_pure (a := some d) (wpAny_bind (wpAny_pure (wpAny_bind ?_)))
  unfold nsSet
  refine wpAny_bind (wpAny_bind (wpAny_askSetting (wpAny_pure (wpAny_bind (wpAny_mkText (wpAny_bind (wpAny_loadPart hd ?_)))))))
  dsimp only
  have cnd : (!es.toArray.any (·.key.isStr name) && es.toArray.any (·.refKey)) = false := by
    unfold getL at hl
    rw [List.any_toArray, List.any_toArray]
    split at hl
    · rename_i en he
      rw [List.any_eq_true.mpr ⟨en, List.mem_of_find?_eq_some he, List.find?_some he⟩]; rfl
    · split at hl
      · cases hl
      · rename_i z; rw [Bool.not_eq_true] at z; rw [z, Bool.and_false]
  rw [aRefKeyMayBeTheName_at, cnd]
  refine wpAny_updatePart hd ?_
  refine wpAny_bind (wpAny_lookBehind D' (pastItsLine_dict (by rw [List.size_toArray, sizeLine_eq]; dsimp only at hz; omega)) ?_)
  exact wpAny_pure (h _ D' (Heap.SameBut.update ..))

/-- a field of a turning object set -/
theorem setAttr_cell {W : Ice} {s : Shared} {A : Around} {Q : Unit → Shared → Prop} {E : Value → Shared → Prop} {a c d : Addr} {ns : List Str} {ps : List PV} {x : Str} {p : PV} {v : Value} (P : Plain C c) (F : Field C c x) (hns : ns.length ≤ 100)
    (I : Inv C W σ s) (ha : σ.lookup a = some (.obj c d ns ps)) (rv : Rep W p v)
    (hk : ∀ s', Inv C W (upd σ a (.obj c d (putF ns ps x p).1 (putF ns ps x p).2)) s' → Step [] W W σ (upd σ a (.obj c d (putF ns ps x p).1 (putF ns ps x p).2)) s s' → Q () s') :
    wpAny (model C.prog C.w) A (setAttr (.ref a) x v) Q E s := by
  have hm := mem_of_lookup ha
  obtain ⟨es, k, ho, ho', kk, rl⟩ := I.cells _ hm
  have hput := put_keys (hsh := PyData.keyHash C.w.params x) (t := s.toks + 1) (x := x) rv kk rl
  refine setAttr_obj I.K ho ho' P.sa P.po F.t P.hd (getL_isSome kk) (by have := hput.2.2; have := kk.length; omega) fun h' hd hs => ?_
  have had : a ≠ d := by
    rintro rfl
    rw [ho] at ho'; cases ho'
  have hc : CellAt W h' (a, .obj c d (putF ns ps x p).1 (putF ns ps x p).2) := ⟨_, _, (hs.2 a had).trans ho, hd, hput.1, hput.2.1⟩
  exact hk _ (I.write (c' := .obj c d (putF ns ps x p).1 (putF ns ps x p).2) hm rfl (by simp [foot]) hs hc) (.write I (c' := .obj c d (putF ns ps x p).1 (putF ns ps x p).2) hm rfl (by simp [foot]) hs (by rw [hd]; rfl))

/-- calls -/
noncomputable def CV (C : Cx) (n : Nat) (σ : Sig) (f : Value) (args : List PV) (K : PV → Sig → Prop) : Prop :=
  ∀ (A : Around) (W : Ice) (s : Shared) (Q : Value → Shared → Prop) (E : Value → Shared → Prop) (vs : List Value), Room A n → Inv C W σ s → RepL W args vs →
    (∀ v s' r σ' W', K r σ' → Inv C W' σ' s' → Step [] W W' σ σ' s s' → Rep W' r v → Q v s') → wpAny (model C.prog C.w) A (call f vs) Q E s
theorem CV.mono {f : Value} {args : List PV} {K K' : PV → Sig → Prop} (h : CV C n σ f args K) (hk : ∀ p σ', K p σ' → K' p σ') : CV C n σ f args K' :=
  fun A W s Q E vs r I l k => h A W s Q E vs r I l (fun v s' p σ' W' a => k v s' p σ' W' (hk _ _ a))
theorem cv_fn {f : Addr} {args : List PV} (h : FN C n f args σ K) : CV C n σ (.ref f) args K :=
  fun A W s Q E vs r I rl hk => wpAny_call (h A W s vs _ r I rl fun v s' p σ' W' h1 I1 st1 r1 => hk v s' p σ' W' h1 I1 st1 r1)
theorem FN.mono {f : Addr} {args : List PV} {K K' : PV → Sig → Prop} (h : FN C n f args σ K) (hk : ∀ p σ', K p σ' → K' p σ') : FN C n f args σ K' :=
  fun A W s vs R r I rl k => h A W s vs R r I rl fun v s' p σ' W' a => k v s' p σ' W' (hk _ _ a)
theorem FN.le {f : Addr} {args : List PV} {k : Nat} (h : FN C k f args σ K) (hn : k ≤ n) : FN C n f args σ K :=
  fun A W s vs R r I rl k => h A W s vs R (r.mono hn) I rl k

theorem callWith_es {W : Ice} {s : Shared} {A : Around} {Q : Value → Shared → Prop} {E : Value → Shared → Prop} {pos : Pos} {f : Addr} {first : List Value} {fp : List PV} {es : List Expr}
    (hkeep : keepIn C.K (.ref f) = true) (r : Room A n) (I : Inv C W σ s) (l : Loc env ρ W σ s) (rf : RepL W fp first)
    (h : ES C n env ρ σ pos es fun ps σ1 => CV C n σ1 (.ref f) (fp ++ ps) K)
    (hst : ∀ e ∈ es, ∀ x p, e ≠ .Starred x p)
    (hk : ∀ v s' r σ' W', K r σ' → Inv C W' σ' s' → Step [] W W' σ σ' s s' → Rep W' r v → Q v s') :
    wpAny (model C.prog C.w) A (callWith pos (.ref f) first (backTo pos (starEach es env)) []) Q E s := by
  have hany : ∀ es : List Expr, (∀ e ∈ es, ∀ x p, e ≠ .Starred x p) → (backTo pos (starEach es env)).any (·.1) = false := by
    intro es
    induction es with
    | nil => intro _; rfl
    | cons e rest ih =>
      intro h
      have he : starEach (e :: rest) env = (false, PySem.eval e env) :: starEach rest env := by
        cases e <;> first | rfl | exact absurd rfl (h _ (.head _) _ _)
      rw [he]
      show (false || (backTo pos (starEach rest env)).any (·.1)) = false
      rw [ih (fun x hx => h x (.tail _ hx))]; rfl
  refine callWith_of (P := C.K.In) (by rw [hany es hst]; rfl) (keeps_K hkeep) ?_
  cases es with
  | nil =>
    refine evalArgs_nil3 ?_
    have := h A W s (fun vs s' => C.K.In s'.heap ∧ wpAny (model C.prog C.w) A (call (.ref f) (first ++ vs) []) Q E s') E r I l fun vs s1 ps σ1 W1 h1 I1 st1 r1 =>
      ⟨I1.K, h1 A W1 s1 Q E (first ++ vs) r I1 ((rf.mono st1.le).append r1) fun v s2 p σ2 W2 h2 I2 st2 r2 => hk v s2 p σ2 W2 h2 I2 (st1.trans st2) r2⟩
    exact ⟨I.K, by
      have e : spliced (backTo pos (starEach [] env)) = pure [] := rfl
      have z : wpAny (model C.prog C.w) A (pure [] : Sem (List Value)) (fun vs s' => C.K.In s'.heap ∧ wpAny (model C.prog C.w) A (call (.ref f) (first ++ vs) []) Q E s') E s := e ▸ this
      intro Γ p hΓ
      exact (z Γ p hΓ).2 Γ p hΓ⟩
  | cons e rest =>
    have he : starEach (e :: rest) env = (false, PySem.eval e env) :: starEach rest env := by
      cases e <;> first | rfl | exact absurd rfl (hst _ (.head _) _ _)
    have this := h A W s (fun vs s' => C.K.In s'.heap ∧ wpAny (model C.prog C.w) A (call (.ref f) (first ++ vs) []) Q E s') E r I l fun vs s1 ps σ1 W1 h1 I1 st1 r1 =>
      ⟨I1.K, h1 A W1 s1 Q E (first ++ vs) r I1 ((rf.mono st1.le).append r1) fun v s2 p σ2 W2 h2 I2 st2 r2 => hk v s2 p σ2 W2 h2 I2 (st1.trans st2) r2⟩
    rw [he] at this ⊢
    exact evalArgs_plain this

/-- a call of a def or a class of the module by its name -/
theorem ev_call {x : Str} {xp pos : Pos} {es : List Expr} {f : Addr} (hg : C.mg x = some (.ref f)) (hkeep : keepIn C.K (.ref f) = true) (h : ES C n env ρ σ pos es fun ps σ1 => CV C n σ1 (.ref f) ps K)
    (hf : env.scope.kind = .function) (hl : env.kindOf x = some .globalImplicit) (he : env.globals = mainGlobals) (hd : (x == ("__debug__" : Str)) = false) (hst : ∀ e ∈ es, ∀ x p, e ≠ .Starred x p) :
    EV C n env ρ σ (.Call (.Name x xp) es [] pos) K :=
  fun A W s Q E r I l hk => Call_ (Name_function_global hf hl (loadGlobal_global (mg := C.mg) (by rw [he]; exact I.g) hg
    (callWith_es (fp := []) hkeep r I l RepL.nil h hst hk)) hd) (by with_unfolding_all rfl)
/-- a call of a def that a local name holds -/
theorem ev_callL {x : Str} {xp pos : Pos} {es : List Expr} {f : Addr} (hx : ρ.lookup x = some (.ref f)) (hkeep : keepIn C.K (.ref f) = true) (h : ES C n env ρ σ pos es fun ps σ1 => CV C n σ1 (.ref f) ps K)
    (hf : env.scope.kind = .function) (hl : env.kindOf x = some .local) (hd : (x == ("__debug__" : Str)) = false) (hst : ∀ e ∈ es, ∀ x p, e ≠ .Starred x p) :
    EV C n env ρ σ (.Call (.Name x xp) es [] pos) K :=
  fun A W s Q E r I l hk => by
    obtain ⟨m, hn, hr⟩ := l.ns
    obtain ⟨v, hv, rv⟩ := hr _ _ hx
    have rv' : v = .ref f := rv
    subst rv'
    exact Call_ (wpAny_Name (wpAny_loadName_local hf hl hn hv (callWith_es (fp := []) hkeep r I l RepL.nil h hst hk)) hd) (by with_unfolding_all rfl)
/-- a built-in by its name -/
theorem ev_callB {x : Str} {xp pos : Pos} {es : List Expr} {id : String} (hg : C.mg x = none) (hb : bootBuiltins x = some (.builtin id)) (hn : x ≠ "__name__") (h : ES C n env ρ σ pos es fun ps σ1 => CV C n σ1 (.builtin id) ps K)
    (hf : env.scope.kind = .function) (hl : env.kindOf x = some .globalImplicit) (he : env.globals = mainGlobals) (hbu : env.builtins = builtinsNs) (hd : (x == ("__debug__" : Str)) = false)
    (hs : ∃ e rest, es = e :: rest ∧ starEach (e :: rest) env = (false, PySem.eval e env) :: starEach rest env ∧ (backTo pos (starEach rest env)).any (·.1) = false) :
    EV C n env ρ σ (.Call (.Name x xp) es [] pos) K :=
  fun A W s Q E r I l hk => by
    obtain ⟨e, rest, rfl, h1, h2⟩ := hs
    refine Call_ (Name_function_global hf hl (loadGlobal_builtin (mg := C.mg) (mb := C.mb) (by rw [he]; exact I.g) hg (by rw [hbu]; exact I.b) ((I.ok.builtins x hn).trans hb) ?_) hd) (by with_unfolding_all rfl)
    refine callWith_builtin1 (h A W s _ E r I l fun vs s1 ps σ1 W1 h1 I1 st1 r1 => h1 A W1 s1 Q E vs r I1 r1 fun v s2 p σ2 W2 h2 I2 st2 r2 => hk v s2 p σ2 W2 h2 I2 (st1.trans st2) r2) h1 h2
/-- a type of the language called by its name -/
theorem ev_callT {x : Str} {xp pos : Pos} {es : List Expr} {id : String} (hg : C.mg x = none) (hb : bootBuiltins x = some (.type id)) (hn : x ≠ "__name__") (h : ES C n env ρ σ pos es fun ps σ1 => CV C n σ1 (.type id) ps K)
    (hf : env.scope.kind = .function) (hl : env.kindOf x = some .globalImplicit) (he : env.globals = mainGlobals) (hbu : env.builtins = builtinsNs) (hd : (x == ("__debug__" : Str)) = false)
    (hs : ∃ e rest, es = e :: rest ∧ starEach (e :: rest) env = (false, PySem.eval e env) :: starEach rest env ∧ (backTo pos (starEach rest env)).any (·.1) = false) :
    EV C n env ρ σ (.Call (.Name x xp) es [] pos) K :=
  fun A W s Q E r I l hk => by
    obtain ⟨e, rest, rfl, h1, h2⟩ := hs
    refine Call_ (Name_function_global hf hl (loadGlobal_builtin (mg := C.mg) (mb := C.mb) (by rw [he]; exact I.g) hg (by rw [hbu]; exact I.b) ((I.ok.builtins x hn).trans hb) ?_) hd) (by with_unfolding_all rfl)
    refine callWith_type1 (h A W s _ E r I l fun vs s1 ps σ1 W1 h1 I1 st1 r1 => h1 A W1 s1 Q E vs r I1 r1 fun v s2 p σ2 W2 h2 I2 st2 r2 => hk v s2 p σ2 W2 h2 I2 (st1.trans st2) r2) h1 h2

end Sol
end

section
open PySem PySem.W PySem.Calls PyProof.Rows PySem.SeqAt PySem.SeqRoads2 PySem.MeetsSeq3 PySem.P
namespace Sol
variable {C : Cx} {n : Nat} {env : Env} {ρ : List (Str × PV)} {σ : Sig} {K : PV → Sig → Prop}

structure Meth (C : Cx) (c : Addr) (x : Str) (f : Addr) : Prop where
  fnd : findIn C.K (.ref c) x = some (some (.ref f))
  ty : typeIn C.K (.ref f) = some (.type "function")
  keep : keepIn C.K (.ref f) = true

/-- a method of a turning object -/
theorem ev_callm {o : Expr} {x : Str} {apos pos : Pos} {es : List Expr}
    (h : EV C n env ρ σ o fun p σ1 => ∃ a c d ns ps f, p = .ref a ∧ σ1.lookup a = some (.obj c d ns ps) ∧ x ∉ ns ∧ Plain C c ∧ Meth C c x f ∧ ES C n env ρ σ1 pos es fun qs σ2 => CV C n σ2 (.ref f) (.ref a :: qs) K)
    (hbase : attributeBase o x env (PySem.eval o env) = PySem.eval o env) (hline : (apos.endLine == pos.line) = true) (hst : ∀ e ∈ es, ∀ x p, e ≠ .Starred x p)
    (hfew : methodCallForm (es.length + ([] : List Keyword).length) (backTo pos (starEach es env)) (backToKw pos (keywordEach [] env)) = true) :
    EV C n env ρ σ (.Call (.Attribute o x apos) es [] pos) K :=
  fun A W s Q E r I l hk => by
    rw [arm_eval_Call, hbase]
    refine wpAny_bind (h A W s _ E r I l fun v1 s1 p σ1 W1 h1 I1 st1 r1 => ?_)
    obtain ⟨a, c, d, ns, ps, f, rfl, ha, hx, P, M, h2⟩ := h1
    have r1' : v1 = .ref a := r1
    subst r1'
    obtain ⟨es', k, ho, ho', kk, rl⟩ := I1.cells _ (mem_of_lookup ha)
    have IA : InstAt s1.heap a (instObj c d) c (some (dictOf es' k)) := ⟨ho, rfl, rfl, ho'⟩
    refine wpAny_bind (wpAny_standAt ?_)
    unfold methodCall
    simp only [List.length_nil] at hfew ⊢
    rw [hfew]
    have hpos : methodCallPos true o env apos pos = pure pos := by unfold methodCallPos; simp [hline]
    refine wpAny_bind (wpAny_holding (method_fn I1.K IA P.ga P.gt M.fnd M.ty (by show (lookIn x (dictOf es' k)).map _ = _; rw [lookIn_dict, getL_none kk hx]; rfl) ?_))
    refine wpAny_bind (wpAny_of_eq hpos ?_)
    exact callWith_es (fp := [.ref a]) M.keep r I1 (l.step0 st1) (RepL.cons rfl RepL.nil) h2 hst fun v s2 p σ2 W2 h3 I2 st2 r2 => hk v s2 p σ2 W2 h3 I2 (st1.trans st2) r2

/-- append to a turning list -/
theorem ev_append {o elt : Expr} {apos pos : Pos}
    (h : EV C n env ρ σ o fun p σ1 => ∃ a qs, p = .ref a ∧ σ1.lookup a = some (.lst qs) ∧ EV C n env ρ σ1 elt fun q σ2 => ∃ ps, σ2.lookup a = some (.lst ps) ∧ ps.length ≤ 1000 ∧ K .none (upd σ2 a (.lst (ps ++ [q]))))
    (hbase : attributeBase o "append" env (PySem.eval o env) = PySem.eval o env) (hline : (apos.endLine == pos.line) = true)
    (hfew : ((backTo pos (starEach [elt] env)).all (fun x => !x.1) && (backToKw pos (keywordEach [] env)).all (fun x => x.1.isSome)
      && decide ([elt].length + ([] : List Keyword).length + (if ([] : List Keyword).isEmpty then 0 else 1) < 30)) = true)
    (he : backTo pos (starEach [elt] env) = [(false, PySem.eval elt env)]) : EV C n env ρ σ (.Call (.Attribute o "append" apos) [elt] [] pos) K :=
  fun A W s Q E r I l hk => wpAny_Call_append hbase hfew hline he (h A W s _ E r I l fun v1 s1 p σ1 W1 h1 I1 st1 r1 => by
    obtain ⟨a, qs, rfl, ha, h2⟩ := h1
    have r1' : v1 = .ref a := r1
    subst r1'
    obtain ⟨vs, k, ho, rl⟩ := I1.cells _ (mem_of_lookup ha)
    refine ⟨a, vs.toArray, rfl, ⟨_, k, ho, rfl, rfl, rfl⟩, h2 A W1 s1 _ E r I1 (l.step0 st1) fun v2 s2 q σ2 W2 h3 I2 st2 r2 => ?_⟩
    obtain ⟨ps, ha2, hz, hK⟩ := h3
    have hm2 := mem_of_lookup ha2
    obtain ⟨vs2, k2, ho2, rl2⟩ := I2.cells _ hm2
    refine append_ls ho2 (fun h' k' e hs => ?_) (by rw [rl2.length, sizeLine_eq]; omega)
    have hc : CellAt W2 h' (a, .lst (ps ++ [q])) := ⟨_, _, e, rl2.append (.cons r2 .nil)⟩
    exact hk _ _ _ _ _ hK (I2.write (c' := .lst (ps ++ [q])) hm2 rfl (by simp [foot]) hs hc) ((st1.trans st2).trans (.write I2 (c' := .lst (ps ++ [q])) hm2 rfl (by simp [foot]) hs (by rw [e]; rfl))) rfl)

/-- a class called -/
structure Cls (C : Cx) (c fI : Addr) : Prop where
  mkk : makesIn C.K c = true
  ini : findIn C.K (.ref c) "__init__" = some (some (.ref fI))
  ty : typeIn C.K (.ref fI) = some (.type "function")
  keep : keepIn C.K (.ref c) = true
theorem Room.under {A : Around} {k : Nat} (r : Room A (k + 1)) {c : Code} (hd : (A.under c).depth ≤ A.depth + 2) (hu : (A.under c).units ≤ A.units + 6) : Room (A.under c) k :=
  ⟨by have := r.depth; omega, by have := r.units; omega, r.handled⟩
theorem Inv.newObj {W s} (I : Inv C W σ s) (c : Addr) :
    Inv C W ((s.heap.objs.size + 1, .obj c s.heap.objs.size [] []) :: σ) { s with heap := (s.heap.push emptyDict).push (instObj c s.heap.objs.size) } ∧
    s.heap.objs.size ∉ foots σ ∧ s.heap.objs.size + 1 ∉ foots σ := by
  have n1 : s.heap.objs.size ∉ foots σ := fun h => absurd (I.footLt _ h) (Nat.lt_irrefl _)
  have n2 : s.heap.objs.size + 1 ∉ foots σ := fun h => absurd (I.footLt _ h) (Nat.not_lt.mpr (Nat.le_succ _))
  have hz : (s.heap.push emptyDict).objs.size = s.heap.objs.size + 1 := Heap.size_push ..
  have I2 := (I.push emptyDict s.toks).push (instObj c s.heap.objs.size) s.toks
  have e1 : ((s.heap.push emptyDict).push (instObj c s.heap.objs.size)).get? (s.heap.objs.size + 1) = some (instObj c s.heap.objs.size) := by
    have := Heap.get?_push_size (s.heap.push emptyDict) (o := instObj c s.heap.objs.size) rfl
    rwa [hz] at this
  have e2 : ((s.heap.push emptyDict).push (instObj c s.heap.objs.size)).get? s.heap.objs.size = some (dictOf [] 0) := Heap.get?_push_of_some _ (Heap.get?_push_size _ rfl)
  refine ⟨⟨I2.ok, I2.ice, I2.h0, fun p hp => ?_, ?_, fun a o w hf => ?_, I2.gens, I2.os⟩, n1, n2⟩
  · rcases List.mem_cons.mp hp with rfl | hp
    · exact ⟨[], 0, e1, e2, rfl, rfl⟩
    · exact I2.cells p hp
  · show ([s.heap.objs.size + 1, s.heap.objs.size] ++ foots σ).Nodup
    refine List.nodup_cons.mpr ⟨?_, List.nodup_cons.mpr ⟨n1, I.nodup⟩⟩
    intro h
    rcases List.mem_cons.mp h with h | h
    · exact Nat.succ_ne_self _ h
    · exact n2 h
  · change a ∈ [s.heap.objs.size + 1, s.heap.objs.size] ++ foots σ at hf
    have := I.iceLt _ _ w
    rcases List.mem_append.mp hf with hf | hf
    · simp only [List.mem_cons, List.not_mem_nil, or_false] at hf
      rcases hf with rfl | rfl
      · exact Nat.not_succ_le_self _ (Nat.le_of_lt this)
      · exact Nat.lt_irrefl _ this
    · exact I.apart _ _ w hf
theorem get_succ_none (h : Heap) : h.get? (h.objs.size + 1) = none := by
  cases e : h.get? (h.objs.size + 1) with
  | none => rfl
  | some o => exact absurd (Heap.lt_size e) (Nat.not_lt.mpr (Nat.le_succ _))
theorem Step.newObj {X W s} (c : Addr) :
    Step X W W σ ((s.heap.objs.size + 1, .obj c s.heap.objs.size [] []) :: σ) s { s with heap := (s.heap.push emptyDict).push (instObj c s.heap.objs.size) } :=
  ⟨.refl, fun _ _ h => .inl h, fun _ _ e _ _ => Heap.get?_push_of_some _ (Heap.get?_push_of_some _ e), there_of_keep fun _ _ e => Heap.get?_push_of_some _ (Heap.get?_push_of_some _ e), fun a h => by
    change a ∈ [s.heap.objs.size + 1, s.heap.objs.size] ++ foots σ at h
    rcases List.mem_append.mp h with h | h
    · simp only [List.mem_cons, List.not_mem_nil, or_false] at h
      rcases h with rfl | rfl
      · exact .inr (get_succ_none _)
      · exact .inr (get_size_none _)
    · exact .inl h⟩

theorem cv_cls {c fI : Addr} {ps : List PV} (D : Cls C c fI)
    (h : ∀ a d, a ∉ foots σ → d ∉ foots σ → a ≠ d → FN C n fI (.ref a :: ps) ((a, .obj c d [] []) :: σ) fun p σ' => p = .none ∧ K (.ref a) σ') : CV C (n + 1) σ (.ref c) ps K :=
  fun A W s Q E vs r I rl hk => by
    obtain ⟨hh, g, dd, t, os⟩ := s
    obtain ⟨I1, n1, n2⟩ := I.newObj c
    refine wpAny_call (make_core (makes_of I.K D.mkk) (looks_findIn I.K D.ini) (fun self => bind_fn I.K self D.ty) (.inl rfl) ?_)
    refine h (hh.objs.size + 1) hh.objs.size n2 n1 (Nat.succ_ne_self _) _ W _ (.ref (hh.objs.size + 1) :: vs) _ (r.under (Nat.add_le_add_left (Nat.le_of_ble_eq_true rfl) _) (Nat.add_le_add_left (Nat.le_of_ble_eq_true rfl) _)) I1 (.cons rfl rl) fun v s' p σ' W' h1 I2 st r1 => ?_
    obtain ⟨rfl, hK⟩ := h1
    have r1' : v = .none := r1
    subst r1'
    exact ⟨rfl, hk _ _ _ _ _ hK I2 ((Step.newObj (s := ⟨hh, g, dd, t, os⟩) c).trans st) rfl⟩

/-- a turning object comes to rest -/
theorem Inv.freeze {W s} {a c d : Addr} {ns : List Str} {xs : List PV} (I : Inv C W ((a, .obj c d ns xs) :: σ) s) :
    ∃ W', Inv C W' σ s ∧ W.le W' ∧ (∀ b o, W' b o → W b o ∨ b = a ∨ b = d) ∧ Rep W' (.inst c ns xs) (.ref a) := by
  obtain ⟨es, k, e1, e2, kk, rl⟩ := I.cells _ (.head _)
  have hn : ([a, d] ++ foots σ).Nodup := I.nodup
  have ha : a ∉ foots σ := fun h => (List.nodup_cons.mp hn).1 (List.mem_append_right [d] h)
  have hd : d ∉ foots σ := fun h => (List.nodup_cons.mp (List.nodup_cons.mp hn).2).1 h
  have I0 : Inv C W σ s := ⟨I.ok, I.ice, I.h0, fun p hp => I.cells p (.tail _ hp), (List.nodup_append.mp hn).2.1, fun b o w h => I.apart b o w (List.mem_append_right [a, d] h), I.gens, I.os⟩
  refine ⟨(W.add a (instObj c d)).add d (dictOf es k), (I0.ice1 e1 ha).ice1 e2 hd, Ice.le_add.trans Ice.le_add, fun b o h => ?_, a, d, es, k, rfl, .inl Ice.add_self, Ice.add_self, kk, rl.mono (Ice.le_add.trans Ice.le_add)⟩
  rcases h with (h | ⟨h, _⟩) | ⟨h, _⟩
  · exact .inl h
  · exact .inr (.inl h)
  · exact .inr (.inr h)
theorem Step.freeze {X W W' W'' s s'} {σ'' : Sig} {a c d : Addr} {ns : List Str} {xs : List PV} (st : Step X W W' σ ((a, .obj c d ns xs) :: σ'') s s') (hn1 : s.heap.get? a = none) (hn2 : s.heap.get? d = none)
    (hle : W'.le W'') (hnew : ∀ b o, W'' b o → W' b o ∨ b = a ∨ b = d) : Step X W W'' σ σ'' s s' :=
  ⟨st.le.trans hle, fun b o h => (hnew b o h).elim (st.new b o) (fun h => .inr (.inr (h.elim (fun h => h ▸ hn1) (fun h => h ▸ hn2)))), st.kept, st.there, fun b h => st.own b (List.mem_append_right [a, d] h)⟩
theorem cv_cls_ice {c fI : Addr} {ps : List PV} (D : Cls C c fI)
    (h : ∀ a d, a ∉ foots σ → d ∉ foots σ → a ≠ d → FN C n fI (.ref a :: ps) ((a, .obj c d [] []) :: σ) fun p σ' => p = .none ∧ ∃ ns xs σ'', σ' = (a, .obj c d ns xs) :: σ'' ∧ K (.inst c ns xs) σ'') : CV C (n + 1) σ (.ref c) ps K :=
  fun A W s Q E vs r I rl hk => by
    obtain ⟨hh, g, dd, t, os⟩ := s
    obtain ⟨I1, n1, n2⟩ := I.newObj c
    refine wpAny_call (make_core (makes_of I.K D.mkk) (looks_findIn I.K D.ini) (fun self => bind_fn I.K self D.ty) (.inl rfl) ?_)
    refine h (hh.objs.size + 1) hh.objs.size n2 n1 (Nat.succ_ne_self _) _ W _ (.ref (hh.objs.size + 1) :: vs) _ (r.under (Nat.add_le_add_left (Nat.le_of_ble_eq_true rfl) _) (Nat.add_le_add_left (Nat.le_of_ble_eq_true rfl) _)) I1 (.cons rfl rl) fun v s' p σ' W' h1 I2 st r1 => ?_
    obtain ⟨rfl, ns, xs, σ'', rfl, hK⟩ := h1
    have r1' : v = .none := r1
    subst r1'
    obtain ⟨W'', I3, hle, hnew, rr⟩ := I2.freeze
    refine ⟨rfl, hk _ _ _ _ _ hK I3 (Step.freeze ((Step.newObj (s := ⟨hh, g, dd, t, os⟩) c).trans st) (get_succ_none _) (get_size_none _) hle hnew) rr⟩

end Sol
end

section
open PySem PySem.W PySem.Calls PyProof.Rows PySem.SeqAt PySem.SeqRoads2 PySem.MeetsSeq3 PySem.P
namespace Sol
variable {C : Cx} {n : Nat} {env : Env} {ρ : List (Str × PV)} {σ : Sig} {K : PV → Sig → Prop}

/-- built-ins -/
theorem cv_len_list {ps : List PV} (hz : ps.length ≤ 1000000) (h : K (.int ps.length) σ) : CV C n σ (.builtin "len") [.list ps] K :=
  fun A W s Q E vs r I rl hk => by
    obtain ⟨v, vr, rfl, ra, rl⟩ := rl
    simp only [RepL] at rl
    subst rl
    obtain ⟨a, us, k, rfl, w, rl⟩ := ra
    have hl := rl.length
    refine len_list (I.isList w) (by simp only [List.size_toArray, hl]; omega) ?_
    simp only [List.size_toArray, hl]
    exact hk _ _ _ _ _ h (I.toks _) (.toks _) ⟨_, rfl⟩
theorem cv_len_str {x : Str} (hz : x.length ≤ 1000000) (h : K (.int x.length) σ) : CV C n σ (.builtin "len") [.str x] K :=
  fun A W s Q E vs r I rl hk => by
    obtain ⟨v, vr, rfl, ra, rl⟩ := rl
    simp only [RepL] at rl
    subst rl
    obtain ⟨t, rfl⟩ := ra
    exact PyProof.Rows.len_str (by omega) (hk _ _ _ _ _ h (I.toks _) (.toks _) ⟨_, rfl⟩)
theorem cv_min {i j : Int} (h : K (.int (if j < i then j else i)) σ) : CV C n σ (.builtin "min") [.int i, .int j] K :=
  fun A W s Q E vs r I rl hk => by
    obtain ⟨v, vr, rfl, ⟨t, rfl⟩, rl⟩ := rl
    obtain ⟨v, vr, rfl, ⟨u, rfl⟩, rl⟩ := rl
    simp only [RepL] at rl
    subst rl
    refine min_two_ints r.handled fun h' tk hkp => ?_
    have I' : Inv C W σ { s with heap := h', toks := tk } := I.keeps (fun a o e => hkp _ _ (I.ice _ _ e)) (fun a _ o e => hkp _ _ e) rfl rfl
    by_cases hc : j < i
    · rw [if_pos hc]; rw [if_pos hc] at h; exact hk _ _ _ _ _ h I' (.keepAll hkp) ⟨_, rfl⟩
    · rw [if_neg hc]; rw [if_neg hc] at h; exact hk _ _ _ _ _ h I' (.keepAll hkp) ⟨_, rfl⟩
section
open PySem.NumText
theorem sn_int : typeLookup (.type "str") "__int__" = pure none := by rw [typeLookup_type, builtinLookup_eq_fast]; kernel_rfl
theorem sn_index : typeLookup (.type "str") "__index__" = pure none := by rw [typeLookup_type, builtinLookup_eq_fast]; kernel_rfl
theorem sn_trunc : typeLookup (.type "str") "__trunc__" = pure none := by rw [typeLookup_type, builtinLookup_eq_fast]; kernel_rfl
/-- a row of signs that is read as a number -/
structure Reads10 (l : List Nat) (i : Int) : Prop where
  few : (l.takeWhile (· != 0)).length ≤ 640
  num : (int_private% "readNumeral") 0 10 (l.takeWhile (· != 0)) = (int_private% "Numeral.value") i
  all : ((l.takeWhile (· != 0)).length == l.length) = true
theorem int_of_signs {M : Model} {A : Around} {E : Value → Shared → Prop} {s : Shared} {Q : Value → Shared → Prop} {v : Value} {l : List Nat} {i : Int} (R : Reads10 l i)
    (h : Q (.int i s.toks) { s with toks := s.toks + 1 }) : wpAny M A ((int_private% "intFromText") v l 10) Q E s := by
  cases s with | mk hp g d tk os =>
  iterate 2
    repeat (any_goals (first
      | assumption
      | (with_reducible refine wpAny_ite_true (decide_eq_true R.few) ?_)
      | (with_reducible refine wpAny_ite_true (decide_eq_true R.all) ?_)
      | wp_step))
    all_goals (try rw [R.num])
    all_goals (try dsimp only)
set_option maxHeartbeats 4000000 in
theorem int_gives {x : Str} {t : Tok} {i : Int} (hl : x.length ≤ 640) (hx : PySem.intText? x = some i) : Gives (Builtin.«int.__new__» ⟨[.type "int", .str x t], []⟩) (.int i) := by
  refine .of_wp fun M A E s Q h => ?_
  have R : Reads10 (numTextOf x) i := by
    have few : (numSeenOf x).length ≤ 640 := Nat.le_trans (seen_length x) hl
    rcases read0 x few with ⟨m, h1, h2, h3⟩ | ⟨h1, _⟩
    · rw [hx] at h1; cases h1; exact ⟨few, h3, h2⟩
    · rw [hx] at h1; cases h1
  clear hl hx
  have a1 := F.conv_sub_int
  have a2 := F.madeHere_int
  have a3 := sn_int
  have a4 := sn_index
  have a5 := sn_trunc
  have a6 : typeOf (.str x t) = pure (.type "str") := rfl
  cases s with | mk hp g d tk os =>
  repeat (any_goals (first
    | assumption
    | ((with_reducible show wpAny _ _ ((int_private% "intFromText") _ _ _) _ _ _); refine int_of_signs R ?_)
    | wp_step))
  all_goals first | exact ⟨_, rfl, h⟩ | skip
end
theorem cv_int {x : Str} {i : Int} (hx : PySem.intText? x = some i) (hz : x.length ≤ 640) (h : K (.int i) σ) : CV C n σ (.type "int") [.str x] K :=
  fun A W s Q E vs r I rl hk => by
    obtain ⟨v, vr, rfl, ⟨t, rfl⟩, rl⟩ := rl
    simp only [RepL] at rl
    subst rl
    exact call_int_1 (int_gives hz hx).meets (show (Made.int i).post _ s from ⟨rfl, hk _ _ _ _ _ h (I.toks _) (.toks _) ⟨_, rfl⟩⟩)
theorem cv_str {i : Int} (hz : i.natAbs.log2 < 1920) (h : K (.str (Str.ofString (toString i))) σ) : CV C n σ (.type "str") [.int i] K :=
  fun A W s Q E vs r I rl hk => by
    obtain ⟨v, vr, rfl, ⟨t, rfl⟩, rl⟩ := rl
    simp only [RepL] at rl
    subst rl
    exact str_of_int hz (hk _ _ _ _ _ h (I.toks _) (.toks _) ⟨_, rfl⟩)

theorem strsAre_of {W : Ice} : ∀ {ys : List Str} {vs : List Value}, RepL W (ys.map .str) vs → StrsAre vs ys
  | [], _, r => by simp only [List.map_nil, RepL] at r; subst r; exact .nil
  | y :: ys, _, ⟨v, r, e, ⟨t, ev⟩, rl⟩ => by subst e ev; exact .cons _ _ (strsAre_of rl)
theorem ev_join {x : Str} {xk : Nat} {xp apos pos : Pos} {a : Expr} (h : EV C n env ρ σ a fun p σ1 => ∃ ys : List Str, p = .list (ys.map .str) ∧ (ys.map (·.length)).sum + ys.length * x.length ≤ 1000000 ∧ K (.str (Txt.join x ys)) σ1)
    (hline : (apos.endLine == pos.line) = true)
    (hfew : ((backTo pos (starEach [a] env)).all (fun x => !x.1) && (backToKw pos (keywordEach [] env)).all (fun x => x.1.isSome)
      && decide ([a].length + ([] : List Keyword).length + (if ([] : List Keyword).isEmpty then 0 else 1) < 30)) = true)
    (he : backTo pos (starEach [a] env) = [(false, PySem.eval a env)]) : EV C n env ρ σ (.Call (.Attribute (.Constant (.str x) xk xp) "join" apos) [a] [] pos) K :=
  fun A W s Q E r I l hk => by
    refine wpAny_Call_method rfl hfew hline F.plainAttrs_str F.slot_str_join F.type_str_join (wpAny_Constant_str ⟨typeIs_str _ _ _, (fun _ e => nomatch e), ?_⟩)
    rw [he]
    refine Calls.callWith_builtin rfl (Calls.evalArgs_plain (Calls.spliced_cons (h A W _ _ E r (I.toks _) (l.step0 (.toks _)) fun v s1 p σ1 W1 h1 I1 st1 r1 => Calls.spliced_nil ?_)))
    obtain ⟨ys, rfl, hz, hK⟩ := h1
    obtain ⟨al, us, k, rfl, w, rl⟩ := r1
    refine join_list (I1.isList w) (strsAre_of rl) (by omega) fun t' k => ?_
    exact hk _ _ _ _ _ hK (I1.toks _) (((Step.toks _).trans st1).trans (.toks _)) ⟨_, rfl⟩

/-- a def at its place -/
structure FnAt (C : Cx) (f : Addr) (params : Arguments) (body : List Stmt) (scope : Scope) (dfl : List Value) : Prop where
  ex : ∃ o name qual dV kV doc pm an cdv ct, C.h₀.get? f = some o ∧ o.data = .func (fnOf name qual params body scope dV kV doc pm an cdv ct) ∧ C.h₀.CodeRec cdv qual ∧
    (dfl = [] → dV = .none) ∧ (dfl ≠ [] → ∃ T oT k, dV = .ref T ∧ C.h₀.get? T = some oT ∧ oT.data = .seq dfl.toArray k)

noncomputable abbrev mkEnv (scope : Scope) (L f : Addr) (q : Str) (cd : Value) : Env :=
  { scope := scope, locals := L, globals := mainGlobals, cells := [], qual := q, func := some f, code := cd, frame := some L, builtins := builtinsNs }

theorem zip_lookup {W : Ice} : ∀ {xs : List Str} {ps : List PV} {vs : List Value}, RepL W ps vs → ∀ (ρ : List (Str × PV)) (m : List (Str × Value)), (∀ x p, ρ.lookup x = some p → ∃ v, m.lookup x = some v ∧ Rep W p v) →
    ∀ x p, ((xs.zip ps).reverse ++ ρ).lookup x = some p → ∃ v, ((xs.zip vs).reverse ++ m).lookup x = some v ∧ Rep W p v
  | [], _, _, _, ρ, m, h, x, p, e => by simp only [List.zip_nil_left, List.reverse_nil, List.nil_append] at e ⊢; exact h x p e
  | _ :: _, [], _, r, ρ, m, h, x, p, e => by
    simp only [RepL] at r; subst r
    simp only [List.zip_nil_right, List.reverse_nil, List.nil_append] at e ⊢; exact h x p e
  | y :: ys, q :: qs, _, ⟨v, r, ev, rq, rl⟩, ρ, m, h, x, p, e => by
    subst ev
    simp only [List.zip_cons_cons, List.reverse_cons, List.append_assoc, List.singleton_append] at e ⊢
    refine zip_lookup rl ((y, q) :: ρ) ((y, v) :: m) (fun x' p' e' => ?_) x p e
    rw [List.lookup_cons] at e' ⊢
    split at e'
    · cases e'; exact ⟨v, rfl, rq⟩
    · exact h x' p' e'

/-- a def's body shown, its contract holds -/
theorem fn_enter {f : Addr} {params : Arguments} {body : List Stmt} {scope : Scope} {dfl : List Value} {args dargs : List PV} {xs : List Str} (F : FnAt C f params body scope dfl)
    (hb : ∀ (name qual : Str) (dV kV doc pm : Value) (an : Option Addr) (cdv ct : Value) (vs : List Value) (s : Shared), vs.length = args.length → (dfl = [] → dV = .none) →
      (dfl ≠ [] → ∃ T oT k, dV = .ref T ∧ s.heap.get? T = some oT ∧ oT.data = .seq dfl.toArray k) → ∃ ds, RepL (fun _ _ => False) dargs ds ∧ BindsTo s (fnOf name qual params body scope dV kV doc pm an cdv ct) ⟨vs, []⟩ (xs.zip (vs ++ ds)))
    (hloc : ∀ x ∈ xs, scope.names.lookup x = some .local) (hcell : ∀ x ∈ scope.names, x.2 ≠ .cell)
    (h : ∀ L q cd, XS C n (mkEnv scope L f q cd) (xs.zip (args ++ dargs)).reverse σ body fun pf ρ' σ' => (∃ p, pf = .ret p ∧ K p σ') ∨ (pf = .next ∧ K .none σ'))
    (hco : scope.isCoroutine = false := by rfl) (hgen : scope.isGenerator = false := by rfl) (hk : scope.kind = .function := by rfl) : FN C (n + 1) f args σ K :=
  fun A W s vs R r I rl hkk => by
    obtain ⟨o, name, qual, dV, kV, doc, pm, an, cdv, ct, ho, hd, hcd, hd0, hd1⟩ := F.ex
    have keep := I.keep0
    obtain ⟨ds, rds, hB⟩ := hb name qual dV kV doc pm an cdv ct vs s rl.length hd0 (fun hne => by
      obtain ⟨T, oT, k, e1, e2, e3⟩ := hd1 hne
      exact ⟨T, oT, k, e1, keep _ _ e2, e3⟩)
    have rds' : RepL W dargs ds := rds.mono (fun _ _ h => h.elim)
    refine codeAny_call_def (by have := r.depth; omega) (keep _ _ ho) hd I.nolimit (hcd.keeps keep) rfl hB hcell (fun x hx => hloc x.1 (List.of_mem_zip hx).1) (fun h₁ hns hkp => ?_) hco hgen hk
    show wpAny _ (A.deeper (mkEnv scope s.heap.objs.size f (qual ++ ".<locals>.") cdv)) (execs body (mkEnv scope s.heap.objs.size f (qual ++ ".<locals>.") cdv)) _ _ _
    have I1 : Inv C W σ { s with heap := h₁, toks := s.toks + (xs.zip (vs ++ ds)).length } := I.keeps (fun a o e => hkp _ _ (I.ice _ _ e)) (fun a _ o e => hkp _ _ e) rfl rfl
    have st0 : Step [] W W σ σ s { s with heap := h₁, toks := s.toks + (xs.zip (vs ++ ds)).length } := .keepAll hkp
    have l1 : Loc (mkEnv scope s.heap.objs.size f (qual ++ ".<locals>.") cdv) (xs.zip (args ++ dargs)).reverse W σ { s with heap := h₁, toks := s.toks + (xs.zip (vs ++ ds)).length } :=
      ⟨⟨_, hns, fun x p e => by
        have := zip_lookup (xs := xs) (rl.append rds') [] [] (fun x p e => by cases e) x p (by simpa using e)
        simpa using this⟩, fun h => absurd (I.footLt _ h) (Nat.lt_irrefl _), fun o w => absurd (I.iceLt _ _ w) (Nat.lt_irrefl _)⟩
    refine h s.heap.objs.size (qual ++ ".<locals>.") cdv _ W _ _ _ ⟨by show A.depth + 1 + 4 * n < recursionLimit; have := r.depth; omega, by show A.units + 3 + 12 * n < cLine; have := r.units; omega, r.handled⟩ I1 l1 fun fl s' pf ρ' σ' W' hK I2 st l2 rf => ?_
    have st' := (st0.ofNil.trans st).drop (get_size_none s.heap)
    rcases hK with ⟨p, rfl, hK⟩ | ⟨rfl, hK⟩
    · obtain ⟨v, rfl, rv⟩ := rf
      exact hkk v s' p σ' W' hK I2 st' rv
    · have rf' : fl = .next := rf
      subst rf'
      exact hkk .none s' .none σ' W' hK I2 st' rfl

/-- statements -/
theorem store {x : Str} {p : PV} {v : Value} {W s} {A : Around} {Q : Unit → Shared → Prop} {E : Value → Shared → Prop} (I : Inv C W σ s) (l : Loc env ρ W σ s) (rv : Rep W p v) (hl : env.kindOf x = some .local) (hf : env.scope.kind = .function)
    (hk : ∀ s', Inv C W σ s' → Step [env.locals] W W σ σ s s' → Loc env ((x, p) :: ρ) W σ s' → Q () s') : wpAny (model C.prog C.w) A (storeName env x v) Q E s := by
  obtain ⟨m, hn, hr⟩ := l.ns
  refine wpAny_storeName_local hl hn (fun h' hn' hs => ?_) (by rw [hf]; rfl)
  have hi : (h'.get? env.locals).isSome = true := by obtain ⟨o, _, _, e, _⟩ := hn'; rw [e]; rfl
  refine hk _ (I.sameBut hs l.off l.ice) (.sameBut hs (.head _) hi) ⟨⟨_, hn', fun y q e => ?_⟩, l.off, l.ice⟩
  rw [List.lookup_cons] at e
  split at e
  · rename_i hb
    cases e
    rw [beq_iff_eq] at hb
    exact ⟨v, by simp [hb], rv⟩
  · rename_i hb
    have : y ≠ x := by simpa using hb
    obtain ⟨u, h1, h2⟩ := hr y q e
    exact ⟨u, by simp [this, h1], h2⟩

variable {KS : PF → List (Str × PV) → Sig → Prop}
theorem x_nil (h : KS .next ρ σ) : XS C n env ρ σ [] KS := fun A W s Q E r I l hk => wpAny_execs_nil (hk _ _ _ _ _ _ h I .refl l rfl)
/-- one statement, then the others -/
noncomputable def XR (C : Cx) (n : Nat) (env : Env) (rest : List Stmt) (KS : PF → List (Str × PV) → Sig → Prop) : PF → List (Str × PV) → Sig → Prop
  | .next, ρ, σ => XS C n env ρ σ rest KS
  | pf, ρ, σ => KS pf ρ σ
theorem x_cons {st : Stmt} {rest : List Stmt} (h : X1 C n env ρ σ st (XR C n env rest KS)) : XS C n env ρ σ (st :: rest) KS :=
  fun A W s Q E r I l hk => wpAny_execs_cons (h A W s _ E r I l fun f s1 pf ρ1 σ1 W1 h1 I1 st1 l1 rf => by
    cases pf with
    | next =>
      have rf' : f = .next := rf
      subst rf'
      exact h1 A W1 s1 Q E r I1 l1 fun f s2 pf ρ2 σ2 W2 h2 I2 st2 l2 rf2 => hk f s2 pf ρ2 σ2 W2 h2 I2 (st1.trans st2) l2 rf2
    | brk =>
      have rf' : f = .brk := rf
      subst rf'
      exact hk _ _ _ _ _ _ h1 I1 st1 l1 rfl
    | cont =>
      have rf' : f = .cont := rf
      subst rf'
      exact hk _ _ _ _ _ _ h1 I1 st1 l1 rfl
    | ret p =>
      obtain ⟨v, rfl, rv⟩ := rf
      exact hk _ _ _ _ _ _ h1 I1 st1 l1 ⟨v, rfl, rv⟩)

theorem x_assign {x : Str} {xp pos : Pos} {e : Expr} {rest : List Stmt} (h : EV C n env ρ σ e fun p σ1 => XS C n env ((x, p) :: ρ) σ1 rest KS) (hl : env.kindOf x = some .local) (hf : env.scope.kind = .function)
    (hs : swapsWith e (some (.Name x xp)) pos.line env = pure false) : XS C n env ρ σ (.Assign [.Name x xp] e pos :: rest) KS :=
  x_cons fun A W s Q E r I l hk => wpAny_Assign_Name (h A W s _ E r I l fun v s1 p σ1 W1 h1 I1 st1 r1 => store I1 (l.step0 st1) r1 hl hf fun s2 I2 st2 l2 =>
    hk _ _ .next _ _ _ h1 I2 (st1.ofNil.trans st2) l2 rfl) hs
theorem x_return {e : Expr} {pos : Pos} {rest : List Stmt} (h : EV C n env ρ σ e fun p σ1 => KS (.ret p) ρ σ1) : XS C n env ρ σ (.Return (some e) pos :: rest) KS :=
  x_cons fun A W s Q E r I l hk => wpAny_Return_some (h A W s _ E r I l fun v s1 p σ1 W1 h1 I1 st1 r1 => hk _ _ (.ret p) _ _ _ h1 I1 st1.ofNil (l.step0 st1) ⟨v, rfl, r1⟩)
theorem x_break {pos : Pos} {rest : List Stmt} (h : KS .brk ρ σ) : XS C n env ρ σ (.Break pos :: rest) KS :=
  x_cons fun A W s Q E r I l hk => wpAny_Break (hk _ _ .brk _ _ _ h I .refl l rfl)
theorem x_expr {e : Expr} {pos : Pos} {rest : List Stmt} (h : EV C n env ρ σ e fun _ σ1 => XS C n env ρ σ1 rest KS) (hi : interactive env = false) (hs : swapsWith e none pos.line env = pure false) : XS C n env ρ σ (.Expr e pos :: rest) KS :=
  x_cons fun A W s Q E r I l hk => wpAny_Expr_any (h A W s _ E r I l fun v s1 p σ1 W1 h1 I1 st1 r1 => hk _ _ .next _ _ _ h1 I1 st1.ofNil (l.step0 st1) rfl) hi hs
theorem x1_if {t : Expr} {a b : List Stmt} {pos : Pos} (h : TB C n env ρ σ t fun c σ1 => (c = true → XS C n env ρ σ1 a KS) ∧ (c = false → XS C n env ρ σ1 b KS)) : X1 C n env ρ σ (.If t a b pos) KS :=
  fun A W s Q E r I l hk => wpAny_If (h A W s _ E r I l fun c s1 σ1 W1 h1 I1 st1 => by
    cases c with
    | true => rw [if_pos rfl]; exact h1.1 rfl A W1 s1 Q E r I1 (l.step0 st1) fun f s2 pf ρ2 σ2 W2 h2 I2 st2 l2 rf2 => hk f s2 pf ρ2 σ2 W2 h2 I2 (st1.ofNil.trans st2) l2 rf2
    | false => rw [if_neg (by decide)]; exact h1.2 rfl A W1 s1 Q E r I1 (l.step0 st1) fun f s2 pf ρ2 σ2 W2 h2 I2 st2 l2 rf2 => hk f s2 pf ρ2 σ2 W2 h2 I2 (st1.ofNil.trans st2) l2 rf2)
theorem x_if {t : Expr} {a b rest : List Stmt} {pos : Pos} (h : TB C n env ρ σ t fun c σ1 => (c = true → XS C n env ρ σ1 a (XR C n env rest KS)) ∧ (c = false → XS C n env ρ σ1 b (XR C n env rest KS))) : XS C n env ρ σ (.If t a b pos :: rest) KS :=
  x_cons (x1_if h)

/-- += on a name -/
noncomputable def OPI (C : Cx) (n : Nat) (σ : Sig) (op : Operator) (p q : PV) (K : PV → Sig → Prop) : Prop := OP2 C n σ (inplaceOp op) p q K
theorem x_aug {x : Str} {xp pos : Pos} {op : Operator} {e : Expr} {rest : List Stmt} {p : PV} (hx : ρ.lookup x = some p) (h : EV C n env ρ σ e fun q σ1 => OP2 C n σ1 (inplaceOp op) p q fun t σ2 => XS C n env ((x, t) :: ρ) σ2 rest KS)
    (hl : env.kindOf x = some .local) (hf : env.scope.kind = .function) : XS C n env ρ σ (.AugAssign (.Name x xp) op e pos :: rest) KS :=
  x_cons fun A W s Q E r I l hk => by
    obtain ⟨m, hn, hr⟩ := l.ns
    obtain ⟨v0, hv0, rv0⟩ := hr _ _ hx
    refine wpAny_AugAssign_Name (wpAny_loadName_local hf hl hn hv0 (h A W s _ E r I l fun v s1 q σ1 W1 h1 I1 st1 r1 => h1 A W1 s1 _ E v0 v r I1 (Rep.mono st1.le _ _ rv0) r1 fun v2 s2 t σ2 W2 h2 I2 st2 r2 => ?_))
    exact store I2 (l.step0 (st1.trans st2)) r2 hl hf fun s3 I3 st3 l3 => hk _ _ .next _ _ _ h2 I3 ((st1.trans st2).ofNil.trans st3) l3 rfl

/-- self.x = e -/
theorem x_setattr {o e : Expr} {x : Str} {ap pos : Pos} {rest : List Stmt}
    (h : EV C n env ρ σ e fun q σ1 => EV C n env ρ σ1 o fun p σ2 => ∃ a c d ns ps, p = .ref a ∧ σ2.lookup a = some (.obj c d ns ps) ∧ ns.length ≤ 100 ∧ Plain C c ∧ Field C c x ∧ XS C n env ρ (upd σ2 a (.obj c d (putF ns ps x q).1 (putF ns ps x q).2)) rest KS)
    (hs : swapsWith e (some (.Attribute o x ap)) pos.line env = pure false) : XS C n env ρ σ (.Assign [.Attribute o x ap] e pos :: rest) KS :=
  x_cons fun A W s Q E r I l hk => plainObj_wpAny_Assign_Attribute (h A W s _ E r I l fun v s1 q σ1 W1 h1 I1 st1 r1 =>
    h1 A W1 s1 _ E r I1 (l.step0 st1) fun v2 s2 p σ2 W2 h2 I2 st2 r2 => by
      obtain ⟨a, c, d, ns, ps, rfl, ha, hz, P, F, hX⟩ := h2
      have r2' : v2 = .ref a := r2
      subst r2'
      exact setAttr_cell P F hz I2 ha (Rep.mono st2.le _ _ r1) fun s3 I3 st3 => hk _ _ .next _ _ _ hX I3 (((st1.trans st2).trans st3).ofNil) (l.step0 ((st1.trans st2).trans st3)) rfl) hs
/-- self.x += e -/
theorem x_augattr {o e : Expr} {x : Str} {ap pos : Pos} {op : Operator} {rest : List Stmt}
    (h : EV C n env ρ σ o fun p σ1 => ∃ a, p = .ref a ∧ OP1 C n σ1 (fun v => getAttr v x true) p fun q σ2 => EV C n env ρ σ2 e fun t σ3 => OP2 C n σ3 (inplaceOp op) q t fun u σ4 =>
      ∃ c d ns ps, σ4.lookup a = some (.obj c d ns ps) ∧ ns.length ≤ 100 ∧ Plain C c ∧ Field C c x ∧ XS C n env ρ (upd σ4 a (.obj c d (putF ns ps x u).1 (putF ns ps x u).2)) rest KS) :
    XS C n env ρ σ (.AugAssign (.Attribute o x ap) op e pos :: rest) KS :=
  x_cons fun A W s Q E r I l hk => wpAny_AugAssign_AttributeAny (h A W s _ E r I l fun v1 s1 p σ1 W1 h1 I1 st1 r1 => by
    obtain ⟨a, rfl, h1⟩ := h1
    have r1' : v1 = .ref a := r1
    subst r1'
    refine h1 A W1 s1 _ E (.ref a) r I1 r1 fun v2 s2 q σ2 W2 h2 I2 st2 r2 => h2 A W2 s2 _ E r I2 (l.step0 (st1.trans st2)) fun v3 s3 t σ3 W3 h3 I3 st3 r3 =>
      h3 A W3 s3 _ E v2 v3 r I3 (Rep.mono st3.le _ _ r2) r3 fun v4 s4 u σ4 W4 h4 I4 st4 r4 => ?_
    obtain ⟨c, d, ns, ps, ha, hz, P, F, hX⟩ := h4
    exact setAttr_cell P F hz I4 ha r4 fun s5 I5 st5 => hk _ _ .next _ _ _ hX I5 (((((st1.trans st2).trans st3).trans st4).trans st5).ofNil) (l.step0 ((((st1.trans st2).trans st3).trans st4).trans st5)) rfl)
/-- x[i] = e, of a list that turns -/
theorem x_setitem {o i e : Expr} {ap pos : Pos} {rest : List Stmt}
    (h : EV C n env ρ σ e fun q σ1 => EV C n env ρ σ1 o fun p σ2 => EV C n env ρ σ2 i fun k σ3 => ∃ a ps j, p = .ref a ∧ k = .int j ∧ σ3.lookup a = some (.lst ps) ∧ 0 ≤ j ∧ j < 2 ^ 62 ∧ j < ps.length ∧ XS C n env ρ (upd σ3 a (.lst (ps.set j.toNat q))) rest KS)
    (hs : swapsWith e (some (.Subscript o i ap)) pos.line env = pure false) : XS C n env ρ σ (.Assign [.Subscript o i ap] e pos :: rest) KS :=
  x_cons fun A W s Q E r I l hk => wpAny_Assign_Subscript (h A W s _ E r I l fun v s1 q σ1 W1 h1 I1 st1 r1 =>
    h1 A W1 s1 _ E r I1 (l.step0 st1) fun v2 s2 p σ2 W2 h2 I2 st2 r2 => h2 A W2 s2 _ E r I2 (l.step0 (st1.trans st2)) fun v3 s3 k σ3 W3 h3 I3 st3 r3 => by
      obtain ⟨a, ps, j, rfl, rfl, ha, h0, hf, hlen, hX⟩ := h3
      have r2' : v2 = .ref a := r2
      subst r2'
      obtain ⟨u, rfl⟩ := r3
      have hm := mem_of_lookup ha
      obtain ⟨vs, kk, ho, rl⟩ := I3.cells _ hm
      refine setItem_ls ho h0 (by omega) (by rw [rl.length]; exact hlen) fun h' k' e' hs' => ?_
      have hc : CellAt W3 h' (a, .lst (ps.set j.toNat q)) := ⟨_, _, e', rl.set _ (Rep.mono (st2.le.trans st3.le) _ _ r1)⟩
      have I4 := I3.write (t := s3.toks) (c' := .lst (ps.set j.toNat q)) hm rfl (by simp [foot]) hs' hc
      have st4 : Step [] W3 W3 σ3 (upd σ3 a (.lst (ps.set j.toNat q))) s3 { s3 with heap := h', toks := s3.toks } := .write I3 (c' := .lst (ps.set j.toNat q)) hm rfl (by simp [foot]) hs' (by rw [e']; rfl)
      exact hk _ _ .next _ _ _ hX I4 ((((st1.trans st2).trans st3).trans st4).ofNil) (l.step0 (((st1.trans st2).trans st3).trans st4)) rfl) hs

end Sol
end

section
open PySem PySem.W PySem.Calls PyProof.Rows PySem.SeqAt PySem.SeqRoads2 PySem.MeetsSeq3 PySem.P
namespace Sol
variable {C : Cx} {n : Nat} {env : Env} {ρ : List (Str × PV)} {σ : Sig} {K : PV → Sig → Prop}

theorem op_iadd_int {i j : Int} (h : K (.int (i + j)) σ) : OP2 C n σ (inplaceOp .Add) (.int i) (.int j) K :=
  op2_here h fun A W s Q E a b ro I ra rb hk => by
    obtain ⟨t, rfl⟩ := ra; obtain ⟨u, rfl⟩ := rb
    exact wpAny_iadd_int (hk _ _ ⟨_, rfl⟩)
theorem op_isub_int {i j : Int} (h : K (.int (i - j)) σ) : OP2 C n σ (inplaceOp .Sub) (.int i) (.int j) K :=
  op2_here h fun A W s Q E a b ro I ra rb hk => by
    obtain ⟨t, rfl⟩ := ra; obtain ⟨u, rfl⟩ := rb
    exact PyProof.Rows.isub_int (hk _ _ ⟨_, rfl⟩)
theorem op_iadd_str {x y : Str} (hz : x.length + y.length ≤ sizeLine) (h : K (.str (x ++ y)) σ) : OP2 C n σ (inplaceOp .Add) (.str x) (.str y) K :=
  op2_here h fun A W s Q E a b ro I ra rb hk => by
    obtain ⟨t, rfl⟩ := ra; obtain ⟨u, rfl⟩ := rb
    refine P.iadd_str ?_
    by_cases hx : x.length == 0
    · rw [if_pos hx]
      have hx0 : x.length = 0 := beq_iff_eq.mp hx
      have e : x ++ y = y := by
        have hc : x.cps = #[] := Array.eq_empty_of_size_eq_zero hx0
        show Str.mk (x.cps ++ y.cps) = y
        rw [hc]; simp
      exact hk (.str y u) s.toks (by rw [e]; exact ⟨_, rfl⟩)
    · rw [if_neg hx]
      by_cases hy : y.length == 0
      · rw [if_pos hy]
        have hy0 : y.length = 0 := beq_iff_eq.mp hy
        have e : x ++ y = x := by
          have hc : y.cps = #[] := Array.eq_empty_of_size_eq_zero hy0
          show Str.mk (x.cps ++ y.cps) = x
          rw [hc]; simp
        exact hk (.str x t) s.toks (by rw [e]; exact ⟨_, rfl⟩)
      · rw [if_neg hy]
        exact ⟨by rw [show (x ++ y).length = x.length + y.length from Str.length_append x y]; exact hz, hk _ (s.toks + 1) ⟨_, rfl⟩⟩

theorem draw_list {prog w} {A : Around} {E : Value → Shared → Prop} {it t : Addr} {items : Array Value} (hne : t ≠ it) : ∀ (n i : Nat) (s : Shared) (Q : List Value → Shared → Prop), s.heap.IsListIter it t i → s.heap.IsList t items → i + n ≤ items.size →
    (∀ h', h'.IsListIter it t (i + n) → Heap.SameBut it s.heap h' → Q ((items.toList.drop i).take n) { s with heap := h' }) → wpAny (model prog w) A (draw (.ref it) n) Q E s
  | 0, i, s, Q, hit, _, _, hQ => by
    show wpAny _ _ (pure []) Q E s
    exact wpAny_pure (by simpa using hQ s.heap hit (Heap.SameBut.refl ..))
  | n + 1, i, s, Q, hit, ht, hle, hQ => by
    have hlt : i < items.size := by omega
    show wpAny _ _ (pyNext (.ref it) >>= _) Q E s
    refine wpAny_bind (wpAny_pyNext_list_item hit ht (x := items[i]) (by simp [hlt]) fun h₁ hit₁ hs₁ => ?_)
    refine wpAny_bind (wpAny_holding (draw_list hne n (i + 1) _ _ hit₁ (ht.at fun o e => hs₁.extBut _ _ hne e) (by omega) fun h₂ hit₂ hs₂ => wpAny_pure ?_))
    have hd : items.toList.drop i = items[i] :: items.toList.drop (i + 1) := by simp [List.drop_eq_getElem_cons, hlt]
    have := hQ h₂ (by rw [show i + (n + 1) = i + 1 + n by omega]; exact hit₂) (hs₁.trans hs₂)
    rw [hd, List.take_succ_cons] at this
    exact this
theorem unpackItems_list {prog w} {A : Around} {E : Value → Shared → Prop} {s : Shared} {t : Addr} {items : Array Value} {Q : List Value → Shared → Prop} (hh : A.handled = none) (ht : s.heap.IsList t items)
    (hQ : ∀ h', Heap.ExtBut s.heap.objs.size s.heap h' → Q items.toList { s with heap := h' }) : wpAny (model prog w) A (unpackItems (.ref t) items.size none) Q E s := by
  have hlt : t ≠ s.heap.objs.size := by obtain ⟨o, ho, _⟩ := ht; exact Nat.ne_of_lt (Heap.lt_size ho)
  unfold unpackItems
  refine wpAny_bind ?_
  unfold notIterableAtAll
  refine wpAny_bind (wpAny_specialOf ht.typeIs F.slot_list_iter.lookup ?_)
  refine wpAny_pure ?_
  simp only [Bool.false_eq_true, if_false]
  refine wpAny_bind (wpAny_holding (wpAny_pyIter_list ht ?_))
  have ht0 : (s.heap.push { cls := .type "list_iterator", data := .fields #[.ref t, .int 0 0] }).IsList t items := ht.at fun o e => Heap.get?_push_of_some _ e
  refine wpAny_bind (wpAny_holding (draw_list hlt items.size 0 _ _ ⟨_, Heap.get?_push_size _ rfl, rfl, rfl⟩ ht0 (by omega) fun h₁ hit₁ hs₁ => ?_))
  have hall : List.take items.size (List.drop 0 items.toList) = items.toList := by
    rw [List.drop_zero]; exact List.take_of_length_le (by simp)
  rw [hall]
  rw [if_neg (by simp)]
  have ht₁ : h₁.IsList t items := ht0.at fun o e => hs₁.extBut _ _ hlt e
  refine wpAny_bind (wpAny_holding (wpAny_pyNext_list_end hh hit₁ ht₁ (by simp) fun h₂ he₂ => ?_))
  simp only [Option.isSome_none, Bool.false_eq_true, if_false]
  exact wpAny_pure (hQ h₂ fun b o hb e => he₂ b o hb (hs₁.extBut b o hb (Heap.get?_push_of_some _ e)))

/-- a value stored by a target -/
noncomputable def AS (C : Cx) (n : Nat) (env : Env) (ρ : List (Str × PV)) (σ : Sig) (t : Expr) (p : PV) (ρ' : List (Str × PV)) : Prop :=
  ∀ (A : Around) (W : Ice) (s : Shared) (Q : Unit → Shared → Prop) (E : Value → Shared → Prop) (v : Value), Room A n → Inv C W σ s → Loc env ρ W σ s → Rep W p v →
    (∀ s', Inv C W σ s' → Step [env.locals] W W σ σ s s' → Loc env ρ' W σ s' → Q () s') → wpAny (model C.prog C.w) A (assign t env v) Q E s
noncomputable def ASs (C : Cx) (n : Nat) (env : Env) (ρ : List (Str × PV)) (σ : Sig) (ts : List Expr) (ps : List PV) (ρ' : List (Str × PV)) : Prop :=
  ∀ (A : Around) (W : Ice) (s : Shared) (Q : Unit → Shared → Prop) (E : Value → Shared → Prop) (vs : List Value), Room A n → Inv C W σ s → Loc env ρ W σ s → RepL W ps vs →
    (∀ s', Inv C W σ s' → Step [env.locals] W W σ σ s s' → Loc env ρ' W σ s' → Q () s') → wpAny (model C.prog C.w) A (assignInOrder ((assignEach ts env).map (·.2)) vs) Q E s
theorem as_name {x : Str} {xp : Pos} {p : PV} (hl : env.kindOf x = some .local) (hf : env.scope.kind = .function) : AS C n env ρ σ (.Name x xp) p ((x, p) :: ρ) :=
  fun A W s Q E v r I l rv hk => wpAny_assign_Name (store I l rv hl hf hk)
theorem ass_nil : ASs C n env ρ σ [] [] ρ := fun A W s Q E vs r I l rl hk => by
  simp only [RepL] at rl; subst rl
  exact wpAny_assignInOrder_none (hk _ I .refl l)
theorem ass_cons {t : Expr} {ts : List Expr} {p : PV} {ps : List PV} {ρ1 ρ2 : List (Str × PV)} (h : AS C n env ρ σ t p ρ1) (h' : ASs C n env ρ1 σ ts ps ρ2)
    (he : assignEach (t :: ts) env = (false, assign t env) :: assignEach ts env := by rfl) : ASs C n env ρ σ (t :: ts) (p :: ps) ρ2 := fun A W s Q E vs r I l rl hk => by
  obtain ⟨v, vr, rfl, rv, rl⟩ := rl
  rw [he]
  exact wpAny_assignInOrder_more (h A W s _ E v r I l rv fun s1 I1 st1 l1 => h' A W s1 Q E vr r I1 l1 rl fun s2 I2 st2 l2 => hk s2 I2 (st1.trans st2) l2)
theorem Inv.ext {W s} (I : Inv C W σ s) {h' : Heap} (hx : Heap.ExtBut s.heap.objs.size s.heap h') : Inv C W σ { s with heap := h' } ∧ Step [] W W σ σ s { s with heap := h' } ∧ ∀ b o, s.heap.get? b = some o → h'.get? b = some o := by
  have k : ∀ b o, s.heap.get? b = some o → h'.get? b = some o := fun b o e => hx b o (Nat.ne_of_lt (Heap.lt_size e)) e
  exact ⟨I.keeps (fun a o e => k _ _ (I.ice _ _ e)) (fun a _ o e => k _ _ e) rfl rfl, .keepAll k, k⟩
theorem as_tuple {ts : List Expr} {k : Nat} {pos : Pos} {ps : List PV} {ρ' : List (Str × PV)} (h : ASs C n env ρ σ ts ps ρ') (hn : (assignEach ts env).length = ps.length) (hstar : (assignEach ts env).findIdx? (·.1) = none) :
    AS C n env ρ σ (.Tuple ts k pos) (.tup ps) ρ' := fun A W s Q E v r I l rv hk => by
  obtain ⟨a, vs, k, rfl, w, rl⟩ := rv
  refine wpAny_assign_Tuple r.handled (I.isTup w) (by simpa [rl.length] using hn) hstar fun h' hx => ?_
  obtain ⟨I1, st1, _⟩ := I.ext hx
  exact h A W _ Q E vs r I1 (l.step0 st1) rl fun s2 I2 st2 l2 => hk s2 I2 (st1.ofNil.trans st2) l2
theorem as_tuple_list {ts : List Expr} {k : Nat} {pos : Pos} {ps : List PV} {ρ' : List (Str × PV)} (h : ASs C n env ρ σ ts ps ρ') (hn : (assignEach ts env).length = ps.length) (hstar : (assignEach ts env).findIdx? (·.1) = none) :
    AS C n env ρ σ (.Tuple ts k pos) (.list ps) ρ' := fun A W s Q E v r I l rv hk => by
  obtain ⟨a, vs, k, rfl, w, rl⟩ := rv
  rw [arm_assign_Tuple]
  refine wpAny_bind (wpAny_standAt ?_)
  unfold unpack
  rw [hstar]
  have hsz : (assignEach ts env).length = vs.toArray.size := by simpa [rl.length] using hn
  rw [hsz]
  refine wpAny_bind (wpAny_holding (unpackItems_list r.handled (I.isList w) fun h' hx => ?_))
  obtain ⟨I1, st1, _⟩ := I.ext hx
  exact h A W _ Q E vs r I1 (l.step0 st1) rl fun s2 I2 st2 l2 => hk s2 I2 (st1.ofNil.trans st2) l2

variable {KS : PF → List (Str × PV) → Sig → Prop}
theorem x_unpack {ts : List Expr} {k : Nat} {tp pos : Pos} {e : Expr} {rest : List Stmt}
    (h : EV C n env ρ σ e fun p σ1 => ∃ ρ', AS C n env ρ σ1 (.Tuple ts k tp) p ρ' ∧ XS C n env ρ' σ1 rest KS)
    (hs : swapsWithSole [.Tuple ts k tp] e pos.line env = pure false) (hw : swappedStores [.Tuple ts k tp] e env = pure none) : XS C n env ρ σ (.Assign [.Tuple ts k tp] e pos :: rest) KS :=
  x_cons fun A W s Q E r I l hk => wpAny_Assign_stores (h A W s _ E r I l fun v s1 q σ1 W1 h1 I1 st1 r1 => by
    obtain ⟨ρ', hA, hX⟩ := h1
    show wpAny _ A (assign (.Tuple ts k tp) env v) _ _ _
    exact hA A W1 s1 _ E v r I1 (l.step0 st1) r1 fun s2 I2 st2 l2 => hk _ _ .next _ _ _ hX I2 (st1.ofNil.trans st2) l2 rfl) hs hw
theorem exec_Assign (targets : List Expr) (value : Expr) (pos : Pos) : exec (.Assign targets value pos) env = (do
    standAt pos
    if ← swapsWithSole targets value pos.line env then do
      evalThenUse value env fun v => assignAll v ((assignEach targets env).map (·.2))
      pure .next
    else do
      let v ← PySem.eval value env
      assignStores env v (← swappedStores targets value env) ((assignEach targets env).map (·.2))) := rfl
/-- a, b = e1, e2: stored from the right -/
theorem x_swapped {ts : List Expr} {a b : Str} {k : Nat} {tp pos : Pos} {e : Expr} {rest : List Stmt}
    (h : EV C n env ρ σ e fun p σ1 => ∃ p1 p2, p = .tup [p1, p2] ∧ XS C n env ((a, p1) :: (b, p2) :: ρ) σ1 rest KS)
    (hs : swapsWithSole [.Tuple ts k tp] e pos.line env = pure false) (hw : swappedStores [.Tuple ts k tp] e env = pure (some [a, b])) (hla : env.kindOf a = some .local) (hlb : env.kindOf b = some .local) (hf : env.scope.kind = .function) :
    XS C n env ρ σ (.Assign [.Tuple ts k tp] e pos :: rest) KS :=
  x_cons fun A W s Q E r I l hk => by
    rw [exec_Assign, hs, hw]
    refine wpAny_bind (wpAny_standAt (wpAny_bind (wpAny_pure ?_)))
    rw [if_neg (by decide)]
    refine wpAny_bind (h A W s _ E r I l fun v s1 q σ1 W1 h1 I1 st1 r1 => ?_)
    obtain ⟨p1, p2, rfl, hX⟩ := h1
    obtain ⟨al, vs, k, rfl, w, rl⟩ := r1
    obtain ⟨v1, vr, rfl, rv1, rl⟩ := rl
    obtain ⟨v2, vr, rfl, rv2, rl⟩ := rl
    simp only [RepL] at rl
    subst rl
    refine wpAny_bind (wpAny_pure ?_)
    unfold assignStores
    refine wpAny_bind (wpAny_rule (wpAny_bind ?_))
    refine wpAny_unpackItems_tuple (items := [v1, v2].toArray) r.handled (I1.isTup w) fun h' hx => ?_
    obtain ⟨I2, st2, _⟩ := I1.ext hx
    have l2 := l.step0 (st1.trans st2)
    refine wpAny_bind (wpAny_assignInOrder_more (wpAny_bindName (store I2 l2 rv2 hlb hf fun s3 I3 st3 l3 => wpAny_assignInOrder_more (wpAny_bindName (store I3 l3 rv1 hla hf fun s4 I4 st4 l4 => wpAny_assignInOrder_none (wpAny_pure ?_))))))
    exact hk _ _ .next _ _ _ hX I4 (((st1.trans st2).ofNil.trans st3).trans st4) l4 rfl

end Sol
end

section
open PySem PySem.W PySem.Calls PyProof.Rows PySem.SeqAt PySem.SeqRoads2 PySem.MeetsSeq3 PySem.P
namespace Sol
variable {C : Cx} {n : Nat} {env : Env} {ρ : List (Str × PV)} {σ : Sig} {K : PV → Sig → Prop}

/-- an iterator it over ps: its own objects X, its state St -/
structure Iter (C : Cx) (tgt : Expr) (it : Value) (ps : List PV) (X : List Addr) (St : Nat → Heap → Prop) (W₀ : Ice) : Prop where
  item : ∀ (A : Around) (W : Ice) (σ : Sig) (s : Shared) (i : Nat) (p : PV) (Q : Value → Shared → Prop) (E : Value → Shared → Prop), A.handled = none → Inv C W σ s → W₀.le W → St i s.heap → ps[i]? = some p →
    (∀ x ∈ X, x ∉ foots σ) → (∀ x ∈ X, ∀ o, ¬ W x o) →
    (∀ v s' W', Rep W' p v → Inv C W' σ s' → Step X W W' σ σ s s' → St (i + 1) s'.heap → (∀ x ∈ X, ∀ o, ¬ W' x o) → (∀ x ∈ X, (s'.heap.get? x).isSome = true) → Q v s') →
    wpAny (model C.prog C.w) A (pyNext it) (fun r s1 => ∃ v, r = some v ∧ wpAny (model C.prog C.w) A (letOwnedTupleGo tgt it v) (fun _ s' => Q v s') E s1) E s
  fin : ∀ (A : Around) (W : Ice) (σ : Sig) (s : Shared) (i : Nat) (Q : Option Value → Shared → Prop) (E : Value → Shared → Prop), A.handled = none → Inv C W σ s → W₀.le W → St i s.heap → ps[i]? = none →
    (∀ x ∈ X, x ∉ foots σ) → (∀ x ∈ X, ∀ o, ¬ W x o) →
    (∀ h', (∀ b o, b ∉ X → s.heap.get? b = some o → h'.get? b = some o) → Q none { s with heap := h' }) → wpAny (model C.prog C.w) A (pyNext it) Q E s
  iter : ∀ (A : Around) (s : Shared) (i : Nat) (Q : Value → Shared → Prop) (E : Value → Shared → Prop), St i s.heap → Q it s → wpAny (model C.prog C.w) A (pyIter it) Q E s
  keep : ∀ i h h', St i h → (∀ x ∈ X, ∀ o, h.get? x = some o → h'.get? x = some o) → St i h'

/-- an iterable, ready to be walked -/
noncomputable def IE (C : Cx) (n : Nat) (env : Env) (ρ : List (Str × PV)) (σ : Sig) (tgt iter : Expr) (K : List PV → Sig → Prop) : Prop :=
  ∀ (A : Around) (W : Ice) (s : Shared) (Q : Value → Shared → Prop) (E : Value → Shared → Prop), Room A n → Inv C W σ s → Loc env ρ W σ s →
    (∀ it s' ps σ' W' X St, K ps σ' → Inv C W' σ' s' → Step [] W W' σ σ' s s' → (∀ x ∈ X, s.heap.get? x = none) → (∀ x ∈ X, x ∉ foots σ') → (∀ x ∈ X, ∀ o, ¬ W' x o) → (∀ x ∈ X, (s'.heap.get? x).isSome = true) →
      Iter C tgt it ps X St W' → St 0 s'.heap → Q it s') →
    wpAny (model C.prog C.w) A (PySem.eval iter env) (fun x s1 => wpAny (model C.prog C.w) A (pyIter x) Q E s1) E s

theorem Inv.extBut {W s} (I : Inv C W σ s) {x : Addr} {h' : Heap} (hx : Heap.ExtBut x s.heap h') (hf : x ∉ foots σ) (hw : ∀ o, ¬ W x o) : Inv C W σ { s with heap := h' } :=
  I.keeps (fun b o e => hx _ _ (by rintro rfl; exact hw _ e) (I.ice _ _ e)) (fun b hb o e => hx _ _ (by rintro rfl; exact hf hb) e) rfl rfl

/-- the names of the target, if the owned tuple is not let go -/
noncomputable def Plainly (C : Cx) (tgt : Expr) : Prop := ∀ (A : Around) (it : Addr) (l : Addr) (i : Nat) (v : Value) (s : Shared) (W : Ice) (p : PV) (Q : Unit → Shared → Prop) (E : Value → Shared → Prop),
  (s.heap.IsListIter it l i ∨ s.heap.IsTupleIter it l i) → Rep W p v → Q () s → wpAny (model C.prog C.w) A (letOwnedTupleGo tgt (.ref it) v) Q E s

theorem iter_list {tgt : Expr} {ps : List PV} {W : Ice} {a it : Addr} {vs : List Value} {k : Nat} (w : W a (lsO vs k)) (rl : RepL W ps vs) (hne : a ≠ it) (ht : Plainly C tgt) :
    Iter C tgt (.ref it) ps [it] (fun i h => h.IsListIter it a i) W where
  item := fun A W1 σ s i p Q E hh I hle st hp hf hw hk => by
    obtain ⟨v, hv, rv⟩ := (rl.mono hle).get hp
    refine wpAny_pyNext_list_item st (I.isList (hle _ _ w)) (by simpa using hv) fun h' hit hs => ⟨v, rfl, ?_⟩
    have hf' := hf it (.head _)
    have hw' := hw it (.head _)
    have hi : (h'.get? it).isSome = true := by obtain ⟨o, e, _⟩ := hit; rw [e]; rfl
    exact ht _ _ _ _ _ _ W1 p _ _ (.inl hit) rv (hk v _ W1 rv (I.sameBut (t := s.toks) hs hf' hw') (.sameBut hs (.head _) hi) hit hw (fun x hx => by simp at hx; subst hx; exact hi))
  fin := fun A W1 σ s i Q E hh I hle st hp hf hw hk => by
    have : vs.toArray[i]? = none := by
      have h1 := List.getElem?_eq_none_iff.mp hp
      simp [rl.length, h1]
    refine wpAny_pyNext_list_end hh st (I.isList (hle _ _ w)) this fun h' hx => hk h' fun b o hb e => hx b o (by simpa using hb) e
  iter := fun A s i Q E st h => wpAny_pyIter_listiter st h
  keep := fun i h h' st hk => st.at fun o e => hk it (.head _) o e
theorem iter_tup {tgt : Expr} {ps : List PV} {W : Ice} {a it : Addr} {vs : List Value} {k : Nat} (w : W a (tpO vs k)) (rl : RepL W ps vs) (hne : a ≠ it) (ht : Plainly C tgt) :
    Iter C tgt (.ref it) ps [it] (fun i h => h.IsTupleIter it a i) W where
  item := fun A W1 σ s i p Q E hh I hle st hp hf hw hk => by
    obtain ⟨v, hv, rv⟩ := (rl.mono hle).get hp
    refine wpAny_pyNext_tuple_item st (I.isTup (hle _ _ w)) (by simpa using hv) fun h' hit hs => ⟨v, rfl, ?_⟩
    have hf' := hf it (.head _)
    have hw' := hw it (.head _)
    have hi : (h'.get? it).isSome = true := by obtain ⟨o, e, _⟩ := hit; rw [e]; rfl
    exact ht _ _ _ _ _ _ W1 p _ _ (.inr hit) rv (hk v _ W1 rv (I.sameBut (t := s.toks) hs hf' hw') (.sameBut hs (.head _) hi) hit hw (fun x hx => by simp at hx; subst hx; exact hi))
  fin := fun A W1 σ s i Q E hh I hle st hp hf hw hk => by
    have : vs.toArray[i]? = none := by
      have h1 := List.getElem?_eq_none_iff.mp hp
      simp [rl.length, h1]
    refine wpAny_pyNext_tuple_end hh st (I.isTup (hle _ _ w)) this fun h' hx => hk h' fun b o hb e => hx b o (by simpa using hb) e
  iter := fun A s i Q E st h => wpAny_pyIter_tupleiter st h
  keep := fun i h h' ⟨o, e, r⟩ hk => ⟨o, hk it (.head _) o e, r⟩

theorem ie_list {tgt iter : Expr} {K : List PV → Sig → Prop} (h : EV C n env ρ σ iter fun p σ1 => ∃ ps, p = .list ps ∧ K ps σ1) (ht : Plainly C tgt) : IE C n env ρ σ tgt iter K :=
  fun A W s Q E r I l hk => h A W s _ E r I l fun v s1 p σ1 W1 h1 I1 st1 r1 => by
    obtain ⟨ps, rfl, hK⟩ := h1
    obtain ⟨a, vs, k, rfl, w, rl⟩ := r1
    refine wpAny_pyIter_list (I1.isList w) ?_
    have hlt := I1.iceLt _ _ w
    have hnone : s.heap.get? s1.heap.objs.size = none := st1.there _ (get_size_none _)
    exact hk _ _ ps σ1 W1 [s1.heap.objs.size] _ hK (I1.push _ s1.toks) (st1.trans (.push _ s1.toks)) (fun x hx => by simp at hx; subst hx; exact hnone)
      (fun x hx h => by simp at hx; subst hx; exact absurd (I1.footLt _ h) (Nat.lt_irrefl _)) (fun x hx o h => by simp at hx; subst hx; exact absurd (I1.iceLt _ _ h) (Nat.lt_irrefl _))
      (fun x hx => by simp at hx; subst hx; rw [Heap.get?_push_size _ rfl]; rfl) (iter_list w rl (Nat.ne_of_lt hlt) ht) ⟨_, Heap.get?_push_size _ rfl, rfl, rfl⟩
theorem ie_tup {tgt iter : Expr} {K : List PV → Sig → Prop} (h : EV C n env ρ σ iter fun p σ1 => ∃ ps, p = .tup ps ∧ K ps σ1) (ht : Plainly C tgt) : IE C n env ρ σ tgt iter K :=
  fun A W s Q E r I l hk => h A W s _ E r I l fun v s1 p σ1 W1 h1 I1 st1 r1 => by
    obtain ⟨ps, rfl, hK⟩ := h1
    obtain ⟨a, vs, k, rfl, w, rl⟩ := r1
    refine wpAny_pyIter_tuple (I1.isTup w) ?_
    have hlt := I1.iceLt _ _ w
    have hnone : s.heap.get? s1.heap.objs.size = none := st1.there _ (get_size_none _)
    exact hk _ _ ps σ1 W1 [s1.heap.objs.size] _ hK (I1.push _ s1.toks) (st1.trans (.push _ s1.toks)) (fun x hx => by simp at hx; subst hx; exact hnone)
      (fun x hx h => by simp at hx; subst hx; exact absurd (I1.footLt _ h) (Nat.lt_irrefl _)) (fun x hx o h => by simp at hx; subst hx; exact absurd (I1.iceLt _ _ h) (Nat.lt_irrefl _))
      (fun x hx => by simp at hx; subst hx; rw [Heap.get?_push_size _ rfl]; rfl) (iter_tup w rl (Nat.ne_of_lt hlt) ht) ⟨_, Heap.get?_push_size _ rfl, rfl, rfl⟩

theorem plainly_name {x : Str} {xp : Pos} : Plainly C (.Name x xp) := fun A it l i v s W p Q E hi r h => wpAny_of_eq (by rfl) h

/-- a range of n turns -/
theorem iter_range {x : Str} {xp : Pos} {W : Ice} {it : Addr} {m : Nat} :
    Iter C (.Name x xp) (.ref it) ((List.range m).map fun (i : Nat) => PV.int (i : Int)) [it] (fun i h => i ≤ m ∧ IsRangeIter h it (i : Int) ((m : Int) - i) 1) W where
  item := fun A W1 σ s i p Q E hh I hle st hp hf hw hk => by
    have hlt : i < m := by
      have := (List.getElem?_eq_some_iff.mp hp).1
      simpa using this
    have hpv : p = .int i := by
      rw [List.getElem?_map, List.getElem?_range hlt] at hp
      cases hp; rfl
    subst hpv
    refine wpAny_pyNext_range_item st.2 (by omega) fun h' hit hs => ⟨_, rfl, wpAny_of_eq (by rfl) ?_⟩
    have hf' := hf it (.head _)
    have hw' := hw it (.head _)
    have hi : (h'.get? it).isSome = true := by rw [hit]; rfl
    refine hk _ _ W1 ⟨_, rfl⟩ (I.sameBut hs hf' hw') (.sameBut hs (.head _) hi) ⟨hlt, ?_⟩ hw (fun x hx => by simp at hx; subst hx; exact hi)
    have e1 : ((i + 1 : Nat) : Int) = (i : Int) + 1 := by omega
    have e2 : (m : Int) - ((i + 1 : Nat) : Int) = (m : Int) - i - 1 := by omega
    rw [e1, show (m : Int) - ((i : Int) + 1) = (m : Int) - i - 1 by omega]
    exact hit
  fin := fun A W1 σ s i Q E hh I hle st hp hf hw hk => by
    have h1 := List.getElem?_eq_none_iff.mp hp
    simp at h1
    refine wpAny_pyNext_range_end hh st.2 (by omega) fun h' hx => hk h' fun b o hb e => hx b o (by simpa using hb) e
  iter := fun A s i Q E st h => wpAny_pyIter_rangeiter st.2 h
  keep := fun i h h' st hk => ⟨st.1, hk it (.head _) _ st.2⟩
theorem ie_range {x y : Str} {xp yp pos : Pos} {e : Expr} {K : List PV → Sig → Prop} (h : EV C n env ρ σ e fun p σ1 => ∃ m : Nat, p = .int m ∧ m < 1000000 ∧ K ((List.range m).map fun (i : Nat) => PV.int (i : Int)) σ1)
    (hg : C.mg "range" = none) (hf : env.scope.kind = .function) (hl : env.kindOf "range" = some .globalImplicit) (he : env.globals = mainGlobals) (hbu : env.builtins = builtinsNs)
    (hs : starEach [e] env = [(false, PySem.eval e env)]) : IE C n env ρ σ (.Name x xp) (.Call (.Name "range" yp) [e] [] pos) K :=
  fun A W s Q E r I l hk => by
    have hboot : bootBuiltins (Str.ofString "range") = some (.type "range") := by boot_fast
    refine Call_ (Name_function_global hf hl (loadGlobal_builtin (mg := C.mg) (mb := C.mb) (by rw [he]; exact I.g) hg (by rw [hbu]; exact I.b) ((I.ok.builtins (Str.ofString "range") (by decide)).trans hboot) ?_) (by decide)) (by with_unfolding_all rfl)
    refine callWith_type1 (e := e) (rest := []) ?_ hs rfl
    refine args_cons (h A W s _ E r I l fun v s1 p σ1 W1 h1 I1 st1 r1 => args_nil ?_) hs
    obtain ⟨m, rfl, hm, hK⟩ := h1
    obtain ⟨t, rfl⟩ := r1
    refine call_range_1 ?_
    refine wpAny_pyIter_range (a := 0) (b := m) (c := 1) (t := s1.toks) (u := t) (v := s1.toks + 1) (Heap.get?_push_size _ rfl) (small_one (by omega) (by omega) (by omega) (by omega)) ?_
    have I2 := (I1.push { cls := .type "range", data := .fields #[.int 0 s1.toks, .int m t, .int 1 (s1.toks + 1)] } (s1.toks + 1 + 1))
    have hnone : s.heap.get? (s1.heap.push { cls := .type "range", data := .fields #[.int 0 s1.toks, .int m t, .int 1 (s1.toks + 1)] }).objs.size = none := by
      refine st1.there _ ?_
      rw [Heap.size_push]; exact get_succ_none _
    exact hk _ _ _ σ1 W1 [_] _ hK (I2.push _ (s1.toks + 1 + 1)) ((st1.trans (.push _ _)).trans (.push _ _)) (fun x hx => by simp at hx; subst hx; simpa using hnone)
      (fun x hx h => by simp only [List.mem_singleton] at hx; subst hx; exact absurd (I2.footLt _ h) (Nat.lt_irrefl _)) (fun x hx o h => by simp only [List.mem_singleton] at hx; subst hx; exact absurd (I2.iceLt _ _ h) (Nat.lt_irrefl _))
      (fun x hx => by simp only [List.mem_singleton] at hx; subst hx; rw [Heap.get?_push_size _ rfl]; rfl) iter_range ⟨Nat.zero_le _, by
        have e0 : Builtin.Range.rangeSize 0 (m : Int) 1 = (m : Int) - ((0 : Nat) : Int) := by rw [rangeSize_one]; split <;> omega
        have := Heap.get?_push_size (s1.heap.push { cls := .type "range", data := .fields #[.int 0 s1.toks, .int m t, .int 1 (s1.toks + 1)] }) (o := { cls := .type "range_iterator", data := .fields #[rawInt 0, rawInt (Builtin.Range.rangeSize 0 m 1), rawInt 1] }) rfl
        rw [e0] at this
        rw [← e0]
        rw [e0]
        exact this⟩

/-- fewer names -/
noncomputable def Sub (ρ ρ' : List (Str × PV)) : Prop := ∀ x p, ρ.lookup x = some p → ρ'.lookup x = some p
theorem Sub.nil {ρ : List (Str × PV)} : Sub [] ρ := fun _ _ h => by cases h
theorem Sub.cons {x : Str} {p : PV} {ρ ρ' : List (Str × PV)} (h : ρ'.lookup x = some p) (h' : Sub ρ ρ') : Sub ((x, p) :: ρ) ρ' := fun y q e => by
  rw [List.lookup_cons] at e
  split at e
  · rename_i hb; cases e; rw [beq_iff_eq.mp hb]; exact h
  · exact h' y q e
theorem Sub.refl {ρ : List (Str × PV)} : Sub ρ ρ := fun _ _ h => h
theorem Loc.sub {ρ' W s} (l : Loc env ρ W σ s) (h : Sub ρ' ρ) : Loc env ρ' W σ s := ⟨let ⟨m, a, b⟩ := l.ns; ⟨m, a, fun x p e => b x p (h x p e)⟩, l.off, l.ice⟩
theorem Step.dropAll {Y : List Addr} {W W' : Ice} {σ σ' : Sig} {s s' : Shared} : ∀ {X : List Addr}, Step (X ++ Y) W W' σ σ' s s' → (∀ x ∈ X, s.heap.get? x = none) → Step Y W W' σ σ' s s'
  | [], a, _ => a
  | x :: X, a, h => Step.dropAll (X := X) (Step.drop (x := x) a (h x (.head _))) (fun y hy => h y (.tail _ hy))

variable {KS : PF → List (Str × PV) → Sig → Prop}
/-- what a loop's body hands on -/
noncomputable def BodyK (C : Cx) (n : Nat) (env : Env) (rest : List Stmt) (J : List (Str × PV) → Sig → Prop) (KS : PF → List (Str × PV) → Sig → Prop) : PF → List (Str × PV) → Sig → Prop
  | .next, ρ, σ => ∃ ρ', Sub ρ' ρ ∧ J ρ' σ
  | .cont, ρ, σ => ∃ ρ', Sub ρ' ρ ∧ J ρ' σ
  | .brk, ρ, σ => XS C n env ρ σ rest KS
  | .ret p, ρ, σ => KS (.ret p) ρ σ

theorem x_for {t iter : Expr} {body rest : List Stmt} {pos : Pos} (J : Nat → List (Str × PV) → Sig → Prop)
    (h : IE C n env ρ σ t iter fun ps σ1 => (∃ ρ', Sub ρ' ρ ∧ J 0 ρ' σ1) ∧
      (∀ i p ρ1 σ2, ps[i]? = some p → J i ρ1 σ2 → ∃ ρ2, AS C n env ρ1 σ2 t p ρ2 ∧ XS C n env ρ2 σ2 body (BodyK C n env rest (J (i + 1)) KS)) ∧ (∀ ρ1 σ2, J ps.length ρ1 σ2 → XS C n env ρ1 σ2 rest KS))
    (hs : ∀ x, foldedSetIterable iter env x = pure x) : XS C n env ρ σ (.For t iter body [] pos :: rest) KS :=
  fun A W s Q E r I l hk => by
    refine wpAny_execs_cons (wpAny_For (h A W s _ E r I l fun it s1 ps σ1 W1 X St hK I1 st1 hXn hXf hXw hXs IT hSt => ?_) hs)
    obtain ⟨⟨ρ0, hsub0, hJ0⟩, hstep, hend⟩ := hK
    have hLX : env.locals ∉ X := fun hm => l.some (hXn _ hm)
    refine codeAny_forLoop_any (fun k s' => ∃ i W' σ' ρ', k = ps.length + 1 - i ∧ i ≤ ps.length ∧ J i ρ' σ' ∧ Inv C W' σ' s' ∧ Loc env ρ' W' σ' s' ∧ St i s'.heap ∧ Step (X ++ [env.locals]) W1 W' σ1 σ' s1 s' ∧
        (∀ x ∈ X, ∀ o, ¬ W' x o) ∧ (∀ x ∈ X, (s'.heap.get? x).isSome = true)) ?_ (ps.length + 1)
      ⟨0, W1, σ1, ρ0, rfl, Nat.zero_le _, hJ0, I1, (l.step0 st1).sub hsub0, hSt, .refl, hXw, hXs⟩
    rintro k s2 ⟨i, W2, σ2, ρ2, rfl, hi, hJ, I2, l2, hSt2, st2, hXw2, hXs2⟩
    have hXf2 : ∀ x ∈ X, x ∉ foots σ2 := fun x hx hm => (st2.own x hm).elim (hXf x hx) (fun e => by have := hXs x hx; rw [e] at this; cases this)
    cases hp : ps[i]? with
    | none =>
      have hil : i = ps.length := by have := List.getElem?_eq_none_iff.mp hp; omega
      subst hil
      refine IT.fin A W2 σ2 s2 _ _ _ r.handled I2 st2.le hSt2 hp hXf2 hXw2 fun h' hx => ?_
      have I3 : Inv C W2 σ2 { s2 with heap := h' } := I2.keeps (fun b o e => hx _ _ (fun hm => hXw2 b hm o e) (I2.ice _ _ e)) (fun b hb o e => hx _ _ (fun hm => hXf2 b hm hb) e) rfl rfl
      have l3 : Loc env ρ2 W2 σ2 { s2 with heap := h' } := by
        obtain ⟨m, ⟨o, es, ep, ho, r⟩, hr⟩ := l2.ns
        exact ⟨⟨m, ⟨o, es, ep, hx _ _ hLX ho, r⟩, hr⟩, l2.off, l2.ice⟩
      have st3 : Step [env.locals] W W2 σ σ2 s { s2 with heap := h' } := by
        have st12 : Step (X ++ [env.locals]) W W2 σ σ2 s s2 := st1.ofNil.trans st2
        have st13 : Step (X ++ [env.locals]) W W2 σ σ2 s { s2 with heap := h' } :=
          ⟨st12.le, st12.new, fun b o e hX hF => hx b o (fun hm => hX (List.mem_append_left _ hm)) (st12.kept b o e hX hF), fun b e => by
            by_cases hb : b ∈ X
            · exact hXn b hb
            · refine st12.there b ?_
              cases e2 : s2.heap.get? b with
              | none => rfl
              | some o => (have := hx b o hb e2; change h'.get? b = none at e; rw [this] at e; cases e), st12.own⟩
        exact st13.dropAll hXn
      refine wpAny_execs_nil ?_
      exact hend ρ2 σ2 hJ A W2 _ Q E r I3 l3 fun f s' pf ρ' σ' W' hK' I' st' l' rf => hk f s' pf ρ' σ' W' hK' I' (st3.trans st') l' rf
    | some p =>
      have hlt : i < ps.length := (List.getElem?_eq_some_iff.mp hp).1
      obtain ⟨ρ3, hA, hB⟩ := hstep i p ρ2 σ2 hp hJ
      refine wpAny_mono (IT.item A W2 σ2 s2 i p (fun v s' => wpAny (model C.prog C.w) A (assign t env v) (fun _ s₂ => wpAny (model C.prog C.w) A (execs body env) (fun f s₃ => match f with
            | .next | .cont => ∃ m, m < ps.length + 1 - i ∧ ∃ i W' σ' ρ', m = ps.length + 1 - i ∧ i ≤ ps.length ∧ J i ρ' σ' ∧ Inv C W' σ' s₃ ∧ Loc env ρ' W' σ' s₃ ∧ St i s₃.heap ∧ Step (X ++ [env.locals]) W1 W' σ1 σ' s1 s₃ ∧
                (∀ x ∈ X, ∀ o, ¬ W' x o) ∧ (∀ x ∈ X, (s₃.heap.get? x).isSome = true)
            | .brk => (match Flow.next with | .next => wpAny (model C.prog C.w) A (execs rest env) Q E s₃ | f => Q f s₃)
            | .ret v => Q (.ret v) s₃) (notedBy (model C.prog C.w) A env fun e s' => cameBackBy (model C.prog C.w) A env E e s') s₂) (notedBy (model C.prog C.w) A env fun e s' => cameBackBy (model C.prog C.w) A env E e s') s')
          (notedBy (model C.prog C.w) A env fun e s' => cameBackBy (model C.prog C.w) A env E e s') r.handled I2 st2.le hSt2 hp hXf2 hXw2 fun v s3 W3 rv I3 st3 hSt3 hXw3 hXs3 => ?_) (fun rr s3 hh => ?_) (fun _ _ h => h)
      · have l3 : Loc env ρ2 W3 σ2 s3 := l2.step st3 hLX
        refine hA A W3 s3 _ _ v r I3 l3 rv fun s4 I4 st4 l4 => ?_
        have base : Step (X ++ [env.locals]) W1 W3 σ1 σ2 s1 s4 := (st2.trans (st3.weaken (fun x hx => List.mem_append_left _ hx))).trans (st4.weaken (fun x hx => List.mem_append_right _ hx))
        have hXk : ∀ x ∈ X, ∀ o, s3.heap.get? x = some o → s4.heap.get? x = some o := fun x hx o e => st4.kept x o e (by simpa using fun e' : x = env.locals => hLX (e' ▸ hx)) (hXf2 x hx)
        refine hB A W3 s4 _ _ r I4 l4 fun f s5 pf ρ5 σ5 W5 hK5 I5 st5 l5 rf => ?_
        have hXk5 : ∀ x ∈ X, ∀ o, s4.heap.get? x = some o → s5.heap.get? x = some o := fun x hx o e => st5.kept x o e (by simpa using fun e' : x = env.locals => hLX (e' ▸ hx)) (hXf2 x hx)
        have hSt5 : St (i + 1) s5.heap := IT.keep _ _ _ (IT.keep _ _ _ hSt3 hXk) hXk5
        have st15 : Step (X ++ [env.locals]) W1 W5 σ1 σ5 s1 s5 := base.trans (st5.weaken (fun x hx => List.mem_append_right _ hx))
        have hXs4 : ∀ x ∈ X, ∃ o, s4.heap.get? x = some o := fun x hx => by
          obtain ⟨o, e⟩ := Option.isSome_iff_exists.mp (hXs3 x hx)
          exact ⟨o, hXk x hx o e⟩
        have hXs5 : ∀ x ∈ X, (s5.heap.get? x).isSome = true := fun x hx => by
          obtain ⟨o, e⟩ := hXs4 x hx
          rw [hXk5 x hx o e]; rfl
        have hXw5 : ∀ x ∈ X, ∀ o, ¬ W5 x o := fun x hx o w5 => (st5.new x o w5).elim (hXw3 x hx o) (fun h => h.elim (hXf2 x hx) (fun e => by obtain ⟨o', e'⟩ := hXs4 x hx; rw [e] at e'; cases e'))
        have again : (∃ ρ', Sub ρ' ρ5 ∧ J (i + 1) ρ' σ5) → ∃ m, m < ps.length + 1 - i ∧ ∃ i W' σ' ρ', m = ps.length + 1 - i ∧ i ≤ ps.length ∧ J i ρ' σ' ∧ Inv C W' σ' s5 ∧ Loc env ρ' W' σ' s5 ∧ St i s5.heap ∧ Step (X ++ [env.locals]) W1 W' σ1 σ' s1 s5 ∧
                (∀ x ∈ X, ∀ o, ¬ W' x o) ∧ (∀ x ∈ X, (s5.heap.get? x).isSome = true) := fun ⟨ρ', hs', hJ'⟩ =>
          ⟨ps.length + 1 - (i + 1), by omega, i + 1, W5, σ5, ρ', rfl, hlt, hJ', I5, l5.sub hs', hSt5, st15, hXw5, hXs5⟩
        have out : Step [env.locals] W W5 σ σ5 s s5 := (st1.ofNil.trans st15).dropAll hXn
        cases pf with
        | next => have rf' : f = .next := rf; subst rf'; exact again hK5
        | cont => have rf' : f = .cont := rf; subst rf'; exact again hK5
        | brk =>
          have rf' : f = .brk := rf
          subst rf'
          exact hK5 A W5 s5 Q E r I5 l5 fun f s' pf ρ' σ' W' hK' I' st' l' rf => hk f s' pf ρ' σ' W' hK' I' (out.trans st') l' rf
        | ret p => obtain ⟨v', rfl, rv'⟩ := rf; exact hk _ _ (.ret p) _ _ _ hK5 I5 out l5 ⟨v', rfl, rv'⟩
      · obtain ⟨v, rfl, hh⟩ := hh
        exact hh

end Sol
end

section
open PySem PySem.W PySem.Calls PyProof.Rows PySem.SeqAt PySem.SeqRoads2 PySem.MeetsSeq3 PySem.P
namespace Sol
variable {C : Cx} {n : Nat} {env : Env} {ρ : List (Str × PV)} {σ : Sig} {K : PV → Sig → Prop}
variable {KS : PF → List (Str × PV) → Sig → Prop}

theorem x_while {t : Expr} {body rest : List Stmt} {pos : Pos} (J : Nat → List (Str × PV) → Sig → Prop)
    (h0 : ∃ m ρ0, Sub ρ0 ρ ∧ J m ρ0 σ)
    (step : ∀ m ρ1 σ1, J m ρ1 σ1 → TB C n env ρ1 σ1 t fun c σ2 => (c = false → XS C n env ρ1 σ2 rest KS) ∧ (c = true → XS C n env ρ1 σ2 body (BodyK C n env rest (fun ρ3 σ3 => ∃ m', m' < m ∧ J m' ρ3 σ3) KS))) :
    XS C n env ρ σ (.While t body [] pos :: rest) KS :=
  fun A W s Q E r I l hk => by
    obtain ⟨m0, ρ0, hs0, hJ0⟩ := h0
    refine wpAny_execs_cons (wpAny_While ?_)
    refine codeAny_whileLoop (fun k s' => ∃ W' σ' ρ', J k ρ' σ' ∧ Inv C W' σ' s' ∧ Loc env ρ' W' σ' s' ∧ Step [env.locals] W W' σ σ' s s') ?_ m0 ⟨W, σ, ρ0, hJ0, I, l.sub hs0, .refl⟩
    rintro k s1 ⟨W1, σ1, ρ1, hJ, I1, l1, st1⟩
    refine step k ρ1 σ1 hJ A W1 s1 _ _ r I1 l1 fun c s2 σ2 W2 h2 I2 st2 => ?_
    have l2 := l1.step0 st2
    cases c with
    | false =>
      rw [if_neg (by decide)]
      refine wpAny_execs_nil ?_
      exact h2.1 rfl A W2 s2 Q E r I2 l2 fun f s' pf ρ' σ' W' hK' I' st' l' rf => hk f s' pf ρ' σ' W' hK' I' ((st1.trans st2.ofNil).trans st') l' rf
    | true =>
      rw [if_pos rfl]
      refine h2.2 rfl A W2 s2 _ _ r I2 l2 fun f s3 pf ρ3 σ3 W3 h3 I3 st3 l3 rf => ?_
      have out := (st1.trans st2.ofNil).trans st3
      cases pf with
      | next => have rf' : f = .next := rf; subst rf'; obtain ⟨ρ4, hs4, m', hm', hJ'⟩ := h3; exact ⟨m', hm', W3, σ3, ρ4, hJ', I3, l3.sub hs4, out⟩
      | cont => have rf' : f = .cont := rf; subst rf'; obtain ⟨ρ4, hs4, m', hm', hJ'⟩ := h3; exact ⟨m', hm', W3, σ3, ρ4, hJ', I3, l3.sub hs4, out⟩
      | brk =>
        have rf' : f = .brk := rf
        subst rf'
        exact h3 A W3 s3 Q E r I3 l3 fun f s' pf ρ' σ' W' hK' I' st' l' rf => hk f s' pf ρ' σ' W' hK' I' (out.trans st') l' rf
      | ret p => obtain ⟨v', rfl, rv'⟩ := rf; exact hk _ _ (.ret p) _ _ _ h3 I3 out l3 ⟨v', rfl, rv'⟩

/-- the signs of a text -/
theorem iter_str {x : Str} {xp : Pos} {W : Ice} {it : Addr} {y : Str} {t : Tok} (ha : y.cps.all (· < 128) = true) :
    Iter C (.Name x xp) (.ref it) (y.cps.toList.map fun c => PV.str ⟨#[c]⟩) [it] (fun i h => h.IsStrIter it "str_ascii_iterator" y t i) W where
  item := fun A W1 σ s i p Q E hh I hle st hp hf hw hk => by
    rw [List.getElem?_map] at hp
    obtain ⟨c, hc, rfl⟩ := Option.map_eq_some_iff.mp hp
    refine wpAny_pyNext_ascii_item st (c := c) (by simpa using hc) fun h' hit hs => ⟨_, rfl, wpAny_of_eq (by rfl) ?_⟩
    have hf' := hf it (.head _)
    have hw' := hw it (.head _)
    have hi : (h'.get? it).isSome = true := by obtain ⟨o, e, _⟩ := hit; rw [e]; rfl
    exact hk _ _ W1 ⟨_, rfl⟩ (I.sameBut hs hf' hw') (.sameBut hs (.head _) hi) hit hw (fun x hx => by simp at hx; subst hx; exact hi)
  fin := fun A W1 σ s i Q E hh I hle st hp hf hw hk => by
    have h1 := List.getElem?_eq_none_iff.mp hp
    refine wpAny_pyNext_ascii_end hh st (by simpa using h1) fun h' hx => hk h' fun b o hb e => hx b o (by simpa using hb) e
  iter := fun A s i Q E st h => wpAny_pyIter_striter_ascii st h
  keep := fun i h h' ⟨o, e, r⟩ hk => ⟨o, hk it (.head _) o e, r⟩
theorem ie_str {x : Str} {xp : Pos} {iter : Expr} {K : List PV → Sig → Prop} (h : EV C n env ρ σ iter fun p σ1 => ∃ y : Str, p = .str y ∧ y.cps.all (· < 128) = true ∧ K (y.cps.toList.map fun c => PV.str ⟨#[c]⟩) σ1) : IE C n env ρ σ (.Name x xp) iter K :=
  fun A W s Q E r I l hk => h A W s _ E r I l fun v s1 p σ1 W1 h1 I1 st1 r1 => by
    obtain ⟨y, rfl, ha, hK⟩ := h1
    obtain ⟨t, rfl⟩ := r1
    refine wpAny_pyIter_ascii ha ?_
    have hnone : s.heap.get? s1.heap.objs.size = none := st1.there _ (get_size_none _)
    exact hk _ _ _ σ1 W1 [s1.heap.objs.size] _ hK (I1.push _ s1.toks) (st1.trans (.push _ s1.toks)) (fun x hx => by simp at hx; subst hx; exact hnone)
      (fun x hx h => by simp at hx; subst hx; exact absurd (I1.footLt _ h) (Nat.lt_irrefl _)) (fun x hx o h => by simp at hx; subst hx; exact absurd (I1.iceLt _ _ h) (Nat.lt_irrefl _))
      (fun x hx => by simp at hx; subst hx; rw [Heap.get?_push_size _ rfl]; rfl) (iter_str ha) ⟨_, Heap.get?_push_size _ rfl, rfl, rfl⟩

/-- comprehensions -/
theorem Inv.newLst {W s} (I : Inv C W σ s) (t : Nat) : Inv C W ((s.heap.objs.size, .lst []) :: σ) { s with heap := s.heap.push (lsO [] 0), toks := t } ∧ s.heap.objs.size ∉ foots σ ∧
    ∀ X, Step X W W σ ((s.heap.objs.size, .lst []) :: σ) s { s with heap := s.heap.push (lsO [] 0), toks := t } := by
  have hn : s.heap.objs.size ∉ foots σ := fun h => absurd (I.footLt _ h) (Nat.lt_irrefl _)
  have I1 := I.push (lsO [] 0) t
  refine ⟨⟨I1.ok, I1.ice, I1.h0, fun p hp => ?_, ?_, fun a o w hf => ?_, I1.gens, I1.os⟩, hn, fun X => ⟨.refl, fun _ _ h => .inl h, fun _ _ e _ _ => Heap.get?_push_of_some _ e, there_of_keep fun _ _ e => Heap.get?_push_of_some _ e, fun a h => ?_⟩⟩
  · rcases List.mem_cons.mp hp with rfl | hp
    · exact ⟨[], 0, Heap.get?_push_size _ rfl, rfl⟩
    · exact I1.cells p hp
  · show (s.heap.objs.size :: foots σ).Nodup
    exact List.nodup_cons.mpr ⟨hn, I.nodup⟩
  · change a ∈ s.heap.objs.size :: foots σ at hf
    rcases List.mem_cons.mp hf with rfl | hf
    · exact absurd (I.iceLt _ _ w) (Nat.lt_irrefl _)
    · exact I.apart _ _ w hf
  · change a ∈ s.heap.objs.size :: foots σ at h
    rcases List.mem_cons.mp h with rfl | h
    · exact .inr (get_size_none _)
    · exact .inl h
theorem Inv.freezeL {W s} {a : Addr} {xs : List PV} (I : Inv C W ((a, .lst xs) :: σ) s) : ∃ W', Inv C W' σ s ∧ W.le W' ∧ (∀ b o, W' b o → W b o ∨ b = a) ∧ Rep W' (.list xs) (.ref a) := by
  obtain ⟨vs, k, e1, rl⟩ := I.cells _ (.head _)
  have hn : (a :: foots σ).Nodup := I.nodup
  have ha : a ∉ foots σ := (List.nodup_cons.mp hn).1
  have I0 : Inv C W σ s := ⟨I.ok, I.ice, I.h0, fun p hp => I.cells p (.tail _ hp), (List.nodup_cons.mp hn).2, fun b o w h => I.apart b o w (List.mem_cons_of_mem a h), I.gens, I.os⟩
  exact ⟨W.add a (lsO vs k), I0.ice1 e1 ha, Ice.le_add, fun b o h => h.elim .inl (fun h => .inr h.1), a, vs, k, rfl, Ice.add_self, rl.mono Ice.le_add⟩
theorem Step.freezeL {X W W' W'' s s'} {σ'' : Sig} {a : Addr} {xs : List PV} (st : Step X W W' σ ((a, .lst xs) :: σ'') s s') (hn1 : s.heap.get? a = none) (hle : W'.le W'') (hnew : ∀ b o, W'' b o → W' b o ∨ b = a) : Step X W W'' σ σ'' s s' :=
  ⟨st.le.trans hle, fun b o h => (hnew b o h).elim (st.new b o) (fun h => .inr (.inr (h ▸ hn1))), st.kept, st.there, fun b h => st.own b (List.mem_cons_of_mem a h)⟩
theorem upd_head {a : Addr} {c c' : Cell} (h : a ∉ foots σ) : upd ((a, c) :: σ) a c' = (a, c') :: σ := by
  unfold upd
  rw [List.map_cons, if_pos rfl]
  congr 1
  conv => rhs; rw [← List.map_id σ]
  refine List.map_congr_left fun q hq => ?_
  have : q.1 ≠ a := fun e => h (List.mem_flatMap.mpr ⟨q, hq, by obtain ⟨b, d⟩ := q; subst e; cases d <;> simp [foot]⟩)
  simp [this]

theorem compLoop_own {prog w} {A : Around} {R : Result → Shared → Prop} {s : Shared} {elt target iter : Expr} {ifs : List Expr} {scope : Scope} {pos : Pos} {it acc : Value} {env : Env} (I : Nat → Shared → Prop)
    (turn : ∀ n s, I n s → wpAny (model prog w) A (pyNext it) (fun r s₁ => match r with
      | none => R (.ok .next) s₁
      | some v => wpAny (model prog w) A (letOwnedTupleGo target it v) (fun _ s₁' => wpAny (model prog w) A (assign target env v) (fun _ s₂ =>
          wpAny (model prog w) A (forIn ifs true fun c r => if r = true then do let ok ← isTrue c env (PySem.eval c env); pure (ForInStep.yield ok) else pure (ForInStep.yield r)) (fun ok s₃ =>
            if ok = true then wpAny (model prog w) A (PySem.eval elt env) (fun x s₄ =>
              wpAny (model prog w) A (call (.builtin "list.append") [acc, x]) (fun _ s₅ => ∃ m, m < n ∧ I m s₅) (notedBy (model prog w) A env fun e s' => R (.error e) s') s₄) (notedBy (model prog w) A env fun e s' => R (.error e) s') s₃
            else ∃ m, m < n ∧ I m s₃) (notedBy (model prog w) A env fun e s' => R (.error e) s') s₂) (notedBy (model prog w) A env fun e s' => R (.error e) s') s₁') (notedBy (model prog w) A env fun e s' => R (.error e) s') s₁) (notedBy (model prog w) A env fun e s' => R (.error e) s') s)
    (n : Nat) (h : I n s) : codeAny (model prog w) A (.compLoop (.ListComp elt [⟨target, iter, ifs, 0⟩] scope pos) 0 it acc env) R s := by
  refine codeAny_loop rfl I (fun n s hI => ?_) n h
  show wpAny _ A ((compTurn (.ListComp elt [⟨target, iter, ifs, 0⟩] scope pos) 0 it acc env).onRaise (fun x => do noteFrame x env; theTreesLotGoes x)) _ _ s
  refine wpAny_noted ?_
  rw [compTurn_list]
  refine wpAny_bind (wpAny_standAt (wpAny_bind (wpAny_mono (turn n s hI) (fun r s₁ h₁ => ?_) fun _ _ h' => h')))
  cases r with
  | none => exact wpAny_pure h₁
  | some v =>
    refine wpAny_bind (wpAny_mono h₁ (fun _ s₁' h₁' => ?_) fun _ _ h' => h')
    refine wpAny_bind (wpAny_mono h₁' (fun _ s₂ h₂ => wpAny_bind (wpAny_mono h₂ (fun ok s₃ h₃ => ?_) fun _ _ h' => h')) fun _ _ h' => h')
    cases ok with
    | false => exact wpAny_pure ⟨rfl, h₃⟩
    | true =>
      exact wpAny_bind (wpAny_bind (wpAny_mono h₃ (fun x s₄ h₄ => wpAny_bind (wpAny_mono h₄ (fun _ s₅ h₅ => wpAny_pure (wpAny_pure ⟨rfl, h₅⟩)) fun _ _ h' => h')) fun _ _ h' => h'))

/-- the tests of a comprehension: none, or one -/
noncomputable def TL (C : Cx) (n : Nat) (env : Env) (ρ : List (Str × PV)) (σ : Sig) (ifs : List Expr) (b : Bool) : Prop := match ifs with
  | [] => b = true
  | [c] => TB C n env ρ σ c fun b' σ' => b' = b ∧ σ' = σ
  | _ => False
theorem tl_run {ifs : List Expr} {b : Bool} (h : TL C n env ρ σ ifs b) {A : Around} {W : Ice} {s : Shared} {Q : Bool → Shared → Prop} {E : Value → Shared → Prop} (r : Room A n) (I : Inv C W σ s) (l : Loc env ρ W σ s)
    (hk : ∀ s' W', Inv C W' σ s' → Step [] W W' σ σ s s' → Q b s') :
    wpAny (model C.prog C.w) A (forIn ifs true fun c r => if r = true then do let ok ← isTrue c env (PySem.eval c env); pure (ForInStep.yield ok) else pure (ForInStep.yield r)) Q E s := by
  match ifs, h with
  | [], h =>
    have h' : b = true := h
    subst h'
    exact wpAny_tests_nil (hk s W I .refl)
  | [c], h =>
    refine wpAny_tests_one (h A W s Q E r I l fun b' s' σ' W' hb I' st' => ?_)
    obtain ⟨rfl, rfl⟩ := hb
    exact hk s' W' I' st'
  | _ :: _ :: _, h => exact h.elim

/-- what holds between a comprehension's turns -/
noncomputable def CompInv (C : Cx) (cenv : Env) (f : PV → PV) (g : PV → Bool) (ps : List PV) (D : Addr) (σ1 : Sig) (X : List Addr) (St : Nat → Heap → Prop) (W1 : Ice) (s3 : Shared) (k : Nat) (s' : Shared) : Prop :=
  ∃ i W', k = ps.length + 1 - i ∧ i ≤ ps.length ∧ Inv C W' ((D, .lst (((ps.take i).filter g).map f)) :: σ1) s' ∧ Loc cenv [] W' ((D, .lst (((ps.take i).filter g).map f)) :: σ1) s' ∧ St i s'.heap ∧
        Step (X ++ [cenv.locals]) W1 W' ((D, .lst []) :: σ1) ((D, .lst (((ps.take i).filter g).map f)) :: σ1) s3 s' ∧ (∀ x ∈ X, ∀ o, ¬ W' x o) ∧ (∀ x ∈ X, (s'.heap.get? x).isSome = true)
theorem comp_core {elt t iter : Expr} {ifs : List Expr} {scope : Scope} {cl : List (Str × Addr)} {pos : Pos} {use : Option (Value → Sem Unit)} (f : PV → PV) (g : PV → Bool) {KL : List PV → Sig → Prop}
    (h : IE C n env ρ σ t iter fun ps σ1 => ps.length ≤ 100000 ∧ (∀ p ∈ ps, ∀ L D qs, D ∉ foots σ1 → ∃ ρ2, AS C n (compEnvC scope cl L env) [] ((D, .lst qs) :: σ1) t p ρ2 ∧ TL C n (compEnvC scope cl L env) ρ2 ((D, .lst qs) :: σ1) ifs (g p) ∧
        (g p = true → EV C n (compEnvC scope cl L env) ρ2 ((D, .lst qs) :: σ1) elt fun q σ' => q = f p ∧ σ' = (D, .lst qs) :: σ1)) ∧ KL ((ps.filter g).map f) σ1)
    (hs : ∀ x, foldedSetIterable iter env x = pure x) (hcl : closureFor scope env = pure cl) (hk0 : scope.kind = .function) (hnames : ∀ x ∈ scope.names, x.2 = .local → scope.names.lookup x.1 = some .local) (hcell : ∀ x ∈ scope.names, x.2 ≠ .cell)
    {A : Around} {W : Ice} {s : Shared} {Q : Value → Shared → Prop} {E : Value → Shared → Prop} (r : Room A n) (I : Inv C W σ s) (l : Loc env ρ W σ s)
    (hk : ∀ acc Cc s' σ' W' qs, KL qs σ' → Inv C W' σ' s' → Step [] W W' σ σ' s s' → Rep W' (.list qs) acc → s.heap.get? Cc = none → Cc ∉ foots σ' → (∀ o, ¬ W' Cc o) → (∃ m, s'.heap.Ns Cc m) → compPost (model C.prog C.w) A E use Q acc Cc (.ok .next) s') :
    wpAny (model C.prog C.w) A (comprehension (.ListComp elt [⟨t, iter, ifs, 0⟩] scope pos) scope env (firstIterPos [⟨t, iter, ifs, 0⟩] pos) (newList []) false (firstIter [⟨t, iter, ifs, 0⟩] env) use) Q E s := by
  refine wpAny_comprehension_free (g := ⟨t, iter, ifs, 0⟩) (gs := []) rfl hs hcl hk0 hnames ?_
  refine h A W s _ E r I l fun it s1 ps σ1 W1 X St hK I1 st1 hXn hXf hXw hXs IT hSt => ?_
  obtain ⟨hlen, hbody, hKL⟩ := hK
  refine wpAny_newList ?_ (by decide)
  obtain ⟨I2, hD, st2⟩ := I1.newLst s1.toks
  have hXs2 : ∀ x ∈ X, x < s1.heap.objs.size := fun x hx => by
    obtain ⟨o, e⟩ := Option.isSome_iff_exists.mp (hXs x hx)
    exact Heap.lt_size e
  generalize hs2 : ({ s1 with heap := s1.heap.push (lsO [] 0), toks := s1.toks } : Shared) = s2 at I2 st2
  have e2 : s2.heap = s1.heap.push (lsO [] 0) := by rw [← hs2]
  have hz2 : s2.heap.objs.size = s1.heap.objs.size + 1 := by rw [e2, Heap.size_push]
  refine wpAny_newFunctionEnv hcell (fun x hx => (nomatch hx)) (fun h3 hns hsb => ?_) hk0
  -- the comprehension's own frame
  have k3 : ∀ b o, s2.heap.get? b = some o → h3.get? b = some o := fun b o e => (hsb.2 b (Nat.ne_of_lt (Heap.lt_size e))).trans (Heap.get?_push_of_some _ e)
  generalize hs3 : ({ s2 with heap := h3, toks := s2.toks + ([] : List (Str × Value)).length } : Shared) = s3
  have e3 : s3.heap = h3 := by rw [← hs3]
  have I3 : Inv C W1 ((s1.heap.objs.size, .lst []) :: σ1) s3 := by rw [← hs3]; exact I2.keeps (fun a o e => k3 _ _ (I2.ice _ _ e)) (fun a _ o e => k3 _ _ e) rfl rfl
  have st3 : ∀ X, Step X W1 W1 ((s1.heap.objs.size, .lst []) :: σ1) ((s1.heap.objs.size, .lst []) :: σ1) s2 s3 := fun X => by rw [← hs3]; exact .keepAll k3
  have hLn2 : s2.heap.get? s2.heap.objs.size = none := get_size_none _
  have hLn : s.heap.get? s2.heap.objs.size = none := st1.there _ ((st2 []).there _ hLn2)
  have hLoff : s2.heap.objs.size ∉ foots ((s1.heap.objs.size, Cell.lst []) :: σ1) := fun hm => absurd (I2.footLt _ hm) (Nat.lt_irrefl _)
  have hLice : ∀ o, ¬ W1 s2.heap.objs.size o := fun o w => absurd (I2.iceLt _ _ w) (Nat.lt_irrefl _)
  have l3 : Loc (compEnvC scope cl s2.heap.objs.size env) [] W1 ((s1.heap.objs.size, .lst []) :: σ1) s3 := ⟨⟨_, by rw [e3]; exact hns, fun x p e => by cases e⟩, hLoff, hLice⟩
  have hXs3 : ∀ x ∈ X, ∀ o, s1.heap.get? x = some o → s3.heap.get? x = some o := fun x hx o e => by rw [e3]; exact k3 _ _ (by rw [e2]; exact Heap.get?_push_of_some _ e)
  have hSt3 : St 0 s3.heap := IT.keep _ _ _ hSt hXs3
  have hLX : s2.heap.objs.size ∉ X := fun hm => absurd (hXs2 _ hm) (by rw [hz2]; exact Nat.not_lt.mpr (Nat.le_succ _))
  have hDX : s1.heap.objs.size ∉ X := fun hm => absurd (hXs2 _ hm) (Nat.lt_irrefl _)
  have hXsome : ∀ x ∈ X, (s3.heap.get? x).isSome = true := fun x hx => by
    obtain ⟨o, e⟩ := Option.isSome_iff_exists.mp (hXs x hx)
    rw [hXs3 x hx o e]; rfl
  show codeAny _ A (.compStart (.ListComp elt [⟨t, iter, ifs, 0⟩] scope pos) 0 it (.ref s1.heap.objs.size) (compEnvC scope cl s2.heap.objs.size env)) (compPost _ A E use Q (.ref s1.heap.objs.size) s2.heap.objs.size) s3
  have loop : codeAny (model C.prog C.w) A (.compLoop (.ListComp elt [⟨t, iter, ifs, 0⟩] scope pos) 0 it (.ref s1.heap.objs.size) (compEnvC scope cl s2.heap.objs.size env)) (compPost (model C.prog C.w) A E use Q (.ref s1.heap.objs.size) s2.heap.objs.size) s3 := by
    refine compLoop_own (CompInv C (compEnvC scope cl s2.heap.objs.size env) f g ps s1.heap.objs.size σ1 X St W1 s3) ?_ (ps.length + 1)
      ⟨0, W1, rfl, Nat.zero_le _, I3, l3, hSt3, .refl, hXw, hXsome⟩
    rintro k s4 ⟨i, W4, rfl, hi, I4, l4, hSt4, st4, hXw4, hXs4⟩
    have hfo : ∀ qs : List PV, foots ((s1.heap.objs.size, Cell.lst qs) :: σ1) = s1.heap.objs.size :: foots σ1 := fun _ => rfl
    have hXf4 : ∀ qs : List PV, ∀ x ∈ X, x ∉ foots ((s1.heap.objs.size, Cell.lst qs) :: σ1) := fun qs x hx hm => by
      rw [hfo] at hm
      rcases List.mem_cons.mp hm with e | hm
      · exact hDX (e ▸ hx)
      · exact hXf x hx hm
    cases hp : ps[i]? with
    | none =>
      have hil : i = ps.length := by have := List.getElem?_eq_none_iff.mp hp; omega
      subst hil
      rw [List.take_length] at I4 l4 st4
      refine IT.fin A W4 _ s4 _ _ _ r.handled I4 (st4.le) hSt4 hp (hXf4 _) hXw4 fun h5 hx => ?_
      have I5 : Inv C W4 ((s1.heap.objs.size, .lst ((ps.filter g).map f)) :: σ1) { s4 with heap := h5 } := I4.keeps (fun b o e => hx _ _ (fun hm => hXw4 b hm o e) (I4.ice _ _ e)) (fun b hb o e => hx _ _ (fun hm => hXf4 _ b hm hb) e) rfl rfl
      obtain ⟨m5, ⟨oo, es, ep, ho, rr⟩, hr⟩ := l4.ns
      have hNs5 : h5.Ns s2.heap.objs.size m5 := ⟨oo, es, ep, hx _ _ hLX ho, rr⟩
      obtain ⟨W6, I6, hle6, hnew6, r6⟩ := I5.freezeL
      have hXn3 : ∀ x ∈ X ++ [s2.heap.objs.size], s.heap.get? x = none := fun x hx => by
        rcases List.mem_append.mp hx with hx | hx
        · exact hXn x hx
        · simp only [List.mem_singleton] at hx; subst hx; exact hLn
      have st14 : Step (X ++ [s2.heap.objs.size]) W W4 σ ((s1.heap.objs.size, .lst ((ps.filter g).map f)) :: σ1) s s4 := ((st1.ofNil.trans (st2 _)).trans (st3 _)).trans st4
      have st15 : Step (X ++ [s2.heap.objs.size]) W W4 σ ((s1.heap.objs.size, .lst ((ps.filter g).map f)) :: σ1) s { s4 with heap := h5 } :=
        ⟨st14.le, st14.new, fun b o e hX hF => hx b o (fun hm => hX (List.mem_append_left _ hm)) (st14.kept b o e hX hF), fun b e => by
          by_cases hb : b ∈ X
          · exact hXn b hb
          · refine st14.there b ?_
            cases e4 : s4.heap.get? b with
            | none => rfl
            | some o => (have := hx b o hb e4; change h5.get? b = none at e; rw [this] at e; cases e), st14.own⟩
      have st16 : Step [] W W4 σ ((s1.heap.objs.size, .lst ((ps.filter g).map f)) :: σ1) s { s4 with heap := h5 } := by
        have z : Step ((X ++ [s2.heap.objs.size]) ++ []) W W4 σ ((s1.heap.objs.size, .lst ((ps.filter g).map f)) :: σ1) s { s4 with heap := h5 } := by rw [List.append_nil]; exact st15
        exact z.dropAll hXn3
      have hDn : s.heap.get? s1.heap.objs.size = none := st1.there _ (get_size_none _)
      have hLD : s2.heap.objs.size ≠ s1.heap.objs.size := by rw [hz2]; exact Nat.succ_ne_self _
      refine hk _ _ _ σ1 W6 _ hKL I6 (st16.freezeL hDn hle6 hnew6) r6 hLn (fun hm => hLoff (List.mem_cons_of_mem _ hm)) (fun o w6 => ?_) ⟨m5, hNs5⟩
      rcases hnew6 _ _ w6 with w | e
      · exact l4.ice o w
      · exact hLD e
    | some p =>
      have hlt : i < ps.length := (List.getElem?_eq_some_iff.mp hp).1
      have hmem : p ∈ ps := List.mem_of_getElem? hp
      have htake : ps.take (i + 1) = ps.take i ++ [p] := by rw [List.take_add_one, hp]; rfl
      generalize hqs : ((ps.take i).filter g).map f = qs at I4 l4 st4
      obtain ⟨ρ5, hA, hT, hE⟩ := hbody p hmem s2.heap.objs.size s1.heap.objs.size qs hD
      refine wpAny_mono (IT.item A W4 _ s4 i p (fun v s' => wpAny (model C.prog C.w) A (assign t (compEnvC scope cl s2.heap.objs.size env) v) (fun _ s₂ =>
          wpAny (model C.prog C.w) A (forIn ifs true fun c r => if r = true then do let ok ← isTrue c (compEnvC scope cl s2.heap.objs.size env) (PySem.eval c (compEnvC scope cl s2.heap.objs.size env)); pure (ForInStep.yield ok) else pure (ForInStep.yield r)) (fun ok s₃ =>
            if ok = true then wpAny (model C.prog C.w) A (PySem.eval elt (compEnvC scope cl s2.heap.objs.size env)) (fun x s₄ =>
              wpAny (model C.prog C.w) A (call (.builtin "list.append") [.ref s1.heap.objs.size, x]) (fun _ s₅ => ∃ m, m < ps.length + 1 - i ∧ CompInv C (compEnvC scope cl s2.heap.objs.size env) f g ps s1.heap.objs.size σ1 X St W1 s3 m s₅) (notedBy (model C.prog C.w) A (compEnvC scope cl s2.heap.objs.size env) fun e s' => compPost (model C.prog C.w) A E use Q (.ref s1.heap.objs.size) s2.heap.objs.size (.error e) s') s₄) (notedBy (model C.prog C.w) A (compEnvC scope cl s2.heap.objs.size env) fun e s' => compPost (model C.prog C.w) A E use Q (.ref s1.heap.objs.size) s2.heap.objs.size (.error e) s') s₃
            else ∃ m, m < ps.length + 1 - i ∧ CompInv C (compEnvC scope cl s2.heap.objs.size env) f g ps s1.heap.objs.size σ1 X St W1 s3 m s₃) (notedBy (model C.prog C.w) A (compEnvC scope cl s2.heap.objs.size env) fun e s' => compPost (model C.prog C.w) A E use Q (.ref s1.heap.objs.size) s2.heap.objs.size (.error e) s') s₂) (notedBy (model C.prog C.w) A (compEnvC scope cl s2.heap.objs.size env) fun e s' => compPost (model C.prog C.w) A E use Q (.ref s1.heap.objs.size) s2.heap.objs.size (.error e) s') s')
          (notedBy (model C.prog C.w) A (compEnvC scope cl s2.heap.objs.size env) fun e s' => compPost (model C.prog C.w) A E use Q (.ref s1.heap.objs.size) s2.heap.objs.size (.error e) s') r.handled I4 st4.le hSt4 hp (hXf4 _) hXw4 fun v s5 W5 rv I5 st5 hSt5 hXw5 hXs5 => ?_) (fun rr s5 hh => ?_) (fun _ _ h => h)
      rotate_left
      · obtain ⟨v, rfl, hh⟩ := hh
        exact hh
      have l5 := l4.step st5 hLX
      refine hA A W5 s5 _ _ v r I5 l5 rv fun s6 I6 st6 l6 => ?_
      have hXk6 : ∀ x ∈ X, ∀ o, s5.heap.get? x = some o → s6.heap.get? x = some o := fun x hx o e => st6.kept x o e (by
        intro hm
        simp only [List.mem_singleton] at hm
        have hm' : x = s2.heap.objs.size := hm
        exact hLX (hm' ▸ hx)) (hXf4 _ x hx)
      refine tl_run hT r I6 l6 fun s7 W7 I7 st7 => ?_
      have hXk7 : ∀ x ∈ X, ∀ o, s6.heap.get? x = some o → s7.heap.get? x = some o := fun x hx o e => st7.kept x o e (fun h => nomatch h) (hXf4 _ x hx)
      have base : Step (X ++ [s2.heap.objs.size]) W1 W7 ((s1.heap.objs.size, .lst []) :: σ1) ((s1.heap.objs.size, .lst qs) :: σ1) s3 s7 :=
        ((st4.trans (st5.weaken (fun x hx => List.mem_append_left _ hx))).trans (st6.weaken (fun x hx => List.mem_append_right _ hx))).trans st7.ofNil
      have hXw7 : ∀ x ∈ X, ∀ o, ¬ W7 x o := fun x hx o w7 => by
        rcases st7.new x o w7 with h | h | h
        · exact hXw5 x hx o h
        · exact hXf4 _ x hx h
        · obtain ⟨o', e'⟩ := Option.isSome_iff_exists.mp (hXs5 x hx)
          rw [hXk6 x hx o' e'] at h; cases h
      have hXs7 : ∀ x ∈ X, ∃ o, s7.heap.get? x = some o := fun x hx => by
        obtain ⟨o, e⟩ := Option.isSome_iff_exists.mp (hXs5 x hx)
        exact ⟨o, hXk7 x hx o (hXk6 x hx o e)⟩
      have hSt7 : St (i + 1) s7.heap := IT.keep _ _ _ (IT.keep _ _ _ hSt5 hXk6) hXk7
      have l7 : Loc (compEnvC scope cl s2.heap.objs.size env) ρ5 W7 ((s1.heap.objs.size, .lst qs) :: σ1) s7 := l6.step0 st7
      cases hg : g p with
      | false =>
        rw [if_neg (by decide)]
        have e : ((ps.take (i + 1)).filter g).map f = qs := by rw [htake, List.filter_append, List.map_append, hqs]; simp [hg]
        refine ⟨ps.length + 1 - (i + 1), by omega, i + 1, W7, rfl, hlt, ?_⟩
        rw [e]
        exact ⟨I7, l7.sub .nil, hSt7, base, hXw7, fun x hx => by obtain ⟨o, e⟩ := hXs7 x hx; rw [e]; rfl⟩
      | true =>
        rw [if_pos rfl]
        refine hE hg A W7 s7 _ _ r I7 l7 fun v8 s8 q σ8 W8 h8 I8 st8 r8 => ?_
        obtain ⟨rfl, rfl⟩ := h8
        have hm8 : (s1.heap.objs.size, Cell.lst qs) ∈ ((s1.heap.objs.size, Cell.lst qs) :: σ1 : Sig) := .head _
        obtain ⟨vs8, k8, ho8, rl8⟩ := I8.cells _ hm8
        have hqlen : qs.length ≤ ps.length := by
          rw [← hqs, List.length_map]
          exact Nat.le_trans (List.length_filter_le _ _) (by rw [List.length_take]; omega)
        refine append_ls ho8 (fun h9 k9 e9 hs9 => ?_) (by rw [rl8.length, sizeLine_eq]; omega)
        have hc9 : CellAt W8 h9 (s1.heap.objs.size, .lst (qs ++ [f p])) := ⟨_, _, e9, rl8.append (.cons r8 .nil)⟩
        have I9 := I8.write (t := s8.toks) (c' := .lst (qs ++ [f p])) hm8 rfl (by simp [foot]) hs9 hc9
        have st9 : ∀ Y, Step Y W8 W8 ((s1.heap.objs.size, .lst qs) :: σ1) ((s1.heap.objs.size, .lst (qs ++ [f p])) :: σ1) s8 { s8 with heap := h9, toks := s8.toks } := fun Y => by
          have z := Step.write (X := Y) (t := s8.toks) I8 (c' := .lst (qs ++ [f p])) hm8 rfl (by simp [foot]) hs9 (by rw [e9]; rfl)
          rwa [upd_head hD] at z
        rw [upd_head hD] at I9
        have e : ((ps.take (i + 1)).filter g).map f = qs ++ [f p] := by rw [htake, List.filter_append, List.map_append, hqs]; simp [hg]
        have hXk8 : ∀ x ∈ X, ∀ o, s7.heap.get? x = some o → s8.heap.get? x = some o := fun x hx o e => st8.kept x o e (fun h => nomatch h) (hXf4 _ x hx)
        have hXk9 : ∀ x ∈ X, ∀ o, s8.heap.get? x = some o → h9.get? x = some o := fun x hx o e => (hs9.2 x (fun e' => hDX (e' ▸ hx))).trans e
        refine ⟨ps.length + 1 - (i + 1), by omega, i + 1, W8, rfl, hlt, ?_⟩
        rw [e]
        refine ⟨I9, ((l7.step0 st8).step0 (st9 [])).sub .nil, IT.keep _ _ _ (IT.keep _ _ _ hSt7 hXk8) hXk9, (base.trans st8.ofNil).trans (st9 _), fun x hx o w8 => ?_, fun x hx => ?_⟩
        · rcases st8.new x o w8 with h | h | h
          · exact hXw7 x hx o h
          · exact hXf4 _ x hx h
          · obtain ⟨o', e'⟩ := hXs7 x hx; rw [h] at e'; cases e'
        · obtain ⟨o, e⟩ := hXs7 x hx
          show (h9.get? x).isSome = true
          rw [hXk9 x hx o (hXk8 x hx o e)]; rfl
  exact codeAny_compStart_list loop (IT.iter A s3 0 _ _ hSt3 loop)

theorem ev_comp {elt t iter : Expr} {ifs : List Expr} {scope : Scope} {pos : Pos} {cl : List (Str × Addr)} (f : PV → PV) (g : PV → Bool)
    (h : IE C n env ρ σ t iter fun ps σ1 => ps.length ≤ 100000 ∧ (∀ p ∈ ps, ∀ L D qs, D ∉ foots σ1 → ∃ ρ2, AS C n (compEnvC scope cl L env) [] ((D, .lst qs) :: σ1) t p ρ2 ∧ TL C n (compEnvC scope cl L env) ρ2 ((D, .lst qs) :: σ1) ifs (g p) ∧
        (g p = true → EV C n (compEnvC scope cl L env) ρ2 ((D, .lst qs) :: σ1) elt fun q σ' => q = f p ∧ σ' = (D, .lst qs) :: σ1)) ∧ K (.list ((ps.filter g).map f)) σ1)
    (hs : ∀ x, foldedSetIterable iter env x = pure x) (hcl : closureFor scope env = pure cl) (hk0 : scope.kind = .function) (hnames : ∀ x ∈ scope.names, x.2 = .local → scope.names.lookup x.1 = some .local) (hcell : ∀ x ∈ scope.names, x.2 ≠ .cell) :
    EV C n env ρ σ (.ListComp elt [⟨t, iter, ifs, 0⟩] scope pos) K :=
  fun A W s Q E r I l hk => by
    show wpAny _ A (comprehension (.ListComp elt [⟨t, iter, ifs, 0⟩] scope pos) scope env (firstIterPos [⟨t, iter, ifs, 0⟩] pos) (newList []) false (firstIter [⟨t, iter, ifs, 0⟩] env)) Q E s
    refine comp_core (use := none) (KL := fun qs σ' => K (.list qs) σ') f g h hs hcl hk0 hnames hcell r I l fun acc Cc s' σ' W' qs hK I' st' ra hCn hCf hCw hm => ?_
    obtain ⟨m, hm⟩ := hm
    refine ⟨m, hm, fun h' hs' => ?_⟩
    have I'' : Inv C W' σ' { s' with heap := h' } := I'.sameBut (t := s'.toks) hs' hCf hCw
    have st'' : Step [] W W' σ σ' s { s' with heap := h' } := ⟨st'.le, st'.new, fun b o e hX hF => (hs'.2 b (by rintro rfl; rw [hCn] at e; cases e)).trans (st'.kept b o e hX hF), fun b e => by
      by_cases hb : b = Cc
      · subst hb; exact hCn
      · exact st'.there b ((hs'.2 b hb).symm.trans e), st'.own⟩
    exact hk _ _ _ _ _ hK I'' st'' ra

variable {KS : PF → List (Str × PV) → Sig → Prop}
/-- x = [..], where the names of both change their order -/
theorem x_assign_comp {x : Str} {xp spos : Pos} {elt t iter : Expr} {ifs : List Expr} {scope : Scope} {pos : Pos} {cl : List (Str × Addr)} {rest : List Stmt} (f : PV → PV) (g : PV → Bool)
    (h : IE C n env ρ σ t iter fun ps σ1 => ps.length ≤ 100000 ∧ (∀ p ∈ ps, ∀ L D qs, D ∉ foots σ1 → ∃ ρ2, AS C n (compEnvC scope cl L env) [] ((D, .lst qs) :: σ1) t p ρ2 ∧ TL C n (compEnvC scope cl L env) ρ2 ((D, .lst qs) :: σ1) ifs (g p) ∧
        (g p = true → EV C n (compEnvC scope cl L env) ρ2 ((D, .lst qs) :: σ1) elt fun q σ' => q = f p ∧ σ' = (D, .lst qs) :: σ1)) ∧ XS C n env ((x, .list ((ps.filter g).map f)) :: ρ) σ1 rest KS)
    (hsw : swapsWith (.ListComp elt [⟨t, iter, ifs, 0⟩] scope pos) (some (.Name x xp)) spos.line env = pure true) (hl : env.kindOf x = some .local) (hf : env.scope.kind = .function)
    (hs : ∀ x, foldedSetIterable iter env x = pure x) (hcl : closureFor scope env = pure cl) (hk0 : scope.kind = .function) (hnames : ∀ x ∈ scope.names, x.2 = .local → scope.names.lookup x.1 = some .local) (hcell : ∀ x ∈ scope.names, x.2 ≠ .cell) :
    XS C n env ρ σ (.Assign [.Name x xp] (.ListComp elt [⟨t, iter, ifs, 0⟩] scope pos) spos :: rest) KS :=
  x_cons fun A W s Q E r I l hk => by
    rw [exec_Assign]
    have e1 : swapsWithSole [.Name x xp] (.ListComp elt [⟨t, iter, ifs, 0⟩] scope pos) spos.line env = pure true := hsw
    rw [e1]
    refine wpAny_bind (wpAny_standAt (wpAny_bind (wpAny_pure ?_)))
    rw [if_pos rfl]
    refine wpAny_bind ?_
    rw [arm_evalThenUse_ListComp]
    dsimp only
    refine wpAny_bind ?_
    refine comp_core (KL := fun qs σ' => XS C n env ((x, .list qs) :: ρ) σ' rest KS) f g h hs hcl hk0 hnames hcell r I l fun acc Cc s' σ' W' qs hK I' st' ra hCn hCf hCw hm => ?_
    obtain ⟨m, hm⟩ := hm
    have hLC : env.locals ≠ Cc := fun e => l.some (e ▸ hCn)
    show wpAny _ A (assign (.Name x xp) env acc) _ E s'
    refine wpAny_assign_Name (store I' (l.step0 st') ra hl hf fun s2 I2 st2 l2 => ?_)
    have hm2 : ∃ m, s2.heap.Ns Cc m := by
      obtain ⟨o, es, ep, ho, rr⟩ := hm
      exact ⟨m, o, es, ep, st2.kept _ _ ho (by simpa using fun e => hLC e.symm) hCf, rr⟩
    obtain ⟨m2, hm2⟩ := hm2
    refine ⟨m2, hm2, fun h' hs' => wpAny_pure (wpAny_pure ?_)⟩
    have st2' : Step [env.locals] W W' σ σ' s s2 := st'.ofNil.trans st2
    have I'' : Inv C W' σ' { s2 with heap := h' } := I2.sameBut (t := s2.toks) hs' hCf hCw
    have st'' : Step [env.locals] W W' σ σ' s { s2 with heap := h' } := ⟨st2'.le, st2'.new, fun b o e hX hF => (hs'.2 b (by rintro rfl; rw [hCn] at e; cases e)).trans (st2'.kept b o e hX hF), fun b e => by
      by_cases hb : b = Cc
      · subst hb; exact hCn
      · exact st2'.there b ((hs'.2 b hb).symm.trans e), st2'.own⟩
    have l'' : Loc env ((x, .list qs) :: ρ) W' σ' { s2 with heap := h' } := by
      obtain ⟨mm, ⟨o, es, ep, ho, rr⟩, hr⟩ := l2.ns
      exact ⟨⟨mm, ⟨o, es, ep, (hs'.2 _ hLC).trans ho, rr⟩, hr⟩, l2.off, l2.ice⟩
    exact hk _ _ .next _ _ _ hK I'' st'' l'' rfl

end Sol
end

section
open PySem PySem.W PySem.Calls PyProof.Rows PySem.SeqAt PySem.SeqRoads2 PySem.MeetsSeq3 PySem.P
namespace Sol
variable {C : Cx} {n : Nat} {env : Env} {ρ : List (Str × PV)} {σ : Sig} {K : PV → Sig → Prop}
variable {KS : PF → List (Str × PV) → Sig → Prop}

/-- a name in a cell -/
theorem ev_namec {x : Str} {pos : Pos} {c : Addr} {p : PV} (hc : env.cells.lookup x = some c) (hx : σ.lookup c = some (.cel (some p))) (h : K p σ) (hf : env.scope.kind = .function) (hl : env.kindOf x = some .cell)
    (hd : (x == ("__debug__" : Str)) = false) : EV C n env ρ σ (.Name x pos) K :=
  fun A W s Q E r I l hk => by
    obtain ⟨o, v, ho, hdt, rv⟩ := I.cells _ (mem_of_lookup hx)
    exact wpAny_Name (wpAny_loadName_cell hf hl hc ⟨o, ho, hdt⟩ (hk _ _ _ _ _ h I .refl rv)) hd
theorem x_assignc {x : Str} {xp pos : Pos} {e : Expr} {rest : List Stmt} {c : Addr}
    (h : EV C n env ρ σ e fun p σ1 => (∃ q, σ1.lookup c = some (.cel q)) ∧ XS C n env ρ (upd σ1 c (.cel (some p))) rest KS) (hc : env.cells.lookup x = some c) (hl : env.kindOf x = some .cell) (hf : env.scope.kind = .function)
    (hs : swapsWith e (some (.Name x xp)) pos.line env = pure false) : XS C n env ρ σ (.Assign [.Name x xp] e pos :: rest) KS :=
  x_cons fun A W s Q E r I l hk => wpAny_Assign_Name (h A W s _ E r I l fun v s1 p σ1 W1 h1 I1 st1 r1 => by
    obtain ⟨⟨q, hq⟩, hX⟩ := h1
    have hm := mem_of_lookup hq
    have hcell : ∃ v0, s1.heap.IsCell c v0 := by
      have z := I1.cells _ hm
      cases q with
      | none => obtain ⟨o, e, d⟩ := z; exact ⟨none, o, e, d⟩
      | some q => obtain ⟨o, v0, e, d, _⟩ := z; exact ⟨some v0, o, e, d⟩
    obtain ⟨v0, hv0⟩ := hcell
    refine wpAny_storeName_cell hf hl hc hv0 fun h' hc' hs' => ?_
    obtain ⟨o', e', d'⟩ := hc'
    have hcA : CellAt W1 h' (c, .cel (some p)) := ⟨o', v, e', d', r1⟩
    have hfo : foot (c, Cell.cel (some p)) = foot (c, Cell.cel q) := rfl
    have I2 := I1.write (t := s1.toks) (c' := .cel (some p)) hm hfo (by simp [foot]) hs' hcA
    have st2 : ∀ Y, Step Y W1 W1 σ1 (upd σ1 c (.cel (some p))) s1 { s1 with heap := h', toks := s1.toks } := fun Y => .write I1 (c' := .cel (some p)) hm hfo (by simp [foot]) hs' (by rw [e']; rfl)
    exact hk _ _ .next _ _ _ hX I2 (st1.ofNil.trans (st2 _)) (l.step0 (st1.trans (st2 _))) rfl) hs

noncomputable abbrev mkEnvC (scope : Scope) (L f : Addr) (q : Str) (cd : Value) (cs : List (Str × Addr)) : Env :=
  { scope := scope, locals := L, globals := mainGlobals, cells := cs, qual := q, func := some f, code := cd, frame := some L, builtins := builtinsNs }

theorem Inv.pop {W s} {p : Addr × Cell} (I : Inv C W (p :: σ) s) : Inv C W σ s :=
  ⟨I.ok, I.ice, I.h0, fun q hq => I.cells q (.tail _ hq), (List.nodup_append.mp (show (foot p ++ foots σ).Nodup from I.nodup)).2.1, fun a o w h => I.apart a o w (List.mem_append_right (foot p) h), I.gens, I.os⟩

/-- a def of two parameters, the first of which and one local more are in cells -/
theorem fn_enter_cells {f : Addr} {params : Arguments} {body : List Stmt} {scope : Scope} {pc pa : PV} {xc xa xe : Str} (F : FnAt C f params body scope [])
    (hb : ∀ (name qual : Str) (kV doc pm : Value) (an : Option Addr) (cdv ct : Value) (v1 v2 : Value), bindArgs (fnOf name qual params body scope .none kV doc pm an cdv ct) ⟨[v1, v2], []⟩ = pure [(xc, v1), (xa, v2)])
    (hcs : ∀ L, cellsFrom (L + 1) scope.names [] = [(xe, L + 2), (xc, L + 1)]) (hxc : scope.names.lookup xc = some .cell) (hxa : scope.names.lookup xa = some .local) (hne : xc ≠ xe) (hca : xc ≠ xa)
    (h : ∀ L q cd, L ∉ foots σ → L + 1 ∉ foots σ → L + 2 ∉ foots σ → XS C n (mkEnvC scope L f q cd [(xe, L + 2), (xc, L + 1)]) [(xa, pa)] ((L + 1, .cel (some pc)) :: (L + 2, .cel none) :: σ) body fun pf ρ' σ' => ∃ p c1 c2 σ'', pf = .ret p ∧ σ' = (L + 1, .cel c1) :: (L + 2, .cel c2) :: σ'' ∧ K p σ'')
    (hco : scope.isCoroutine = false := by rfl) (hgen : scope.isGenerator = false := by rfl) (hk : scope.kind = .function := by rfl) : FN C (n + 1) f [pc, pa] σ K :=
  fun A W s vs R r I rl hkk => by
    obtain ⟨o, name, qual, dV, kV, doc, pm, an, cdv, ct, ho, hd, hcd, hd0, _⟩ := F.ex
    have e0 := hd0 rfl
    subst e0
    have keep := I.keep0
    obtain ⟨v1, vr, rfl, rv1, rl⟩ := rl
    obtain ⟨v2, vr, rfl, rv2, rl⟩ := rl
    simp only [RepL] at rl
    subst rl
    refine codeAny_call_cells (by have := r.depth; omega) (keep _ _ ho) hd I.nolimit (hcd.keeps keep) rfl (hb ..) rfl (fun x hx => ?_) (fun s1 hc => ?_) hco hgen hk
    · simp only [List.mem_cons, List.not_mem_nil, or_false] at hx
      rcases hx with rfl | rfl
      · exact .inr ⟨hxc, by rw [hcs, List.lookup_cons]; split <;> simp [List.lookup_cons]⟩
      · exact .inl hxa
    have henv : callEnvC (fnOf name qual params body scope .none kV doc pm an cdv ct) s.heap.objs.size f = mkEnvC scope s.heap.objs.size f (qual ++ ".<locals>.") cdv [(xe, s.heap.objs.size + 2), (xc, s.heap.objs.size + 1)] := by
      show newEnv scope s.heap.objs.size mainGlobals (cellsFrom (s.heap.objs.size + 1) scope.names []) (qual ++ ".<locals>.") (some f) cdv none builtinsNs = _
      rw [hcs]; rfl
    rw [henv] at hc ⊢
    obtain ⟨⟨⟨h1, tk1, hs1⟩, hns, hkp, hfresh⟩, hcell, hap, hab⟩ := hc
    have n0 : s.heap.objs.size ∉ foots σ := fun h => absurd (I.footLt _ h) (Nat.lt_irrefl _)
    have n1 : s.heap.objs.size + 1 ∉ foots σ := fun h => absurd (I.footLt _ h) (Nat.not_lt.mpr (Nat.le_succ _))
    have n2 : s.heap.objs.size + 2 ∉ foots σ := fun h => absurd (I.footLt _ h) (Nat.not_lt.mpr (by omega))
    have k0 : s.heap.get? s.heap.objs.size = none := get_size_none _
    have k1 : s.heap.get? (s.heap.objs.size + 1) = none := get_succ_none _
    have k2 : s.heap.get? (s.heap.objs.size + 2) = none := by
      cases e : s.heap.get? (s.heap.objs.size + 2) with
      | none => rfl
      | some o => exact absurd (Heap.lt_size e) (Nat.not_lt.mpr (by omega))
    have kindc : (mkEnvC scope s.heap.objs.size f (qual ++ ".<locals>.") cdv [(xe, s.heap.objs.size + 2), (xc, s.heap.objs.size + 1)]).kindOf xc = some .cell := hxc
    have kinda : (mkEnvC scope s.heap.objs.size f (qual ++ ".<locals>.") cdv [(xe, s.heap.objs.size + 2), (xc, s.heap.objs.size + 1)]).kindOf xa = some .local := hxa
    have hbC : ∀ y, bindC (mkEnvC scope s.heap.objs.size f (qual ++ ".<locals>.") cdv [(xe, s.heap.objs.size + 2), (xc, s.heap.objs.size + 1)]).kindOf [(xc, v1), (xa, v2)] (fun _ => none) y = if y = xc then some v1 else none := fun y => by
      unfold bindC bindC bindC; rw [if_pos kinda, if_neg (by rw [kindc]; decide)]
    have hbL : ∀ y, bindL (mkEnvC scope s.heap.objs.size f (qual ++ ".<locals>.") cdv [(xe, s.heap.objs.size + 2), (xc, s.heap.objs.size + 1)]).kindOf [(xc, v1), (xa, v2)] (fun _ => none) y = if y = xa then some v2 else none := fun y => by
      unfold bindL bindL bindL; rw [if_pos kinda]; dsimp only; split; (· rfl); rw [if_neg (by rw [kindc]; decide)]
    have hne' : (xc == xe) = false := by simpa using hne
    have hC1 := hcell xc (s.heap.objs.size + 1) (by rw [List.lookup_cons, hne']; simp [List.lookup_cons])
    have hC2 := hcell xe (s.heap.objs.size + 2) (by simp [List.lookup_cons])
    rw [hbC, if_pos rfl] at hC1
    rw [hbC, if_neg (fun e => hne e.symm)] at hC2
    have I0 : Inv C W σ s1 := I.keeps (fun a o e => hkp _ _ (I.ice _ _ e)) (fun a _ o e => hkp _ _ e) (by rw [hs1]) (by rw [hs1])
    have I1 : Inv C W ((s.heap.objs.size + 1, .cel (some pc)) :: (s.heap.objs.size + 2, .cel none) :: σ) s1 := by
      refine ⟨I0.ok, I0.ice, I0.h0, fun p hp => ?_, ?_, fun a o w hf => ?_, I0.gens, I0.os⟩
      · rcases List.mem_cons.mp hp with rfl | hp
        · obtain ⟨o, e, d⟩ := hC1; exact ⟨o, v1, e, d, rv1⟩
        · rcases List.mem_cons.mp hp with rfl | hp
          · exact hC2
          · exact I0.cells p hp
      · show ((s.heap.objs.size + 1) :: (s.heap.objs.size + 2) :: foots σ).Nodup
        refine List.nodup_cons.mpr ⟨?_, List.nodup_cons.mpr ⟨n2, I.nodup⟩⟩
        intro h
        rcases List.mem_cons.mp h with h | h
        · exact absurd h (Nat.ne_of_lt (Nat.lt_succ_self _))
        · exact n1 h
      · change a ∈ (s.heap.objs.size + 1) :: (s.heap.objs.size + 2) :: foots σ at hf
        have hlt := I.iceLt _ _ w
        rcases List.mem_cons.mp hf with rfl | hf
        · exact absurd hlt (Nat.not_lt.mpr (Nat.le_succ _))
        · rcases List.mem_cons.mp hf with rfl | hf
          · exact absurd hlt (Nat.not_lt.mpr (by omega))
          · exact I.apart _ _ w hf
    have st0 : Step [] W W σ ((s.heap.objs.size + 1, .cel (some pc)) :: (s.heap.objs.size + 2, .cel none) :: σ) s s1 :=
      ⟨.refl, fun _ _ h => .inl h, fun b o e _ _ => hkp b o e, there_of_keep hkp, fun a h => by
        change a ∈ (s.heap.objs.size + 1) :: (s.heap.objs.size + 2) :: foots σ at h
        rcases List.mem_cons.mp h with rfl | h
        · exact .inr k1
        · rcases List.mem_cons.mp h with rfl | h
          · exact .inr k2
          · exact .inl h⟩
    have l1 : Loc (mkEnvC scope s.heap.objs.size f (qual ++ ".<locals>.") cdv [(xe, s.heap.objs.size + 2), (xc, s.heap.objs.size + 1)]) [(xa, pa)] W ((s.heap.objs.size + 1, .cel (some pc)) :: (s.heap.objs.size + 2, .cel none) :: σ) s1 := by
      refine ⟨⟨_, hns, fun x p e => ?_⟩, fun hm => ?_, fun o w => absurd (I.iceLt _ _ w) (Nat.lt_irrefl _)⟩
      · rw [List.lookup_cons] at e
        split at e
        · rename_i hb; cases e
          rw [beq_iff_eq] at hb
          exact ⟨v2, by rw [hbL, if_pos hb], rv2⟩
        · cases e
      · change s.heap.objs.size ∈ (s.heap.objs.size + 1) :: (s.heap.objs.size + 2) :: foots σ at hm
        rcases List.mem_cons.mp hm with h | hm
        · exact Nat.succ_ne_self _ h.symm
        · rcases List.mem_cons.mp hm with h | hm
          · exact absurd h (by omega)
          · exact n0 hm
    refine h s.heap.objs.size (qual ++ ".<locals>.") cdv n0 n1 n2 _ W _ _ _ ⟨by show A.depth + 1 + 4 * n < recursionLimit; have := r.depth; omega, by show A.units + 3 + 12 * n < cLine; have := r.units; omega, r.handled⟩ I1 l1 fun fl s' pf ρ' σ' W' hK I2 st l2 rf => ?_
    obtain ⟨p, c1, c2, σ'', rfl, rfl, hK⟩ := hK
    obtain ⟨v, rfl, rv⟩ := rf
    have st2 := (st0.ofNil.trans st).drop k0
    have st3 : Step [] W W' σ σ'' s s' := ⟨st2.le, st2.new, st2.kept, st2.there, fun a h => st2.own a (by
      show a ∈ (s.heap.objs.size + 1) :: (s.heap.objs.size + 2) :: foots σ''
      exact List.mem_cons_of_mem _ (List.mem_cons_of_mem _ h))⟩
    exact hkk v s' p σ'' W' hK I2.pop.pop st3 rv

/-- enumerate over a list -/
noncomputable def enumP (ps : List PV) : List PV := ps.mapIdx fun i p => PV.tup [.int (i : Int), p]
theorem iter_enum {ts : List Expr} {tk : Nat} {tp : Pos} {ps : List PV} {W : Ice} {a e it : Addr} {vs : List Value} {k : Nat} (w : W a (lsO vs k)) (rl : RepL W ps vs) (hei : e ≠ it) :
    Iter C (.Tuple ts tk tp) (.ref e) (enumP ps) [e, it] (fun i h => (∃ old, IsEnum h e it (i : Int) old) ∧ h.IsListIter it a i) W where
  item := fun A W1 σ s i p Q E hh I hle st hp hf hw hk => by
    obtain ⟨⟨old, he⟩, hit⟩ := st
    unfold enumP at hp
    rw [List.getElem?_mapIdx] at hp
    obtain ⟨q, hq, rfl⟩ := Option.map_eq_some_iff.mp hp
    obtain ⟨v, hv, rv⟩ := (rl.mono hle).get hq
    refine wpAny_pyNext_enum_item he hit (I.isList (hle _ _ w)) (by simpa using hv) hei fun h1 heo hit1 ht1 hz1 hk1 => ⟨_, rfl, wpAny_letOwnedTupleGo_enum heo fun h2 he2 hs2 => ?_⟩
    have fe := hf e (.head _)
    have fi := hf it (.tail _ (.head _))
    have we := hw e (.head _)
    have wi := hw it (.tail _ (.head _))
    have hes : e < s.heap.objs.size := Heap.lt_size he
    have his : it < s.heap.objs.size := by obtain ⟨o, eo, _⟩ := hit; exact Heap.lt_size eo
    have hsz : s.heap.objs.size ≠ e := (Nat.ne_of_lt hes).symm
    have k2 : ∀ b o, b ≠ e → b ≠ it → s.heap.get? b = some o → h2.get? b = some o := fun b o hb hb' eb => (hs2.2 b hb).trans (hk1 b o hb hb' eb)
    have ht2 : h2.get? s.heap.objs.size = some (tpO [.int i s.toks, v] 0) := (hs2.2 _ hsz).trans ht1
    have I2 : Inv C W1 σ { s with heap := h2, toks := s.toks + 1 } := I.keeps (fun b o eb => k2 _ _ (by rintro rfl; exact we _ eb) (by rintro rfl; exact wi _ eb) (I.ice _ _ eb))
      (fun b hb o eb => k2 _ _ (by rintro rfl; exact fe hb) (by rintro rfl; exact fi hb) eb) rfl rfl
    have hit2 : h2.IsListIter it a (i + 1) := hit1.at fun o eo => (hs2.2 _ (Ne.symm hei)).trans eo
    have nsz : s.heap.objs.size ∉ foots σ := fun h => absurd (I.footLt _ h) (Nat.lt_irrefl _)
    have I3 := I2.ice1 (o := tpO [.int i s.toks, v] 0) ht2 nsz
    have st3 : Step [e, it] W1 (W1.add s.heap.objs.size (tpO [.int i s.toks, v] 0)) σ σ s { s with heap := h2, toks := s.toks + 1 } :=
      ⟨Ice.le_add, fun b o h => h.elim .inl (fun h => .inr (.inr (by rw [h.1]; exact get_size_none _))), fun b o eb hX _ => k2 b o (fun h => hX (h ▸ .head _)) (fun h => hX (h ▸ .tail _ (.head _))) eb, fun b eb => by
        by_cases hbe : b = e
        · subst hbe; change h2.get? b = none at eb; rw [he2] at eb; cases eb
        · by_cases hbi : b = it
          · subst hbi; obtain ⟨o, eo, _⟩ := hit2; change h2.get? b = none at eb; rw [eo] at eb; cases eb
          · cases es : s.heap.get? b with
            | none => rfl
            | some o => (have := k2 b o hbe hbi es; change h2.get? b = none at eb; rw [this] at eb; cases eb), fun _ h => .inl h⟩
    refine hk _ { s with heap := h2, toks := s.toks + 1 } _ ⟨_, _, 0, rfl, Ice.add_self, .cons ⟨_, rfl⟩ (.cons (Rep.mono Ice.le_add _ _ rv) .nil)⟩ I3 st3 ⟨⟨v, ?_⟩, hit2⟩ (fun x hx o hw' => ?_) (fun x hx => ?_)
    · have : ((i + 1 : Nat) : Int) = (i : Int) + 1 := by omega
      rw [this]; exact he2
    · rcases hw' with h | ⟨h, _⟩
      · exact hw x hx o h
      · simp only [List.mem_cons, List.not_mem_nil, or_false] at hx
        rcases hx with rfl | rfl
        · exact hsz h.symm
        · exact (Nat.ne_of_lt his) h
    · simp only [List.mem_cons, List.not_mem_nil, or_false] at hx
      rcases hx with rfl | rfl
      · show (h2.get? x).isSome = true; rw [he2]; rfl
      · show (h2.get? x).isSome = true; obtain ⟨o, eo, _⟩ := hit2; rw [eo]; rfl
  fin := fun A W1 σ s i Q E hh I hle st hp hf hw hk => by
    obtain ⟨⟨old, he⟩, hit⟩ := st
    have : vs.toArray[i]? = none := by
      have h1 := List.getElem?_eq_none_iff.mp hp
      unfold enumP at h1
      rw [List.length_mapIdx] at h1
      simp [rl.length, h1]
    refine wpAny_pyNext_enum_end hh he hit (I.isList (hle _ _ w)) this fun h' hx => hk h' fun b o hb e' => hx b o (fun h => hb (h ▸ .tail _ (.head _))) e'
  iter := fun A s i Q E st h => by obtain ⟨⟨old, he⟩, hit⟩ := st; exact wpAny_pyIter_enum he h
  keep := fun i h h' st hk => by
    obtain ⟨⟨old, he⟩, hit⟩ := st
    exact ⟨⟨old, hk e (.head _) _ he⟩, hit.at fun o eo => hk it (.tail _ (.head _)) o eo⟩

theorem ie_enum {ts : List Expr} {tk : Nat} {tp yp pos : Pos} {e : Expr} {K : List PV → Sig → Prop} (h : EV C n env ρ σ e fun p σ1 => ∃ ps, p = .list ps ∧ K (enumP ps) σ1)
    (hg : C.mg "enumerate" = none) (hf : env.scope.kind = .function) (hl : env.kindOf "enumerate" = some .globalImplicit) (he : env.globals = mainGlobals) (hbu : env.builtins = builtinsNs)
    (hs : starEach [e] env = [(false, PySem.eval e env)]) : IE C n env ρ σ (.Tuple ts tk tp) (.Call (.Name "enumerate" yp) [e] [] pos) K :=
  fun A W s Q E r I l hk => by
    have hboot : bootBuiltins (Str.ofString "enumerate") = some (.type "enumerate") := by boot_fast
    refine Call_ (Name_function_global hf hl (loadGlobal_builtin (mg := C.mg) (mb := C.mb) (by rw [he]; exact I.g) hg (by rw [hbu]; exact I.b) ((I.ok.builtins (Str.ofString "enumerate") (by decide)).trans hboot) ?_) (by decide)) (by with_unfolding_all rfl)
    refine callWith_type1 (e := e) (rest := []) ?_ hs rfl
    refine args_cons (h A W s _ E r I l fun v s1 p σ1 W1 h1 I1 st1 r1 => args_nil ?_) hs
    obtain ⟨ps, rfl, hK⟩ := h1
    obtain ⟨a, vs, k, rfl, w, rl⟩ := r1
    refine PySem.call_enumerate_list (I1.isList w) fun h' hen hit hz hkp => wpAny_pyIter_enum hen ?_
    have I2 : Inv C W1 σ1 { s1 with heap := h' } := I1.keeps (fun b o e => hkp _ _ (I1.ice _ _ e)) (fun b _ o e => hkp _ _ e) rfl rfl
    have st2 : Step [] W W1 σ σ1 s { s1 with heap := h' } := st1.trans (.keepAll hkp)
    have f1 : s1.heap.objs.size ∉ foots σ1 := fun h => absurd (I1.footLt _ h) (Nat.lt_irrefl _)
    have f2 : s1.heap.objs.size + 1 ∉ foots σ1 := fun h => absurd (I1.footLt _ h) (Nat.not_lt.mpr (Nat.le_succ _))
    refine hk _ _ _ σ1 W1 [s1.heap.objs.size + 1, s1.heap.objs.size] _ hK I2 st2 (fun x hx => ?_) (fun x hx => ?_) (fun x hx o hw => ?_) (fun x hx => ?_) (iter_enum w rl (Nat.succ_ne_self _)) ⟨⟨.none, hen⟩, hit⟩ <;>
      simp only [List.mem_cons, List.not_mem_nil, or_false] at hx <;> rcases hx with rfl | rfl
    · exact st1.there _ (get_succ_none _)
    · exact st1.there _ (get_size_none _)
    · exact f2
    · exact f1
    · exact absurd (I1.iceLt _ _ hw) (Nat.not_lt.mpr (Nat.le_succ _))
    · exact absurd (I1.iceLt _ _ hw) (Nat.lt_irrefl _)
    · show (h'.get? _).isSome = true; rw [hen]; rfl
    · show (h'.get? _).isSome = true; obtain ⟨o, eo, _⟩ := hit; rw [eo]; rfl

/-- tuples out of a list, no owner -/
theorem plainly_tuple {ts : List Expr} {tk : Nat} {tp : Pos} : Plainly C (.Tuple ts tk tp) := fun A it l i v s W p Q E hi r h => by
  rcases hi with hi | hi
  · obtain ⟨o, ho, hc, hd⟩ := hi
    cases v with
    | ref a =>
      exact wpAny_letOwnedTupleGo_listiter ⟨o, ho, hc, hd⟩ h
    | _ => exact wpAny_of_eq (by rfl) h
  · obtain ⟨o, ho, hc, hd⟩ := hi
    cases v with
    | ref a =>
      unfold letOwnedTupleGo
      refine wpAny_bind (wpAny_load ho ?_)
      rw [hc, hd]
      dsimp only
      rw [if_neg (by
        intro h
        rw [show (["enumerate", "zip", "dict_itemiterator", "dict_reverseitemiterator", "odict_iterator", "itertools.zip_longest", "itertools.pairwise"].contains "tuple_iterator") = false from by decide, Bool.false_and] at h
        cases h)]
      exact wpAny_pure h
    | _ => exact wpAny_of_eq (by rfl) h

end Sol
end

section
open PySem PySem.W PySem.Calls PyProof.Rows
namespace Sol

/-- where the text's things lie -/
structure Ad where
  (aTok aSyn aCur iTok iSyn iCur : Addr)
  (mPeek mTake mLine mAt mBehind mAccept mExpect mEnter mLeave : Addr)
  (fNum fEle fIsEl fPath fNamed fTypeAt fType fPlace fEob fEot fBegins : Addr)
  (gWell gDraw gName gFill gPlain gShape gEnded gCase gLen gRead : Addr)
  (tPeek : Tok)

noncomputable def ice0 (C : Cx) : Ice := fun a o => C.h₀.get? a = some o
noncomputable def DatAt (C : Cx) (x : Str) (p : PV) : Prop := ∃ v, C.mg x = some v ∧ Rep (ice0 C) p v

/-- a def of the module, by its number -/
structure DefAt (C : Cx) (a : Addr) (x : Str) (s : Stmt) : Prop where
  mg : C.mg x = some (.ref a)
  keep : keepIn C.K (.ref a) = true
  fn : FnAt C a (fPar s) (fBody s) (fScope s) []
structure ClsAt (C : Cx) (c i : Addr) (x : Str) (s : Stmt) : Prop where
  mg : C.mg x = some (.ref c)
  pl : Plain C c
  cl : Cls C c i
  fn : FnAt C i (fPar s) (fBody s) (fScope s) []
structure MethAt (C : Cx) (c a : Addr) (x : Str) (s : Stmt) (dfl : List Value) : Prop where
  me : Meth C c x a
  fn : FnAt C a (fPar s) (fBody s) (fScope s) dfl

noncomputable def tokNs : List Str := ["kind", "text", "value", "line"]
noncomputable def synNs : List Str := ["kind", "line", "name", "kids", "more", "height"]
noncomputable def curNs : List Str := ["tokens", "spot", "depth", "choices"]

noncomputable def wordL : List Str := ["name", "keyword", "sign"]
noncomputable def placeL : List Str := ["storage", "memory", "calldata"]
noncomputable def signL : List Str := ["=", "(", ")", "+=", "++", ";", "?", ",", "=>"]
noncomputable def firstL : List (Str × Str) := [("number", "7"), ("text", "\"a];\""), ("sign", "("), ("keyword", "delete"), ("sign", "-"), ("keyword", "new"), ("keyword", "true"), ("keyword", "payable"), ("keyword", "emit"), ("keyword", "memory"), ("sign", "[")]

structure Tab (C : Cx) (T : Ad) : Prop where
  cTok : ClsAt C T.aTok T.iTok "Token" (inCls (stAt 7) 0)
  cSyn : ClsAt C T.aSyn T.iSyn "Syn" (inCls (stAt 13) 0)
  cCur : ClsAt C T.aCur T.iCur "Cursor" (inCls (stAt 32) 0)
  fTok : ∀ x ∈ tokNs, Field C T.aTok x
  fSyn : ∀ x ∈ synNs, Field C T.aSyn x
  fCur : ∀ x ∈ curNs, Field C T.aCur x
  mPeek : MethAt C T.aCur T.mPeek "peek" (inCls (stAt 32) 1) [.int 0 T.tPeek]
  mTake : MethAt C T.aCur T.mTake "take" (inCls (stAt 32) 2) []
  mLine : MethAt C T.aCur T.mLine "line" (inCls (stAt 32) 3) []
  mAt : MethAt C T.aCur T.mAt "at" (inCls (stAt 32) 4) []
  mBehind : MethAt C T.aCur T.mBehind "is_behind" (inCls (stAt 32) 5) []
  mAccept : MethAt C T.aCur T.mAccept "accept" (inCls (stAt 32) 6) []
  mExpect : MethAt C T.aCur T.mExpect "expect" (inCls (stAt 32) 7) []
  mExpName : ∃ a, MethAt C T.aCur a "expect_name" (inCls (stAt 32) 8) []
  mEnter : MethAt C T.aCur T.mEnter "enter" (inCls (stAt 32) 10) []
  mLeave : MethAt C T.aCur T.mLeave "leave" (inCls (stAt 32) 11) []
  fNum : DefAt C T.fNum "number_in" (stAt 8)
  fEle : DefAt C T.fEle "elementary" (stAt 9)
  fIsEl : DefAt C T.fIsEl "is_elementary" (stAt 18)
  fPath : DefAt C T.fPath "read_path" (stAt 19)
  fNamed : DefAt C T.fNamed "read_named" (stAt 20)
  fTypeAt : DefAt C T.fTypeAt "type_at" (stAt 23)
  fType : DefAt C T.fType "read_type" (stAt 24)
  fPlace : DefAt C T.fPlace "read_place" (stAt 25)
  fEob : DefAt C T.fEob "end_of_brackets" (stAt 26)
  fEot : DefAt C T.fEot "end_of_type" (stAt 27)
  fBegins : DefAt C T.fBegins "begins_local" (stAt 28)
  gWell : DefAt C T.gWell "_law_well" (stAt 36)
  gDraw : DefAt C T.gDraw "_law_draw" (stAt 37)
  gName : DefAt C T.gName "_law_name" (stAt 38)
  gFill : DefAt C T.gFill "_law_filling" (stAt 39)
  gPlain : DefAt C T.gPlain "_law_plain" (stAt 40)
  gShape : DefAt C T.gShape "_law_shape" (stAt 41)
  gEnded : DefAt C T.gEnded "_law_ended" (stAt 42)
  gCase : DefAt C T.gCase "_law_case" (stAt 43)
  gLen : DefAt C T.gLen "_law_length" (stAt 44)
  gRead : DefAt C T.gRead "_law_is_read" (stAt 45)
  no_len : C.mg "len" = none
  no_min : C.mg "min" = none
  no_int : C.mg "int" = none
  no_str : C.mg "str" = none
  no_range : C.mg "range" = none
  no_enumerate : C.mg "enumerate" = none
  dDigits : DatAt C "DIGITS" (.str "0123456789")
  dHeight : DatAt C "MOST_HEIGHT" (.int 120)
  dPlaces : DatAt C "PLACES" (.tup (placeL.map .str))
  dDeepest : DatAt C "DEEPEST" (.int 25)
  dWords : DatAt C "WORDS" (.tup (wordL.map .str))
  dNested : DatAt C "MOST_NESTED" (.int 80)
  dSigns : DatAt C "_law_signs" (.tup (signL.map .str))
  dFirsts : DatAt C "_law_firsts" (.tup (firstL.map fun p => .tup [.str p.1, .str p.2]))
end Sol
end

section
open PySem PySem.W PySem.Calls PyProof.Rows
namespace Sol
variable {C : Cx} {n : Nat} {env : Env} {ρ : List (Str × PV)} {σ : Sig} {K : PV → Sig → Prop}

theorem ev_data {x : Str} {pos : Pos} {p : PV} (D : DatAt C x p) (h : K p σ) (hf : env.scope.kind = .function) (hl : env.kindOf x = some .globalImplicit)
    (he : env.globals = mainGlobals) (hd : (x == ("__debug__" : Str)) = false) : EV C n env ρ σ (.Name x pos) K := by
  obtain ⟨v, hv, rv⟩ := D
  exact ev_glob hv (fun W hW => rv.mono hW _ _) h hf hl he hd

/-- a list that is to turn -/
theorem ev_list_cellN {es : List Expr} {pos : Pos} (h : ES C n env ρ σ pos es fun ps σ1 => ps.length ≤ 1000 ∧ ∀ a, a ∉ foots σ1 → K (.ref a) ((a, .lst ps) :: σ1)) : EV C n env ρ σ (.List es pos) K :=
  fun A W s Q E r I l hk => wpAny_List (h A W s _ E r I l fun vs s1 ps σ1 W1 h1 I1 st1 r1 => by
    have hsz := h1.1
    rw [← r1.length] at hsz
    refine ⟨by rw [sizeLine_eq]; omega, ?_⟩
    have hn : s1.heap.objs.size ∉ foots σ1 := fun h => absurd (I1.footLt _ h) (Nat.lt_irrefl _)
    have I2 := I1.push (lsO vs 0) s1.toks
    refine hk _ _ _ ((s1.heap.objs.size, .lst ps) :: σ1) W1 (h1.2 _ hn) ⟨I2.ok, I2.ice, I2.h0, fun p hp => ?_, ?_, fun a o w hf => ?_, I2.gens, I2.os⟩
      (st1.trans ⟨.refl, fun _ _ h => .inl h, fun _ _ e _ _ => Heap.get?_push_of_some _ e, there_of_keep fun _ _ e => Heap.get?_push_of_some _ e, fun a h => ?_⟩) rfl
    · rcases List.mem_cons.mp hp with rfl | hp
      · exact ⟨vs, 0, Heap.get?_push_size _ rfl, r1⟩
      · exact I2.cells p hp
    · show (s1.heap.objs.size :: foots σ1).Nodup
      exact List.nodup_cons.mpr ⟨hn, I1.nodup⟩
    · change a ∈ s1.heap.objs.size :: foots σ1 at hf
      rcases List.mem_cons.mp hf with rfl | hf
      · exact absurd (I1.iceLt _ _ w) (Nat.lt_irrefl _)
      · exact I2.apart _ _ w hf
    · change a ∈ s1.heap.objs.size :: foots σ1 at h
      rcases List.mem_cons.mp h with rfl | h
      · exact .inr (get_size_none _)
      · exact .inl h)

/-- what turned is still from here -/
theorem ev_freeze {e : Expr} (h : EV C n env ρ σ e fun p σ1 => ∃ a xs σ2, p = .ref a ∧ σ1 = (a, .lst xs) :: σ2 ∧ K (.list xs) σ2) : EV C n env ρ σ e K :=
  fun A W s Q E r I l hk => h A W s Q E r I l fun v s1 p σ1 W1 h1 I1 st1 r1 => by
    obtain ⟨a, xs, σ2, rfl, rfl, hK⟩ := h1
    obtain ⟨W2, I2, le, hw, rv⟩ := I1.freezeL
    simp only [Rep] at r1; subst r1
    refine hk _ _ _ _ _ hK I2 (st1.trans ⟨le, fun b o h => (hw b o h).elim .inl (fun h => .inr (.inl (by subst h; simp [foots, foot]))), fun _ _ e _ _ => e, fun _ h => h, fun b h => .inl (by simp [foots] at h ⊢; exact .inr h)⟩) rv

theorem lookup_cons_ne {σ : Sig} {a b : Addr} {c : Cell} (h : b ≠ a) : List.lookup b ((a, c) :: σ) = List.lookup b σ := by
  rw [List.lookup_cons]
  have : (b == a) = false := by simpa using h
  rw [this]
theorem lookup_cons_eq {σ : Sig} {a : Addr} {c : Cell} : List.lookup a ((a, c) :: σ) = some c := by
  rw [List.lookup_cons]; simp
theorem lookup_upd {a : Addr} {c c' : Cell} : ∀ {σ : Sig}, σ.lookup a = some c → (upd σ a c').lookup a = some c'
  | [], h => by simp at h
  | (b, x) :: σ, h => by
    unfold upd
    rw [List.map_cons]
    by_cases e : b = a
    · subst e; simp
    · rw [lookup_cons_ne (fun q => e q.symm)] at h
      simp only [e, if_false]
      rw [lookup_cons_ne (fun q => e q.symm)]
      exact lookup_upd h
theorem upd_upd {σ : Sig} {a : Addr} {c c' : Cell} : upd (upd σ a c) a c' = upd σ a c' := by
  unfold upd
  rw [List.map_map]
  refine List.map_congr_left fun p _ => ?_
  simp only [Function.comp]
  by_cases e : p.1 = a <;> simp [e]
theorem upd_same {a : Addr} {c : Cell} : ∀ {σ : Sig}, (foots σ).Nodup → σ.lookup a = some c → upd σ a c = σ
  | [], _, h => rfl
  | (b, x) :: σ, hn, h => by
    unfold upd
    rw [List.map_cons]
    have hn' : (foots σ).Nodup := by
      have : foots ((b, x) :: σ) = foot (b, x) ++ foots σ := rfl
      rw [this] at hn
      exact (List.nodup_append.mp hn).2.1
    by_cases e : b = a
    · subst e
      rw [lookup_cons_eq] at h; cases h
      simp only [if_true]
      congr 1
      have hb : b ∉ foots σ := by
        intro hm
        have hb' : b ∈ foot (b, c) := by cases c <;> simp [foot]
        exact absurd rfl ((List.nodup_append.mp hn).2.2 b hb' b hm)
      refine (List.map_congr_left fun p hp => ?_).trans (List.map_id _)
      by_cases e : p.1 = b
      · refine absurd (List.mem_flatMap.mpr ⟨p, hp, ?_⟩) hb
        obtain ⟨p1, p2⟩ := p
        simp only at e; subst e
        cases p2 <;> simp [foot]
      · rw [if_neg e]; rfl
    · rw [lookup_cons_ne (fun q => e q.symm)] at h
      simp only [e, if_false]
      congr 1
      exact upd_same hn' h

theorem len1 {α : Type} {l : List α} (h : l.length = 1) : ∃ a, l = [a] := by match l, h with | [a], _ => exact ⟨a, rfl⟩
theorem len2 {α : Type} {l : List α} (h : l.length = 2) : ∃ a b, l = [a, b] := by match l, h with | [a, b], _ => exact ⟨a, b, rfl⟩
theorem len3 {α : Type} {l : List α} (h : l.length = 3) : ∃ a b c, l = [a, b, c] := by match l, h with | [a, b, c], _ => exact ⟨a, b, c, rfl⟩
theorem len4 {α : Type} {l : List α} (h : l.length = 4) : ∃ a b c d, l = [a, b, c, d] := by match l, h with | [a, b, c, d], _ => exact ⟨a, b, c, d, rfl⟩
theorem len5 {α : Type} {l : List α} (h : l.length = 5) : ∃ a b c d e, l = [a, b, c, d, e] := by match l, h with | [a, b, c, d, e], _ => exact ⟨a, b, c, d, e, rfl⟩
theorem len6 {α : Type} {l : List α} (h : l.length = 6) : ∃ a b c d e f, l = [a, b, c, d, e, f] := by match l, h with | [a, b, c, d, e, f], _ => exact ⟨a, b, c, d, e, f, rfl⟩

noncomputable abbrev BK (K : PV → Sig → Prop) : PF → List (Str × PV) → Sig → Prop := fun pf ρ' σ' => (∃ p, pf = PF.ret p ∧ K p σ') ∨ (pf = PF.next ∧ K .none σ')
theorem bk_ret {p : PV} {ρ : List (Str × PV)} (h : K p σ) : BK K (.ret p) ρ σ := .inl ⟨p, rfl, h⟩
theorem bk_next {ρ : List (Str × PV)} (h : K .none σ) : BK K .next ρ σ := .inr ⟨rfl, h⟩

variable {f : Addr} {params : Arguments} {body : List Stmt} {scope : Scope}
theorem fn_enter1 {p1 : PV} {x1 : Str} (F : FnAt C f params body scope [])
    (hb : ∀ (name qual : Str) (kV doc pm : Value) (an : Option Addr) (cdv ct : Value) (v1 : Value), bindArgs (fnOf name qual params body scope .none kV doc pm an cdv ct) ⟨[v1], []⟩ = pure [(x1, v1)])
    (hloc : ∀ x ∈ [x1], scope.names.lookup x = some .local) (hcell : ∀ x ∈ scope.names, x.2 ≠ .cell)
    (h : ∀ L q cd, XS C n (mkEnv scope L f q cd) [(x1, p1)] σ body (BK K))
    (hco : scope.isCoroutine = false := by rfl) (hgen : scope.isGenerator = false := by rfl) (hk : scope.kind = .function := by rfl) : FN C (n + 1) f [p1] σ K :=
  fn_enter F (dargs := []) (xs := [x1]) (fun name qual dV kV doc pm an cdv ct vs s hl h0 _ => by
    obtain ⟨v1, rfl⟩ := len1 hl; cases h0 rfl
    exact ⟨[], rfl, .of_eq (hb ..)⟩) hloc hcell h hco hgen hk
theorem fn_enter2 {p1 p2 : PV} {x1 x2 : Str} (F : FnAt C f params body scope [])
    (hb : ∀ (name qual : Str) (kV doc pm : Value) (an : Option Addr) (cdv ct : Value) (v1 v2 : Value), bindArgs (fnOf name qual params body scope .none kV doc pm an cdv ct) ⟨[v1, v2], []⟩ = pure [(x1, v1), (x2, v2)])
    (hloc : ∀ x ∈ [x1, x2], scope.names.lookup x = some .local) (hcell : ∀ x ∈ scope.names, x.2 ≠ .cell)
    (h : ∀ L q cd, XS C n (mkEnv scope L f q cd) [(x2, p2), (x1, p1)] σ body (BK K))
    (hco : scope.isCoroutine = false := by rfl) (hgen : scope.isGenerator = false := by rfl) (hk : scope.kind = .function := by rfl) : FN C (n + 1) f [p1, p2] σ K :=
  fn_enter F (dargs := []) (xs := [x1, x2]) (fun name qual dV kV doc pm an cdv ct vs s hl h0 _ => by
    obtain ⟨v1, v2, rfl⟩ := len2 hl; cases h0 rfl
    exact ⟨[], rfl, .of_eq (hb ..)⟩) hloc hcell h hco hgen hk
theorem fn_enter4 {p1 p2 p3 p4 : PV} {x1 x2 x3 x4 : Str} (F : FnAt C f params body scope [])
    (hb : ∀ (name qual : Str) (kV doc pm : Value) (an : Option Addr) (cdv ct : Value) (v1 v2 v3 v4 : Value), bindArgs (fnOf name qual params body scope .none kV doc pm an cdv ct) ⟨[v1, v2, v3, v4], []⟩ = pure [(x1, v1), (x2, v2), (x3, v3), (x4, v4)])
    (hloc : ∀ x ∈ [x1, x2, x3, x4], scope.names.lookup x = some .local) (hcell : ∀ x ∈ scope.names, x.2 ≠ .cell)
    (h : ∀ L q cd, XS C n (mkEnv scope L f q cd) [(x4, p4), (x3, p3), (x2, p2), (x1, p1)] σ body (BK K))
    (hco : scope.isCoroutine = false := by rfl) (hgen : scope.isGenerator = false := by rfl) (hk : scope.kind = .function := by rfl) : FN C (n + 1) f [p1, p2, p3, p4] σ K :=
  fn_enter F (dargs := []) (xs := [x1, x2, x3, x4]) (fun name qual dV kV doc pm an cdv ct vs s hl h0 _ => by
    obtain ⟨v1, v2, v3, v4, rfl⟩ := len4 hl; cases h0 rfl
    exact ⟨[], rfl, .of_eq (hb ..)⟩) hloc hcell h hco hgen hk
theorem fn_enter3 {p1 p2 p3 : PV} {x1 x2 x3 : Str} (F : FnAt C f params body scope [])
    (hb : ∀ (name qual : Str) (kV doc pm : Value) (an : Option Addr) (cdv ct : Value) (v1 v2 v3 : Value), bindArgs (fnOf name qual params body scope .none kV doc pm an cdv ct) ⟨[v1, v2, v3], []⟩ = pure [(x1, v1), (x2, v2), (x3, v3)])
    (hloc : ∀ x ∈ [x1, x2, x3], scope.names.lookup x = some .local) (hcell : ∀ x ∈ scope.names, x.2 ≠ .cell)
    (h : ∀ L q cd, XS C n (mkEnv scope L f q cd) [(x3, p3), (x2, p2), (x1, p1)] σ body (BK K))
    (hco : scope.isCoroutine = false := by rfl) (hgen : scope.isGenerator = false := by rfl) (hk : scope.kind = .function := by rfl) : FN C (n + 1) f [p1, p2, p3] σ K :=
  fn_enter F (dargs := []) (xs := [x1, x2, x3]) (fun name qual dV kV doc pm an cdv ct vs s hl h0 _ => by
    obtain ⟨v1, v2, v3, rfl⟩ := len3 hl; cases h0 rfl
    exact ⟨[], rfl, .of_eq (hb ..)⟩) hloc hcell h hco hgen hk
theorem fn_enter5 {p1 p2 p3 p4 p5 : PV} {x1 x2 x3 x4 x5 : Str} (F : FnAt C f params body scope [])
    (hb : ∀ (name qual : Str) (kV doc pm : Value) (an : Option Addr) (cdv ct : Value) (v1 v2 v3 v4 v5 : Value), bindArgs (fnOf name qual params body scope .none kV doc pm an cdv ct) ⟨[v1, v2, v3, v4, v5], []⟩ = pure [(x1, v1), (x2, v2), (x3, v3), (x4, v4), (x5, v5)])
    (hloc : ∀ x ∈ [x1, x2, x3, x4, x5], scope.names.lookup x = some .local) (hcell : ∀ x ∈ scope.names, x.2 ≠ .cell)
    (h : ∀ L q cd, XS C n (mkEnv scope L f q cd) [(x5, p5), (x4, p4), (x3, p3), (x2, p2), (x1, p1)] σ body (BK K))
    (hco : scope.isCoroutine = false := by rfl) (hgen : scope.isGenerator = false := by rfl) (hk : scope.kind = .function := by rfl) : FN C (n + 1) f [p1, p2, p3, p4, p5] σ K :=
  fn_enter F (dargs := []) (xs := [x1, x2, x3, x4, x5]) (fun name qual dV kV doc pm an cdv ct vs s hl h0 _ => by
    obtain ⟨v1, v2, v3, v4, v5, rfl⟩ := len5 hl; cases h0 rfl
    exact ⟨[], rfl, .of_eq (hb ..)⟩) hloc hcell h hco hgen hk
theorem fn_enter6 {p1 p2 p3 p4 p5 p6 : PV} {x1 x2 x3 x4 x5 x6 : Str} (F : FnAt C f params body scope [])
    (hb : ∀ (name qual : Str) (kV doc pm : Value) (an : Option Addr) (cdv ct : Value) (v1 v2 v3 v4 v5 v6 : Value), bindArgs (fnOf name qual params body scope .none kV doc pm an cdv ct) ⟨[v1, v2, v3, v4, v5, v6], []⟩ = pure [(x1, v1), (x2, v2), (x3, v3), (x4, v4), (x5, v5), (x6, v6)])
    (hloc : ∀ x ∈ [x1, x2, x3, x4, x5, x6], scope.names.lookup x = some .local) (hcell : ∀ x ∈ scope.names, x.2 ≠ .cell)
    (h : ∀ L q cd, XS C n (mkEnv scope L f q cd) [(x6, p6), (x5, p5), (x4, p4), (x3, p3), (x2, p2), (x1, p1)] σ body (BK K))
    (hco : scope.isCoroutine = false := by rfl) (hgen : scope.isGenerator = false := by rfl) (hk : scope.kind = .function := by rfl) : FN C (n + 1) f [p1, p2, p3, p4, p5, p6] σ K :=
  fn_enter F (dargs := []) (xs := [x1, x2, x3, x4, x5, x6]) (fun name qual dV kV doc pm an cdv ct vs s hl h0 _ => by
    obtain ⟨v1, v2, v3, v4, v5, v6, rfl⟩ := len6 hl; cases h0 rfl
    exact ⟨[], rfl, .of_eq (hb ..)⟩) hloc hcell h hco hgen hk
/-- a body that gives nothing back on some ways: the invariant in the frame -/
theorem FN.nodup {args : List PV} (h : (foots σ).Nodup → FN C n f args σ K) : FN C n f args σ K := fun A W s vs R r I rl hk => h I.nodup A W s vs R r I rl hk
end Sol
end

open PySem PySem.W PySem.Calls PyProof.Rows
namespace Sol
section
variable {C : Cx} {n : Nat} {env : Env} {ρ : List (Str × PV)} {σ : Sig} {K : PV → Sig → Prop}

noncomputable abbrev tkPV (T : Ad) (t : Str × Str) (line : Int) : PV := .inst T.aTok tokNs [.str t.1, .str t.2, .none, .int line]
noncomputable def TokL (T : Ad) (ps : List PV) (ks : List (Str × Str)) : Prop := ps.length = ks.length ∧ ∀ (i : Nat) (t : Str × Str), ks[i]? = some t → ∃ line : Int, ps[i]? = some (tkPV T t line)
noncomputable abbrev curC (T : Ad) (d : Addr) (ps : List PV) (spot : Nat) (depth : Int) : Cell := .obj T.aCur d curNs [.list ps, .int spot, .int depth, .int 0]
/-- a cursor over tokens -/
structure IsCur (T : Ad) (ks : List (Str × Str)) (c d : Addr) (ps : List PV) (spot : Nat) (depth : Int) (σ : Sig) : Prop where
  hc : σ.lookup c = some (curC T d ps spot depth)
  tk : TokL T ps ks
  sz : ks.length ≤ 1000

theorem op_tok {T : Ad} (H : Tab C T) {x : Str} {p : PV} {ps : List PV} (hx : x ∈ tokNs) (hf : fieldOf tokNs ps x = some p) (h : K p σ) : OP1 C n σ (fun v => getAttr v x true) (.inst T.aTok tokNs ps) K :=
  op_attr_inst H.cTok.pl (H.fTok _ hx) hf h
theorem op_syn {T : Ad} (H : Tab C T) {x : Str} {p : PV} {ps : List PV} (hx : x ∈ synNs) (hf : fieldOf synNs ps x = some p) (h : K p σ) : OP1 C n σ (fun v => getAttr v x true) (.inst T.aSyn synNs ps) K :=
  op_attr_inst H.cSyn.pl (H.fSyn _ hx) hf h
theorem op_cur {T : Ad} (H : Tab C T) {ks : List (Str × Str)} {c d : Addr} {ts : List PV} {spot : Nat} {depth : Int} (G : IsCur T ks c d ts spot depth σ) {x : Str} {p : PV} (hx : x ∈ curNs) (hf : fieldOf curNs [.list ts, .int spot, .int depth, .int 0] x = some p) (h : K p σ) :
    OP1 C n σ (fun v => getAttr v x true) (.ref c) K :=
  op_attr_cell H.cCur.pl (H.fCur _ hx) G.hc hf h

theorem w_len {T : Ad} (H : Tab C T) {xp pos : Pos} {e : Expr} (h : ES C n env ρ σ pos [e] fun ps σ1 => CV C n σ1 (.builtin "len") ps K) (hf : env.scope.kind = .function) (hl : env.kindOf "len" = some .globalImplicit)
    (he : env.globals = mainGlobals) (hbu : env.builtins = builtinsNs) (hs : starEach [e] env = (false, PySem.eval e env) :: starEach [] env) : EV C n env ρ σ (.Call (.Name "len" xp) [e] [] pos) K :=
  ev_callB H.no_len rfl (by decide) h hf hl he hbu rfl ⟨_, _, rfl, hs, rfl⟩
theorem w_min {T : Ad} (H : Tab C T) {xp pos : Pos} {e e2 : Expr} (h : ES C n env ρ σ pos [e, e2] fun ps σ1 => CV C n σ1 (.builtin "min") ps K) (hf : env.scope.kind = .function) (hl : env.kindOf "min" = some .globalImplicit)
    (he : env.globals = mainGlobals) (hbu : env.builtins = builtinsNs) (hst : (backTo pos (starEach [e2] env)).any (·.1) = false) (hs : starEach [e, e2] env = (false, PySem.eval e env) :: starEach [e2] env) : EV C n env ρ σ (.Call (.Name "min" xp) [e, e2] [] pos) K :=
  ev_callB H.no_min rfl (by decide) h hf hl he hbu rfl ⟨_, _, rfl, hs, hst⟩
theorem xr_next {KS : PF → List (Str × PV) → Sig → Prop} {rest : List Stmt} (h : XS C n env ρ σ rest KS) : XR C n env rest KS .next ρ σ := h
theorem xr_ret {KS : PF → List (Str × PV) → Sig → Prop} {rest : List Stmt} {p : PV} (h : KS (.ret p) ρ σ) : XR C n env rest KS (.ret p) ρ σ := h
theorem xr_brk {KS : PF → List (Str × PV) → Sig → Prop} {rest : List Stmt} (h : KS .brk ρ σ) : XR C n env rest KS .brk ρ σ := h
theorem bex {b : Bool} {P : Bool → Prop} (h : P b) : ∃ b', PV.bool b = .bool b' ∧ P b' := ⟨b, rfl, h⟩

theorem bd_ret {rest : List Stmt} {J : List (Str × PV) → Sig → Prop} {KS : PF → List (Str × PV) → Sig → Prop} {p : PV} (h : KS (.ret p) ρ σ) : BodyK C n env rest J KS (.ret p) ρ σ := h
theorem bd_brk {rest : List Stmt} {J : List (Str × PV) → Sig → Prop} {KS : PF → List (Str × PV) → Sig → Prop} (h : XS C n env ρ σ rest KS) : BodyK C n env rest J KS .brk ρ σ := h
end
local macro_rules | `(tactic| walk_at "sol") => `(tactic| first
  | focus ((with_reducible refine ev_name (p := ?_) ?_ ?_ ?_ ?_ ?_); rotate_left; (· rfl); rotate_left; (· rfl); (· rfl); (· rfl))
  | focus ((with_reducible refine es_cons ?_ ?_); rotate_left; (· rfl))
  | with_reducible refine es_nil ?_
  | with_reducible refine ev_int ?_
  | with_reducible refine ev_str ?_
  | with_reducible refine ev_bool ?_
  | with_reducible refine ev_none ?_
  | focus ((with_reducible refine op_tok (p := ?_) ‹Tab _ _› (by simp [tokNs]) ?_ ?_); rotate_left; (· rfl); rotate_left)
  | focus ((with_reducible refine op_cur (p := ?_) ‹Tab _ _› ‹IsCur _ _ _ _ _ _ _ _› (by simp [curNs]) ?_ ?_); rotate_left; (· rfl); rotate_left)
  | focus ((with_reducible refine op_syn (p := ?_) ‹Tab _ _› (by simp [synNs]) ?_ ?_); rotate_left; (· rfl); rotate_left)
  | focus ((with_reducible refine ev_attr ?_ ?_); rotate_left; (· rfl))
  | with_reducible refine ev_bin ?_
  | with_reducible refine ev_un ?_
  | focus ((with_reducible refine ev_cmp ?_ ?_); rotate_left; (· rfl))
  | focus ((fail_if_success with_reducible refine ev_slice_str ?_ ?_); with_reducible refine ev_sub ?_)
  | with_reducible refine op_add_int ?_
  | with_reducible refine op_sub_int ?_
  | with_reducible refine op_neg ?_
  | with_reducible refine op_iadd_int ?_
  | with_reducible refine op_isub_int ?_
  | with_reducible refine op_eq_int ?_
  | with_reducible refine op_ne_int ?_
  | with_reducible refine op_lt_int ?_
  | with_reducible refine op_le_int ?_
  | with_reducible refine op_gt_int ?_
  | with_reducible refine op_ge_int ?_
  | with_reducible refine op_eq_str ?_
  | with_reducible refine op_ne_str ?_
  | with_reducible refine op_is_none ?_
  | with_reducible refine op_isNot_none ?_
  | with_reducible refine op_isNot_bool ?_
  | focus ((with_reducible refine w_len ‹Tab _ _› ?_ ?_ ?_ ?_ ?_ ?_); rotate_left; (· rfl); (· rfl); (· rfl); (· rfl); (· rfl))
  | focus ((with_reducible refine w_min ‹Tab _ _› ?_ ?_ ?_ ?_ ?_ ?_ ?_); rotate_left; (· rfl); (· rfl); (· rfl); (· rfl); (· rfl); (· rfl))
  | focus ((with_reducible refine ev_data (Tab.dWords ‹Tab _ _›) ?_ ?_ ?_ ?_ ?_); rotate_left; (· rfl); (· rfl); (· rfl); (· rfl))
  | with_reducible refine op_in_strs ?_
  | with_reducible refine x_return ?_
  | focus ((with_reducible refine x_assign ?_ ?_ ?_ ?_); rotate_left; (· rfl); (· rfl); (· rfl))
  | focus ((with_reducible refine x_expr ?_ ?_ ?_); rotate_left; (· rfl); (· rfl))
  | with_reducible refine x_if ?_
  | focus ((with_reducible refine x_aug (p := ?_) ?_ ?_ ?_ ?_); rotate_left; (· rfl); rotate_left; (· rfl); (· rfl))
  | focus ((with_reducible refine tb_cmp ?_ ?_); rotate_left; (· rfl))
  | with_reducible refine tb_not ?_
  | with_reducible refine tb_bool ?_
  | with_reducible refine bk_ret ?_
  | with_reducible refine x_nil ?_
  | with_reducible refine bk_next ?_
  | with_reducible refine xr_next ?_
  | with_reducible refine xr_ret ?_
  | with_reducible refine xr_brk ?_
  | with_reducible refine bd_ret ?_
  | with_reducible refine bd_brk ?_
  | with_reducible refine bex ?_)

section
variable {C : Cx} {n : Nat} {env : Env} {ρ : List (Str × PV)} {σ : Sig} {K : PV → Sig → Prop}
theorem lit {s : Stmt} {f : Addr} {dfl : List Value} {P : Prop} (F : FnAt C f (fPar s) (fBody s) (fScope s) dfl) (h : ∀ pa bo sc, pa = fPar s → bo = fBody s → sc = fScope s → FnAt C f pa bo sc dfl → P) : P := h _ _ _ rfl rfl rfl F
theorem loc2 {P : Str → Prop} {a b : Str} (h1 : P a) (h2 : P b) : ∀ x ∈ [a, b], P x := by
  intro x hx
  simp only [List.mem_cons, List.not_mem_nil, or_false] at hx
  rcases hx with rfl | rfl <;> assumption
theorem loc1 {P : Str → Prop} {a : Str} (h1 : P a) : ∀ x ∈ [a], P x := by
  intro x hx
  simp only [List.mem_cons, List.not_mem_nil, or_false] at hx
  subst hx; assumption
noncomputable def noCell (l : List (Str × NameKind)) : Bool := l.all fun x => match x.2 with | .cell => false | _ => true
theorem noCell_of {l : List (Str × NameKind)} (h : noCell l = true) : ∀ x ∈ l, x.2 ≠ .cell := by
  intro x hx e
  have := List.all_eq_true.mp h x hx
  rw [e] at this; cases this
noncomputable def allLoc (xs : List Str) (l : List (Str × NameKind)) : Bool := xs.all fun x => match l.lookup x with | some .local => true | _ => false
theorem allLoc_of {xs : List Str} {l : List (Str × NameKind)} (h : allLoc xs l = true) : ∀ x ∈ xs, l.lookup x = some .local := by
  intro x hx
  have := List.all_eq_true.mp h x hx
  revert this
  cases l.lookup x with
  | none => intro h; cases h
  | some k => cases k <;> first | (intro _; rfl) | (intro h; cases h)

theorem tok_at {T : Ad} {ps : List PV} {ks : List (Str × Str)} (ht : TokL T ps ks) {j : Nat} {t : Str × Str} {r : List (Str × Str)} (hd : ks.drop j = t :: r) : j < ps.length ∧ ∃ line : Int, ps[j]? = some (tkPV T t line) := by
  have h1 : ks[j]? = some t := by
    have := congrArg (fun l => l[0]?) hd
    simpa using this
  refine ⟨?_, ht.2 j t h1⟩
  rw [ht.1]
  exact (List.getElem?_eq_some_iff.mp h1).1

variable {T : Ad} {c d : Addr} {ps : List PV} {ks : List (Str × Str)} {spot : Nat} {depth : Int}

theorem peek_body (H : Tab C T) {ps : List PV} {ks : List (Str × Str)} {spot k : Nat} (G : IsCur T ks c d ps spot depth σ)
    {t : Str × Str} {r : List (Str × Str)} (hd : ks.drop (spot + k) = t :: r) {bo : List Stmt} {sc : Scope} (hb : bo = fBody (inCls (stAt 32) 1)) (hs : sc = fScope (inCls (stAt 32) 1)) (L : Addr) (q : Str) (cd : Value) :
    XS C 1 (mkEnv sc L T.mPeek q cd) [("ahead", .int k), ("self", .ref c)] σ bo (BK fun p σ' => (∃ line : Int, p = tkPV T t line) ∧ σ' = σ) := by
  conv at hb => rhs; whnf
  conv at hs => rhs; whnf
  subst hb hs
  obtain ⟨hj, line, hl⟩ := tok_at G.tk hd
  have hps : ps.length ≤ 1000 := by rw [G.tk.1]; exact G.sz
  repeat (walk_at "sol")
  refine cv_len_list ?_ ?_; omega
  repeat (walk_at "sol")
  refine cv_min ?_
  rw [if_neg (by omega)]
  refine op_item_list (by omega) (by omega) (p := tkPV T t line) ?_ (bk_ret ⟨⟨line, rfl⟩, rfl⟩)
  rw [show ((spot : Int) + (k : Int)).toNat = spot + k by omega]
  exact hl

theorem fn_peek (hn : 2 ≤ n) (H : Tab C T) {k : Nat} (G : IsCur T ks c d ps spot depth σ)
    {t : Str × Str} {r : List (Str × Str)} (hd : ks.drop (spot + k) = t :: r) : FN C n T.mPeek [.ref c, .int k] σ fun p σ' => (∃ line : Int, p = tkPV T t line) ∧ σ' = σ := by
  refine FN.le ?_ hn
  refine fn_enter (dargs := []) (xs := ["self", "ahead"]) H.mPeek.fn ?_ (allLoc_of rfl) (noCell_of rfl) (fun L q cd => peek_body H G hd rfl rfl L q cd)
  intro name qual dV kV doc pm an cdv ct vs s hl h0 h1
  obtain ⟨v1, v2, rfl⟩ := len2 hl
  obtain ⟨T', oT, k', rfl, h2, h3⟩ := h1 (by simp)
  exact ⟨[], rfl, .of_defaults rfl h2 h3 rfl rfl⟩
theorem fn_peek0 (hn : 2 ≤ n) (H : Tab C T) (G : IsCur T ks c d ps spot depth σ)
    {t : Str × Str} {r : List (Str × Str)} (hd : ks.drop spot = t :: r) : FN C n T.mPeek [.ref c] σ fun p σ' => (∃ line : Int, p = tkPV T t line) ∧ σ' = σ := by
  refine FN.le ?_ hn
  refine fn_enter (dargs := [.int 0]) (xs := ["self", "ahead"]) H.mPeek.fn ?_ (allLoc_of rfl) (noCell_of rfl) (fun L q cd => peek_body (k := 0) H G hd rfl rfl L q cd)
  intro name qual dV kV doc pm an cdv ct vs s hl h0 h1
  obtain ⟨v1, rfl⟩ := len1 hl
  obtain ⟨T', oT, k', rfl, h2, h3⟩ := h1 (by simp)
  exact ⟨[.int 0 T.tPeek], .cons ⟨_, rfl⟩ .nil, .of_defaults rfl h2 h3 rfl rfl⟩

noncomputable def isB (t : Str × Str) (x : Str) : Bool := t.2 == x && wordL.any (· == t.1)

/-- a method of the cursor -/
theorem ev_curm {o : Expr} {x : Str} {apos pos : Pos} {es : List Expr} {m : Addr} {dfl : List Value} {s : Stmt} (H : Tab C T) (M : MethAt C T.aCur m x s dfl) (hx : x ∉ curNs) (G : IsCur T ks c d ps spot depth σ)
    (ho : ∀ K' : PV → Sig → Prop, K' (.ref c) σ → EV C n env ρ σ o K')
    (h : ES C n env ρ σ pos es fun qs σ2 => FN C n m (.ref c :: qs) σ2 K)
    (hbase : attributeBase o x env (PySem.eval o env) = PySem.eval o env) (hline : (apos.endLine == pos.line) = true) (hst : ∀ e ∈ es, ∀ x p, e ≠ .Starred x p)
    (hfew : methodCallForm (es.length + ([] : List Keyword).length) (backTo pos (starEach es env)) (backToKw pos (keywordEach [] env)) = true) :
    EV C n env ρ σ (.Call (.Attribute o x apos) es [] pos) K :=
  ev_callm (ho _ ⟨c, T.aCur, d, curNs, _, m, rfl, G.hc, hx, H.cCur.pl, M.me, h.mono fun qs σ2 hf => cv_fn hf⟩) hbase hline hst hfew

end
local macro_rules | `(tactic| walk_at "cur") => `(tactic| first
  | focus ((with_reducible refine ev_curm ‹Tab _ _› (Tab.mPeek ‹Tab _ _›) (by decide) ‹IsCur _ _ _ _ _ _ _ _› (fun _ h => ev_name ?_ h ?_ ?_ ?_) ?_ ?_ ?_ (by simp) ?_); (· rfl); (· rfl); (· rfl); (· rfl); rotate_left; (· rfl); (· rfl); (· rfl))
  | focus ((with_reducible refine ev_curm ‹Tab _ _› (Tab.mBehind ‹Tab _ _›) (by decide) ‹IsCur _ _ _ _ _ _ _ _› (fun _ h => ev_name ?_ h ?_ ?_ ?_) ?_ ?_ ?_ (by simp) ?_); (· rfl); (· rfl); (· rfl); (· rfl); rotate_left; (· rfl); (· rfl); (· rfl))
  | focus ((with_reducible refine ev_curm ‹Tab _ _› (Tab.mAt ‹Tab _ _›) (by decide) ‹IsCur _ _ _ _ _ _ _ _› (fun _ h => ev_name ?_ h ?_ ?_ ?_) ?_ ?_ ?_ (by simp) ?_); (· rfl); (· rfl); (· rfl); (· rfl); rotate_left; (· rfl); (· rfl); (· rfl))
  | focus ((with_reducible refine ev_curm ‹Tab _ _› (Tab.mTake ‹Tab _ _›) (by decide) ‹IsCur _ _ _ _ _ _ _ _› (fun _ h => ev_name ?_ h ?_ ?_ ?_) ?_ ?_ ?_ (by simp) ?_); (· rfl); (· rfl); (· rfl); (· rfl); rotate_left; (· rfl); (· rfl); (· rfl))
  | focus ((with_reducible refine ev_curm ‹Tab _ _› (Tab.mAccept ‹Tab _ _›) (by decide) ‹IsCur _ _ _ _ _ _ _ _› (fun _ h => ev_name ?_ h ?_ ?_ ?_) ?_ ?_ ?_ (by simp) ?_); (· rfl); (· rfl); (· rfl); (· rfl); rotate_left; (· rfl); (· rfl); (· rfl))
  | focus ((with_reducible refine ev_curm ‹Tab _ _› (Tab.mExpect ‹Tab _ _›) (by decide) ‹IsCur _ _ _ _ _ _ _ _› (fun _ h => ev_name ?_ h ?_ ?_ ?_) ?_ ?_ ?_ (by simp) ?_); (· rfl); (· rfl); (· rfl); (· rfl); rotate_left; (· rfl); (· rfl); (· rfl))
  | focus ((with_reducible refine ev_curm ‹Tab _ _› (Tab.mLine ‹Tab _ _›) (by decide) ‹IsCur _ _ _ _ _ _ _ _› (fun _ h => ev_name ?_ h ?_ ?_ ?_) ?_ ?_ ?_ (by simp) ?_); (· rfl); (· rfl); (· rfl); (· rfl); rotate_left; (· rfl); (· rfl); (· rfl))
  | focus ((with_reducible refine ev_curm ‹Tab _ _› (Tab.mEnter ‹Tab _ _›) (by decide) ‹IsCur _ _ _ _ _ _ _ _› (fun _ h => ev_name ?_ h ?_ ?_ ?_) ?_ ?_ ?_ (by simp) ?_); (· rfl); (· rfl); (· rfl); (· rfl); rotate_left; (· rfl); (· rfl); (· rfl))
  | focus ((with_reducible refine ev_curm ‹Tab _ _› (Tab.mLeave ‹Tab _ _›) (by decide) ‹IsCur _ _ _ _ _ _ _ _› (fun _ h => ev_name ?_ h ?_ ?_ ?_) ?_ ?_ ?_ (by simp) ?_); (· rfl); (· rfl); (· rfl); (· rfl); rotate_left; (· rfl); (· rfl); (· rfl)))

section
variable {C : Cx} {n : Nat} {env : Env} {ρ : List (Str × PV)} {σ : Sig} {K : PV → Sig → Prop}
variable {T : Ad} {c d : Addr} {ps : List PV} {ks : List (Str × Str)} {spot : Nat} {depth : Int}
theorem fn_isB (hn : 3 ≤ n) (H : Tab C T) {k : Nat} {x : Str} (G : IsCur T ks c d ps spot depth σ)
    {t : Str × Str} {r : List (Str × Str)} (hd : ks.drop (spot + k) = t :: r) : FN C n T.mBehind [.ref c, .str x, .int k] σ fun p σ' => p = .bool (isB t x) ∧ σ' = σ := by
  refine FN.le ?_ hn
  refine lit H.mBehind.fn fun pa bo sc hp hb hs F => ?_
  conv at hp => rhs; whnf
  conv at hb => rhs; whnf
  conv at hs => rhs; whnf
  subst hp hb hs
  refine fn_enter3 (x1 := "self") (x2 := "text") (x3 := "ahead") F (fun _ _ _ _ _ _ _ _ _ _ _ => rfl) (allLoc_of rfl) (noCell_of rfl) fun L q cd => ?_
  walk_at "sol"
  walk_at "cur"
  repeat (walk_at "sol")
  refine (fn_peek (by omega) H G hd).mono ?_
  rintro _ _ ⟨⟨line, rfl⟩, rfl⟩
  walk_at "sol"
  refine ev_and ?_
  repeat (walk_at "sol")
  refine ⟨fun ht => ?_, fun ht => ?_⟩
  · repeat (walk_at "sol")
    refine ⟨?_, rfl⟩
    unfold isB; rw [ht]; rfl
  · refine bk_ret ⟨?_, rfl⟩
    unfold isB; rw [ht]; rfl
theorem fn_at (hn : 3 ≤ n) (H : Tab C T) {x : Str} (G : IsCur T ks c d ps spot depth σ)
    {t : Str × Str} {r : List (Str × Str)} (hd : ks.drop spot = t :: r) : FN C n T.mAt [.ref c, .str x] σ fun p σ' => p = .bool (isB t x) ∧ σ' = σ := by
  refine FN.le ?_ hn
  refine lit H.mAt.fn fun pa bo sc hp hb hs F => ?_
  conv at hp => rhs; whnf
  conv at hb => rhs; whnf
  conv at hs => rhs; whnf
  subst hp hb hs
  refine fn_enter2 (x1 := "self") (x2 := "text") F (fun _ _ _ _ _ _ _ _ _ _ => rfl) (allLoc_of rfl) (noCell_of rfl) fun L q cd => ?_
  walk_at "sol"
  walk_at "cur"
  repeat (walk_at "sol")
  refine (fn_peek0 (by omega) H G hd).mono ?_
  rintro _ _ ⟨⟨line, rfl⟩, rfl⟩
  walk_at "sol"
  refine ev_and ?_
  repeat (walk_at "sol")
  refine ⟨fun ht => ?_, fun ht => ?_⟩
  · repeat (walk_at "sol")
    refine ⟨?_, rfl⟩
    unfold isB; rw [ht]; rfl
  · refine bk_ret ⟨?_, rfl⟩
    unfold isB; rw [ht]; rfl
end

section
variable {C : Cx} {n : Nat} {env : Env} {ρ : List (Str × PV)} {σ : Sig} {K : PV → Sig → Prop}
variable {T : Ad} {c d : Addr} {ps : List PV} {ks : List (Str × Str)} {spot : Nat} {depth : Int}

theorem IsCur.upd (G : IsCur T ks c d ps spot depth σ) (spot' : Nat) (depth' : Int) : IsCur T ks c d ps spot' depth' (upd σ c (curC T d ps spot' depth')) := ⟨lookup_upd G.hc, G.tk, G.sz⟩
theorem drop_len {α : Type} {l : List α} {i : Nat} {a : α} {r : List α} (h : l.drop i = a :: r) : i + 1 + r.length = l.length := by
  have h1 := congrArg List.length h
  rw [List.length_drop, List.length_cons] at h1
  omega
theorem drop_succ {α : Type} {l : List α} {i : Nat} {a : α} {r : List α} (h : l.drop i = a :: r) : l.drop (i + 1) = r := by
  rw [← List.drop_drop, h]; rfl

theorem fn_take (hn : 3 ≤ n) (H : Tab C T) (G : IsCur T ks c d ps spot depth σ)
    {t u : Str × Str} {r : List (Str × Str)} (hd : ks.drop spot = t :: u :: r) : FN C n T.mTake [.ref c] σ fun p σ' => (∃ line : Int, p = tkPV T t line) ∧ σ' = upd σ c (curC T d ps (spot + 1) depth) := by
  refine FN.le ?_ hn
  refine lit H.mTake.fn fun pa bo sc hp hb hs F => ?_
  conv at hp => rhs; whnf
  conv at hb => rhs; whnf
  conv at hs => rhs; whnf
  subst hp hb hs
  have hl := drop_len hd
  have hps : ps.length = ks.length := G.tk.1
  have hz := G.sz
  rw [List.length_cons] at hl
  refine fn_enter1 (x1 := "self") F (fun _ _ _ _ _ _ _ _ _ => rfl) (allLoc_of rfl) (noCell_of rfl) fun L q cd => ?_
  walk_at "sol"
  walk_at "cur"
  repeat (walk_at "sol")
  refine (fn_peek0 (by omega) H G hd).mono ?_
  rintro _ _ ⟨⟨line, rfl⟩, rfl⟩
  repeat (walk_at "sol")
  refine cv_len_list (by omega) ?_
  repeat (walk_at "sol")
  refine ⟨fun _ => ?_, fun h => ?_⟩
  · refine x_augattr ?_
    repeat (walk_at "sol")
    refine ⟨c, rfl, ?_⟩
    repeat (walk_at "sol")
    refine ⟨T.aCur, d, curNs, _, G.hc, by decide, H.cCur.pl, H.fCur _ (by simp [curNs]), ?_⟩
    repeat (walk_at "sol")
    exact ⟨⟨line, rfl⟩, rfl⟩
  · exfalso
    have := of_decide_eq_false h
    omega
theorem fn_line (hn : 3 ≤ n) (H : Tab C T) (G : IsCur T ks c d ps spot depth σ)
    {t : Str × Str} {r : List (Str × Str)} (hd : ks.drop spot = t :: r) : FN C n T.mLine [.ref c] σ fun p σ' => (∃ line : Int, p = .int line) ∧ σ' = σ := by
  refine FN.le ?_ hn
  refine lit H.mLine.fn fun pa bo sc hp hb hs F => ?_
  conv at hp => rhs; whnf
  conv at hb => rhs; whnf
  conv at hs => rhs; whnf
  subst hp hb hs
  refine fn_enter1 (x1 := "self") F (fun _ _ _ _ _ _ _ _ _ => rfl) (allLoc_of rfl) (noCell_of rfl) fun L q cd => ?_
  walk_at "sol"
  walk_at "sol"
  walk_at "cur"
  repeat (walk_at "sol")
  refine (fn_peek0 (by omega) H G hd).mono ?_
  rintro _ _ ⟨⟨line, rfl⟩, rfl⟩
  repeat (walk_at "sol")
  exact ⟨⟨line, rfl⟩, rfl⟩

theorem fn_accept_no (hn : 4 ≤ n) (H : Tab C T) {x : Str} (G : IsCur T ks c d ps spot depth σ)
    {t : Str × Str} {r : List (Str × Str)} (hd : ks.drop spot = t :: r) (hb : isB t x = false) : FN C n T.mAccept [.ref c, .str x] σ fun p σ' => p = .bool false ∧ σ' = σ := by
  refine FN.le ?_ hn
  refine lit H.mAccept.fn fun pa bo sc hp hb hs F => ?_
  conv at hp => rhs; whnf
  conv at hb => rhs; whnf
  conv at hs => rhs; whnf
  subst hp hb hs
  refine fn_enter2 (x1 := "self") (x2 := "text") F (fun _ _ _ _ _ _ _ _ _ _ => rfl) (allLoc_of rfl) (noCell_of rfl) fun L q cd => ?_
  repeat (walk_at "sol")
  refine tb_plain ?_
  walk_at "cur"
  repeat (walk_at "sol")
  refine (fn_at (by omega) H G hd).mono ?_
  rintro _ _ ⟨rfl, rfl⟩
  refine bex ⟨fun _ => ?_, fun h => ?_⟩
  · repeat (walk_at "sol")
    exact ⟨rfl, rfl⟩
  · rw [hb] at h; cases h
theorem fn_accept_yes (hn : 4 ≤ n) (H : Tab C T) {x : Str} (G : IsCur T ks c d ps spot depth σ)
    {t u : Str × Str} {r : List (Str × Str)} (hd : ks.drop spot = t :: u :: r) (hb : isB t x = true) : FN C n T.mAccept [.ref c, .str x] σ fun p σ' => p = .bool true ∧ σ' = upd σ c (curC T d ps (spot + 1) depth) := by
  refine FN.le ?_ hn
  refine lit H.mAccept.fn fun pa bo sc hp hb hs F => ?_
  conv at hp => rhs; whnf
  conv at hb => rhs; whnf
  conv at hs => rhs; whnf
  subst hp hb hs
  refine fn_enter2 (x1 := "self") (x2 := "text") F (fun _ _ _ _ _ _ _ _ _ _ => rfl) (allLoc_of rfl) (noCell_of rfl) fun L q cd => ?_
  repeat (walk_at "sol")
  refine tb_plain ?_
  walk_at "cur"
  repeat (walk_at "sol")
  refine (fn_at (by omega) H G hd).mono ?_
  rintro _ _ ⟨rfl, rfl⟩
  refine bex ⟨fun h => ?_, fun _ => ?_⟩
  · rw [hb] at h; cases h
  · repeat (walk_at "sol")
    walk_at "cur"
    repeat (walk_at "sol")
    refine (fn_take (by omega) H G hd).mono ?_
    rintro _ _ ⟨_, rfl⟩
    repeat (walk_at "sol")
    exact ⟨rfl, rfl⟩
theorem fn_expect (hn : 4 ≤ n) (H : Tab C T) {x : Str} (G : IsCur T ks c d ps spot depth σ)
    {t u : Str × Str} {r : List (Str × Str)} (hd : ks.drop spot = t :: u :: r) (hb : isB t x = true) : FN C n T.mExpect [.ref c, .str x] σ fun p σ' => (∃ line : Int, p = tkPV T t line) ∧ σ' = upd σ c (curC T d ps (spot + 1) depth) := by
  refine FN.le ?_ hn
  refine lit H.mExpect.fn fun pa bo sc hp hb hs F => ?_
  conv at hp => rhs; whnf
  conv at hb => rhs; whnf
  conv at hs => rhs; whnf
  subst hp hb hs
  refine fn_enter2 (x1 := "self") (x2 := "text") F (fun _ _ _ _ _ _ _ _ _ _ => rfl) (allLoc_of rfl) (noCell_of rfl) fun L q cd => ?_
  repeat (walk_at "sol")
  refine tb_plain ?_
  walk_at "cur"
  repeat (walk_at "sol")
  refine (fn_at (by omega) H G hd).mono ?_
  rintro _ _ ⟨rfl, rfl⟩
  refine bex ⟨fun h => ?_, fun _ => ?_⟩
  · rw [hb] at h; cases h
  · repeat (walk_at "sol")
    walk_at "cur"
    repeat (walk_at "sol")
    refine (fn_take (by omega) H G hd).mono ?_
    rintro _ _ ⟨⟨line, rfl⟩, rfl⟩
    repeat (walk_at "sol")
    exact ⟨⟨line, rfl⟩, rfl⟩
theorem fn_expect_name (hn : 4 ≤ n) (H : Tab C T) {a : Addr} (M : MethAt C T.aCur a "expect_name" (inCls (stAt 32) 8) []) {x : Str} (G : IsCur T ks c d ps spot depth σ)
    {t u : Str × Str} {r : List (Str × Str)} (hd : ks.drop spot = t :: u :: r) (hb : t.1 = "name") : FN C n a [.ref c, .str x] σ fun p σ' => p = .str t.2 ∧ σ' = upd σ c (curC T d ps (spot + 1) depth) := by
  refine FN.le ?_ hn
  refine lit M.fn fun pa bo sc hp hb hs F => ?_
  conv at hp => rhs; whnf
  conv at hb => rhs; whnf
  conv at hs => rhs; whnf
  subst hp hb hs
  refine fn_enter2 (x1 := "self") (x2 := "word") F (fun _ _ _ _ _ _ _ _ _ _ => rfl) (allLoc_of rfl) (noCell_of rfl) fun L q cd => ?_
  repeat (walk_at "sol")
  walk_at "cur"
  repeat (walk_at "sol")
  refine (fn_peek0 (by omega) H G hd).mono ?_
  rintro _ _ ⟨⟨line, rfl⟩, rfl⟩
  repeat (walk_at "sol")
  refine ⟨fun h => ?_, fun _ => ?_⟩
  · rw [hb] at h; exact absurd h (by decide)
  · repeat (walk_at "sol")
    walk_at "cur"
    repeat (walk_at "sol")
    refine (fn_take (by omega) H G hd).mono ?_
    rintro _ _ ⟨⟨line, rfl⟩, rfl⟩
    repeat (walk_at "sol")
    exact ⟨rfl, rfl⟩
theorem fn_enterM (hn : 2 ≤ n) (H : Tab C T) (G : IsCur T ks c d ps spot depth σ) (hd : depth + 1 ≤ 80) :
    FN C n T.mEnter [.ref c] σ fun p σ' => σ' = upd σ c (curC T d ps spot (depth + 1)) := by
  refine FN.le ?_ hn
  refine lit H.mEnter.fn fun pa bo sc hp hb hs F => ?_
  conv at hp => rhs; whnf
  conv at hb => rhs; whnf
  conv at hs => rhs; whnf
  subst hp hb hs
  refine fn_enter1 (x1 := "self") F (fun _ _ _ _ _ _ _ _ _ => rfl) (allLoc_of rfl) (noCell_of rfl) fun L q cd => ?_
  refine x_augattr ?_
  repeat (walk_at "sol")
  refine ⟨c, rfl, ?_⟩
  repeat (walk_at "sol")
  refine ⟨T.aCur, d, curNs, _, G.hc, by decide, H.cCur.pl, H.fCur _ (by simp [curNs]), ?_⟩
  have G' := G.upd spot (depth + 1)
  change XS C _ _ _ (upd σ c (curC T d ps spot (depth + 1))) _ _
  clear G
  repeat (walk_at "sol")
  refine ev_data H.dNested ?_ rfl rfl rfl rfl
  repeat (walk_at "sol")
  refine ⟨fun h => ?_, fun _ => ?_⟩
  · have := of_decide_eq_true h; omega
  · repeat (walk_at "sol")
    rfl
theorem fn_leave (hn : 2 ≤ n) (H : Tab C T) (G : IsCur T ks c d ps spot depth σ) :
    FN C n T.mLeave [.ref c] σ fun p σ' => σ' = upd σ c (curC T d ps spot (depth - 1)) := by
  refine FN.le ?_ hn
  refine lit H.mLeave.fn fun pa bo sc hp hb hs F => ?_
  conv at hp => rhs; whnf
  conv at hb => rhs; whnf
  conv at hs => rhs; whnf
  subst hp hb hs
  refine fn_enter1 (x1 := "self") F (fun _ _ _ _ _ _ _ _ _ => rfl) (allLoc_of rfl) (noCell_of rfl) fun L q cd => ?_
  refine x_augattr ?_
  repeat (walk_at "sol")
  refine ⟨c, rfl, ?_⟩
  repeat (walk_at "sol")
  refine ⟨T.aCur, d, curNs, _, G.hc, by decide, H.cCur.pl, H.fCur _ (by simp [curNs]), ?_⟩
  change XS C _ _ _ (upd σ c (curC T d ps spot (depth - 1))) _ _
  repeat (walk_at "sol")
  rfl

theorem x_initattr {KS : PF → List (Str × PV) → Sig → Prop} {a k d : Addr} {ns : List Str} {xs : List PV} {x s : Str} {sp ap pos : Pos} {ex : Expr} {rest : List Stmt} (ha : a ∉ foots σ) (P : Plain C k) (F : Field C k x) (hns : ns.length ≤ 100)
    (hs : swapsWith ex (some (.Attribute (.Name s sp) x ap)) pos.line env = pure false)
    (ho : ∀ (σ' : Sig) (K' : PV → Sig → Prop), K' (.ref a) σ' → EV C n env ρ σ' (.Name s sp) K')
    (h : EV C n env ρ ((a, .obj k d ns xs) :: σ) ex fun q σ1 => ∃ σ2, σ1 = (a, .obj k d ns xs) :: σ2 ∧ a ∉ foots σ2 ∧ XS C n env ρ ((a, .obj k d (putF ns xs x q).1 (putF ns xs x q).2) :: σ2) rest KS) :
    XS C n env ρ ((a, .obj k d ns xs) :: σ) (.Assign [.Attribute (.Name s sp) x ap] ex pos :: rest) KS :=
  x_setattr (h.mono fun q σ1 ⟨σ2, e, hn, hx⟩ => by
    subst e
    exact ho _ _ ⟨a, k, d, ns, xs, rfl, lookup_cons_eq, hns, P, F, by rw [upd_head hn]; exact hx⟩) hs

theorem cv_Token (hn : 3 ≤ n) (H : Tab C T) {t : Str × Str} {line : Int} (h : K (tkPV T t line) σ) : CV C n σ (.ref T.aTok) [.str t.1, .str t.2, .none, .int line] K := by
  obtain ⟨m, rfl⟩ : ∃ m, n = m + 1 := ⟨n - 1, by omega⟩
  refine cv_cls_ice H.cTok.cl fun a d ha hd had => ?_
  refine FN.le ?_ (show 2 ≤ m by omega)
  refine lit H.cTok.fn fun pa bo sc hp hb hs F => ?_
  conv at hp => rhs; whnf
  conv at hb => rhs; whnf
  conv at hs => rhs; whnf
  subst hp hb hs
  refine fn_enter5 (x1 := "self") (x2 := "kind") (x3 := "text") (x4 := "value") (x5 := "line") F (fun _ _ _ _ _ _ _ _ _ _ _ _ _ => rfl) (allLoc_of rfl) (noCell_of rfl) fun L q cd => ?_
  refine x_initattr ha H.cTok.pl (H.fTok _ (by simp [tokNs])) (by decide) rfl (fun _ _ h => ev_name rfl h rfl rfl rfl) ?_
  repeat (walk_at "sol")
  refine ⟨σ, rfl, ha, ?_⟩
  change XS C _ _ _ ((a, .obj _ d ["kind"] [.str t.1]) :: σ) _ _
  refine x_initattr ha H.cTok.pl (H.fTok _ (by simp [tokNs])) (by decide) rfl (fun _ _ h => ev_name rfl h rfl rfl rfl) ?_
  repeat (walk_at "sol")
  refine ⟨σ, rfl, ha, ?_⟩
  change XS C _ _ _ ((a, .obj _ d ["kind", "text"] [.str t.1, .str t.2]) :: σ) _ _
  refine x_initattr ha H.cTok.pl (H.fTok _ (by simp [tokNs])) (by decide) rfl (fun _ _ h => ev_name rfl h rfl rfl rfl) ?_
  repeat (walk_at "sol")
  refine ⟨σ, rfl, ha, ?_⟩
  change XS C _ _ _ ((a, .obj _ d ["kind", "text", "value"] [.str t.1, .str t.2, .none]) :: σ) _ _
  refine x_initattr ha H.cTok.pl (H.fTok _ (by simp [tokNs])) (by decide) rfl (fun _ _ h => ev_name rfl h rfl rfl rfl) ?_
  repeat (walk_at "sol")
  refine ⟨σ, rfl, ha, ?_⟩
  change XS C _ _ _ ((a, .obj _ d ["kind", "text", "value", "line"] [.str t.1, .str t.2, .none, .int line]) :: σ) _ _
  repeat (walk_at "sol")
  exact ⟨rfl, _, _, _, rfl, h⟩

theorem cv_Cursor (hn : 3 ≤ n) (H : Tab C T) (ht : TokL T ps ks) (hz : ks.length ≤ 1000) (h : ∀ a d, a ∉ foots σ → IsCur T ks a d ps 0 0 ((a, curC T d ps 0 0) :: σ) → K (.ref a) ((a, curC T d ps 0 0) :: σ)) : CV C n σ (.ref T.aCur) [.list ps] K := by
  obtain ⟨m, rfl⟩ : ∃ m, n = m + 1 := ⟨n - 1, by omega⟩
  refine cv_cls H.cCur.cl fun a d ha hd had => ?_
  refine FN.le ?_ (show 2 ≤ m by omega)
  refine lit H.cCur.fn fun pa bo sc hp hb hs F => ?_
  conv at hp => rhs; whnf
  conv at hb => rhs; whnf
  conv at hs => rhs; whnf
  subst hp hb hs
  refine fn_enter2 (x1 := "self") (x2 := "tokens") F (fun _ _ _ _ _ _ _ _ _ _ => rfl) (allLoc_of rfl) (noCell_of rfl) fun L q cd => ?_
  refine x_initattr ha H.cCur.pl (H.fCur _ (by simp [curNs])) (by decide) rfl (fun _ _ h => ev_name rfl h rfl rfl rfl) ?_
  repeat (walk_at "sol")
  refine ⟨σ, rfl, ha, ?_⟩
  change XS C _ _ _ ((a, .obj _ d ["tokens"] [.list ps]) :: σ) _ _
  refine x_initattr ha H.cCur.pl (H.fCur _ (by simp [curNs])) (by decide) rfl (fun _ _ h => ev_name rfl h rfl rfl rfl) ?_
  repeat (walk_at "sol")
  refine ⟨σ, rfl, ha, ?_⟩
  change XS C _ _ _ ((a, .obj _ d ["tokens", "spot"] [.list ps, .int 0]) :: σ) _ _
  refine x_initattr ha H.cCur.pl (H.fCur _ (by simp [curNs])) (by decide) rfl (fun _ _ h => ev_name rfl h rfl rfl rfl) ?_
  repeat (walk_at "sol")
  refine ⟨σ, rfl, ha, ?_⟩
  change XS C _ _ _ ((a, .obj _ d ["tokens", "spot", "depth"] [.list ps, .int 0, .int 0]) :: σ) _ _
  refine x_initattr ha H.cCur.pl (H.fCur _ (by simp [curNs])) (by decide) rfl (fun _ _ h => ev_name rfl h rfl rfl rfl) ?_
  repeat (walk_at "sol")
  refine ⟨σ, rfl, ha, ?_⟩
  change XS C _ _ _ ((a, .obj _ d ["tokens", "spot", "depth", "choices"] [.list ps, .int 0, .int 0, .int 0]) :: σ) _ _
  repeat (walk_at "sol")
  exact ⟨rfl, h a d ha ⟨lookup_cons_eq, ht, hz⟩⟩
end

section
variable {C : Cx} {n : Nat} {env : Env} {ρ : List (Str × PV)} {σ : Sig} {K : PV → Sig → Prop}
variable {T : Ad} {c d : Addr} {ps : List PV} {ks : List (Str × Str)} {spot : Nat} {depth : Int}

noncomputable abbrev synPV (T : Ad) (k : Str) (line : Int) (name : Str) (kids : List PV) (more : PV) (h : Int) : PV := .inst T.aSyn synNs [.str k, .int line, .str name, .list kids, more, .int h]
noncomputable def hgt (kh : List Int) : Int := kh.foldl (fun m h => if m ≤ h then h + 1 else m) 1
theorem hgt_succ (kh : List Int) (i : Nat) (h : i < kh.length) : hgt (kh.take (i + 1)) = if hgt (kh.take i) ≤ kh[i] then kh[i] + 1 else hgt (kh.take i) := by
  unfold hgt
  rw [List.take_succ_eq_append_getElem h, List.foldl_append]; rfl
theorem cv_Syn (hn : 3 ≤ n) (H : Tab C T) {k name : Str} {line : Int} {kids : List PV} {more : PV} {kh : List Int} (hk : ∀ i : Nat, ∀ q, kids[i]? = some q → ∃ h x1 x2 x3 x4 x5, kh[i]? = some h ∧ q = .inst T.aSyn synNs [x1, x2, x3, x4, x5, .int h])
    (hlen : kids.length = kh.length) (h120 : hgt kh ≤ 120) (h : K (synPV T k line name kids more (hgt kh)) σ) : CV C n σ (.ref T.aSyn) [.str k, .int line, .str name, .list kids, more] K := by
  obtain ⟨m, rfl⟩ : ∃ m, n = m + 1 := ⟨n - 1, by omega⟩
  refine cv_cls_ice H.cSyn.cl fun a d ha hd had => ?_
  refine FN.le ?_ (show 2 ≤ m by omega)
  refine lit H.cSyn.fn fun pa bo sc hp hb hs F => ?_
  conv at hp => rhs; whnf
  conv at hb => rhs; whnf
  conv at hs => rhs; whnf
  subst hp hb hs
  refine fn_enter6 (x1 := "self") (x2 := "kind") (x3 := "line") (x4 := "name") (x5 := "kids") (x6 := "more") F (fun _ _ _ _ _ _ _ _ _ _ _ _ _ _ => rfl) (allLoc_of rfl) (noCell_of rfl) fun L q cd => ?_
  refine x_initattr ha H.cSyn.pl (H.fSyn _ (by simp [synNs])) (by decide) rfl (fun _ _ h => ev_name rfl h rfl rfl rfl) ?_
  repeat (walk_at "sol")
  refine ⟨σ, rfl, ha, ?_⟩
  change XS C _ _ _ ((a, .obj _ d ["kind"] [.str k]) :: σ) _ _
  refine x_initattr ha H.cSyn.pl (H.fSyn _ (by simp [synNs])) (by decide) rfl (fun _ _ h => ev_name rfl h rfl rfl rfl) ?_
  repeat (walk_at "sol")
  refine ⟨σ, rfl, ha, ?_⟩
  change XS C _ _ _ ((a, .obj _ d ["kind", "line"] [.str k, .int line]) :: σ) _ _
  refine x_initattr ha H.cSyn.pl (H.fSyn _ (by simp [synNs])) (by decide) rfl (fun _ _ h => ev_name rfl h rfl rfl rfl) ?_
  repeat (walk_at "sol")
  refine ⟨σ, rfl, ha, ?_⟩
  change XS C _ _ _ ((a, .obj _ d ["kind", "line", "name"] [.str k, .int line, .str name]) :: σ) _ _
  refine x_initattr ha H.cSyn.pl (H.fSyn _ (by simp [synNs])) (by decide) rfl (fun _ _ h => ev_name rfl h rfl rfl rfl) ?_
  repeat (walk_at "sol")
  refine ⟨σ, rfl, ha, ?_⟩
  change XS C _ _ _ ((a, .obj _ d ["kind", "line", "name", "kids"] [.str k, .int line, .str name, .list kids]) :: σ) _ _
  refine x_initattr ha H.cSyn.pl (H.fSyn _ (by simp [synNs])) (by decide) rfl (fun _ _ h => ev_name rfl h rfl rfl rfl) ?_
  repeat (walk_at "sol")
  refine ⟨σ, rfl, ha, ?_⟩
  change XS C _ _ _ ((a, .obj _ d ["kind", "line", "name", "kids", "more"] [.str k, .int line, .str name, .list kids, more]) :: σ) _ _
  refine x_initattr ha H.cSyn.pl (H.fSyn _ (by simp [synNs])) (by decide) rfl (fun _ _ h => ev_name rfl h rfl rfl rfl) ?_
  repeat (walk_at "sol")
  refine ⟨σ, rfl, ha, ?_⟩
  change XS C _ _ _ ((a, .obj _ d ["kind", "line", "name", "kids", "more", "height"] [.str k, .int line, .str name, .list kids, more, .int 1]) :: σ) _ _
  have hs : ∀ i, List.lookup a ((a, Cell.obj T.aSyn d synNs [.str k, .int line, .str name, .list kids, more, .int (hgt (kh.take i))]) :: σ) = some (.obj T.aSyn d synNs [.str k, .int line, .str name, .list kids, more, .int (hgt (kh.take i))]) := fun i => lookup_cons_eq
  refine x_for (fun i (ρ' : List (Str × PV)) (σ' : Sig) => ρ' = ([("self", .ref a)] : List (Str × PV)) ∧ σ' = ((a, Cell.obj T.aSyn d synNs [.str k, .int line, .str name, .list kids, more, .int (hgt (kh.take i))]) :: σ)) ?_ (fun _ => rfl)
  refine ie_list ?_ plainly_name
  repeat (walk_at "sol")
  refine ⟨kids, rfl, ⟨_, Sub.cons rfl .nil, rfl, rfl⟩, ?_, ?_⟩
  · rintro i q _ _ hq ⟨rfl, rfl⟩
    obtain ⟨hh, x1, x2, x3, x4, x5, hkh, rfl⟩ := hk i q hq
    have hi : i < kh.length := (List.getElem?_eq_some_iff.mp hkh).1
    have hv : kh[i] = hh := (List.getElem?_eq_some_iff.mp hkh).2
    refine ⟨_, as_name rfl rfl, ?_⟩
    repeat (walk_at "sol")
    refine ta_and ?_
    repeat (walk_at "sol")
    refine ⟨fun _ => ?_, fun h => (by cases h)⟩
    refine ta_and ?_
    repeat (walk_at "sol")
    refine op_attr_cell H.cSyn.pl (H.fSyn _ (by simp [synNs])) (hs i) rfl ?_
    repeat (walk_at "sol")
    refine ⟨fun hc => ?_, fun hc => ?_⟩
    · refine ta_and_nil ⟨fun _ => ?_, fun h => (by cases h)⟩
      refine x_initattr ha H.cSyn.pl (H.fSyn _ (by simp [synNs])) (by decide) rfl (fun _ _ h => ev_name rfl h rfl rfl rfl) ?_
      repeat (walk_at "sol")
      refine ⟨σ, rfl, ha, ?_⟩
      repeat (walk_at "sol")
      refine ⟨_, Sub.cons rfl .nil, rfl, ?_⟩
      have hc := of_decide_eq_true hc
      rw [hgt_succ kh i hi, hv, if_pos hc]
      rfl
    · refine ⟨fun h => (by cases h), fun _ => ?_⟩
      repeat (walk_at "sol")
      refine ⟨_, Sub.cons rfl .nil, rfl, ?_⟩
      have hc := of_decide_eq_false hc
      rw [hgt_succ kh i hi, hv, if_neg hc]
  · rintro _ _ ⟨rfl, rfl⟩
    rw [hlen, List.take_length]
    have hs' : List.lookup a ((a, Cell.obj T.aSyn d synNs [.str k, .int line, .str name, .list kids, more, .int (hgt kh)]) :: σ) = some (.obj T.aSyn d synNs [.str k, .int line, .str name, .list kids, more, .int (hgt kh)]) := lookup_cons_eq
    repeat (walk_at "sol")
    refine op_attr_cell H.cSyn.pl (H.fSyn _ (by simp [synNs])) hs' rfl ?_
    refine ev_data H.dHeight ?_ rfl rfl rfl rfl
    repeat (walk_at "sol")
    refine ⟨fun hc => ?_, fun hc => ?_⟩
    · have := of_decide_eq_true hc; omega
    · repeat (walk_at "sol")
      exact ⟨rfl, _, _, _, rfl, h⟩
end

section
variable {C : Cx} {n : Nat} {env : Env} {ρ : List (Str × PV)} {σ : Sig} {K : PV → Sig → Prop}
variable {T : Ad} {c d : Addr} {ps : List PV} {ks : List (Str × Str)} {spot : Nat} {depth : Int}

theorem w_int {T : Ad} (H : Tab C T) {xp pos : Pos} {e : Expr} (h : ES C n env ρ σ pos [e] fun ps σ1 => CV C n σ1 (.type "int") ps K) (hf : env.scope.kind = .function) (hl : env.kindOf "int" = some .globalImplicit)
    (he : env.globals = mainGlobals) (hbu : env.builtins = builtinsNs) (hs : starEach [e] env = (false, PySem.eval e env) :: starEach [] env) : EV C n env ρ σ (.Call (.Name "int" xp) [e] [] pos) K :=
  ev_callT H.no_int rfl (by decide) h hf hl he hbu rfl ⟨_, _, rfl, hs, rfl⟩
theorem w_str {T : Ad} (H : Tab C T) {xp pos : Pos} {e : Expr} (h : ES C n env ρ σ pos [e] fun ps σ1 => CV C n σ1 (.type "str") ps K) (hf : env.scope.kind = .function) (hl : env.kindOf "str" = some .globalImplicit)
    (he : env.globals = mainGlobals) (hbu : env.builtins = builtinsNs) (hs : starEach [e] env = (false, PySem.eval e env) :: starEach [] env) : EV C n env ρ σ (.Call (.Name "str" xp) [e] [] pos) K :=
  ev_callT H.no_str rfl (by decide) h hf hl he hbu rfl ⟨_, _, rfl, hs, rfl⟩

noncomputable def digS : Str := "0123456789"
noncomputable def notDig : PV → Bool
  | .str x => !(!(Builtin.Str.occurrences digS x 0 digS.length 1).isEmpty)
  | _ => false
noncomputable def chars (w : Str) : List PV := w.cps.toList.map fun c => PV.str ⟨#[c]⟩
noncomputable def numIn? (w : Str) (least most step : Int) : Option Int :=
  if w.cps.all (· < 128) = false then none else
  if decide ((1 : Int) ≤ w.length) = false then some 0 else
  if decide ((w.length : Int) ≤ 3) = false then some 0 else
  match w.cps[0]? with
  | none => none
  | some c => if ((⟨#[c]⟩ : Str) == "0") = true then some 0 else
    if (!(((chars w).filter notDig).map id).isEmpty) = true then some 0 else
    match PySem.intText? w with
    | none => none
    | some i => some (if decide (least ≤ i) && (decide (i ≤ most) && (i.fmod step == 0)) then i else 0)

theorem fn_number (hn : 2 ≤ n) (H : Tab C T) {w : Str} {l m k i : Int} (hk : k ≠ 0) (hz : w.length ≤ 1000) (hw : numIn? w l m k = some i) : FN C n T.fNum [.str w, .int l, .int m, .int k] σ fun p σ' => p = .int i ∧ σ' = σ := by
  refine FN.le ?_ hn
  refine lit H.fNum.fn fun pa bo sc hp hb hs F => ?_
  conv at hp => rhs; whnf
  conv at hb => rhs; whnf
  conv at hs => rhs; whnf
  subst hp hb hs
  refine fn_enter4 (x1 := "word") (x2 := "least") (x3 := "most") (x4 := "step") F (fun _ _ _ _ _ _ _ _ _ _ _ _ => rfl) (allLoc_of rfl) (noCell_of rfl) fun L q cd => ?_
  unfold numIn? at hw
  have hascii : w.cps.all (· < 128) = true := by
    cases e : w.cps.all (· < 128) with
    | true => rfl
    | false => rw [e, if_pos rfl] at hw; cases hw
  rw [hascii, if_neg (by decide)] at hw
  repeat (walk_at "sol")
  refine ta_or (tb_not (tb_chain ?_ rfl))
  repeat (walk_at "sol")
  refine cv_len_str (by omega) ?_
  repeat (walk_at "sol")
  refine ⟨fun h1 => ?_, fun h1 => ?_⟩
  · rw [if_pos h1] at hw; cases hw
    refine ⟨fun h => (by cases h), fun _ => ⟨fun _ => ?_, fun h => (by cases h)⟩⟩
    repeat (walk_at "sol")
    exact ⟨rfl, rfl⟩
  rw [h1, if_neg (by decide)] at hw
  repeat (walk_at "sol")
  cases h2 : decide ((w.length : Int) ≤ 3) with
  | false =>
    rw [if_pos h2] at hw; cases hw
    refine ⟨fun h => (by cases h), fun _ => ⟨fun _ => ?_, fun h => (by cases h)⟩⟩
    repeat (walk_at "sol")
    exact ⟨rfl, rfl⟩
  | true =>
  rw [h2, if_neg (by decide)] at hw
  cases h3 : w.cps[0]? with
  | none => rw [h3] at hw; cases hw
  | some c =>
  rw [h3] at hw
  simp only at hw
  refine ⟨fun _ => ?_, fun h => (by cases h)⟩
  refine ta_or ?_
  repeat (walk_at "sol")
  refine op_item_str (by decide) (by decide) h3 ?_
  repeat (walk_at "sol")
  cases h4 : ((⟨#[c]⟩ : Str) == "0") with
  | true =>
    rw [if_pos h4] at hw; cases hw
    refine ⟨fun h => (by cases h), fun _ => ⟨fun _ => ?_, fun h => (by cases h)⟩⟩
    repeat (walk_at "sol")
    exact ⟨rfl, rfl⟩
  | false =>
  rw [h4, if_neg (by decide)] at hw
  refine ⟨fun _ => ?_, fun h => (by cases h)⟩
  refine ta_or ?_
  repeat (walk_at "sol")
  refine ev_comp (cl := []) id notDig ?_ (fun _ => rfl) rfl rfl (by intro x hx hl; simp at hx; rcases hx with rfl | rfl | rfl <;> first | rfl | cases hl) (noCell_of rfl)
  refine ie_str ?_
  repeat (walk_at "sol")
  refine ⟨w, rfl, hascii, by simp; exact Nat.le_trans hz (by decide), ?_, ?_⟩
  · intro p hp L D qs hD
    obtain ⟨ch, _, rfl⟩ := List.mem_map.mp hp
    refine ⟨_, as_name rfl rfl, ?_, fun _ => ?_⟩
    · show TB _ _ _ _ _ _ _
      repeat (walk_at "sol")
      refine ev_data H.dDigits ?_ rfl rfl rfl rfl
      refine op_notIn_str (bex ⟨rfl, rfl⟩)
    · repeat (walk_at "sol")
      exact ⟨rfl, rfl⟩
  refine ev_list ?_
  repeat (walk_at "sol")
  refine ⟨by decide, op_ne_nil (bex ?_)⟩
  cases h5 : !(((chars w).filter notDig).map id).isEmpty with
  | true =>
    rw [if_pos h5] at hw; cases hw
    refine ⟨fun h => (?_), fun _ => ⟨fun _ => ?_, fun h => (by cases h)⟩⟩
    · exact absurd (h.symm.trans h5) (by decide)
    repeat (walk_at "sol")
    exact ⟨rfl, rfl⟩
  | false =>
  rw [h5, if_neg (by decide)] at hw
  refine ⟨fun _ => ta_or_nil ⟨fun h => (by cases h), fun _ => ?_⟩, fun h => ?_⟩
  case refine_2 => exact absurd (h.symm.trans h5) (by decide)
  repeat (walk_at "sol")
  cases h6 : PySem.intText? w with
  | none => rw [h6] at hw; cases hw
  | some j =>
  rw [h6] at hw
  refine w_int H ?_ rfl rfl rfl rfl rfl
  repeat (walk_at "sol")
  refine cv_int h6 (by have := of_decide_eq_true h2; omega) ?_
  repeat (walk_at "sol")
  refine ev_if ?_
  repeat (walk_at "sol")
  refine ta_and (tb_chain ?_ rfl)
  repeat (walk_at "sol")
  have hw := Option.some.inj hw
  refine ⟨fun h7 => ?_, fun h7 => ?_⟩
  · rw [h7] at hw
    refine ⟨fun h => (by cases h), fun _ => ⟨fun h => (by cases h), fun _ => ?_⟩⟩
    repeat (walk_at "sol")
    exact ⟨by rw [← hw]; rfl, rfl⟩
  rw [h7] at hw
  repeat (walk_at "sol")
  cases h8 : decide (j ≤ m) with
  | false =>
    rw [h8] at hw
    refine ⟨fun h => (by cases h), fun _ => ⟨fun h => (by cases h), fun _ => ?_⟩⟩
    repeat (walk_at "sol")
    exact ⟨by rw [← hw]; rfl, rfl⟩
  | true =>
  rw [h8] at hw
  refine ⟨fun _ => ?_, fun h => (by cases h)⟩
  refine ta_and ?_
  repeat (walk_at "sol")
  refine op_mod_int hk ?_
  repeat (walk_at "sol")
  cases h9 : (j.fmod k == 0) with
  | false =>
    rw [h9] at hw
    refine ⟨fun h => (by cases h), fun _ => ⟨fun h => (by cases h), fun _ => ?_⟩⟩
    repeat (walk_at "sol")
    exact ⟨by rw [← hw]; rfl, rfl⟩
  | true =>
  rw [h9] at hw
  refine ⟨fun _ => ta_and_nil ⟨fun _ => ?_, fun h => (by cases h)⟩, fun h => (by cases h)⟩
  repeat (walk_at "sol")
  exact ⟨by rw [← hw]; rfl, rfl⟩
end

section
variable {C : Cx} {n : Nat} {env : Env} {ρ : List (Str × PV)} {σ : Sig} {K : PV → Sig → Prop}
variable {T : Ad} {c d : Addr} {ps : List PV} {ks : List (Str × Str)} {spot : Nat} {depth : Int}

theorem ev_def {x : Str} {xp pos : Pos} {es : List Expr} {f : Addr} {st : Stmt} (D : DefAt C f x st) (h : ES C n env ρ σ pos es fun ps σ1 => FN C n f ps σ1 K)
    (hf : env.scope.kind = .function) (hl : env.kindOf x = some .globalImplicit) (he : env.globals = mainGlobals) (hd : (x == ("__debug__" : Str)) = false) (hst : ∀ e ∈ es, ∀ x p, e ≠ .Starred x p) :
    EV C n env ρ σ (.Call (.Name x xp) es [] pos) K := ev_call D.mg D.keep (h.mono fun _ _ h => cv_fn h) hf hl he hd hst
theorem ev_class {x : Str} {xp pos : Pos} {es : List Expr} {f i : Addr} {st : Stmt} (D : ClsAt C f i x st) (h : ES C n env ρ σ pos es fun ps σ1 => CV C n σ1 (.ref f) ps K)
    (hf : env.scope.kind = .function) (hl : env.kindOf x = some .globalImplicit) (he : env.globals = mainGlobals) (hd : (x == ("__debug__" : Str)) = false) (hst : ∀ e ∈ es, ∀ x p, e ≠ .Starred x p) :
    EV C n env ρ σ (.Call (.Name x xp) es [] pos) K := ev_call D.mg D.cl.keep h hf hl he hd hst
theorem ep_none {K : Option Int → Sig → Prop} (h : K none σ) : EP C n env ρ σ none K := h
theorem ep_some {e : Expr} {K : Option Int → Sig → Prop} (h : EV C n env ρ σ e fun p σ1 => ∃ i, p = .int i ∧ K (some i) σ1) : EP C n env ρ σ (some e) K := h

noncomputable def baseL : List Str := ["bool", "address", "string", "bytes"]
noncomputable def sizedL : List Str := ["uint", "int"]
noncomputable def szs (w : Str) : Bool := decide (w.length ≤ 900) && decide ((sliceS w none (some 5)).length ≤ 900) && decide ((sliceS w (some 5) none).length ≤ 900) && decide ((sliceS w none (some 4)).length ≤ 900) && decide ((sliceS w (some 4) none).length ≤ 900) && decide ((sliceS w none (some 3)).length ≤ 900) && decide ((sliceS w (some 3) none).length ≤ 900)
noncomputable def elem? (w : Str) : Option Str :=
  if szs w = false then none else
  if baseL.any (· == w) = true then some w else
  if sizedL.any (· == w) = true then some (w ++ "256") else
  if (sliceS w none (some 5) == "bytes") = true then
    match numIn? (sliceS w (some 5) none) 1 32 1 with
    | none => none
    | some i => some (if decide (0 < i) = true then w else "")
  else if (sliceS w none (some 4) == "uint") = true then
    match numIn? (sliceS w (some 4) none) 8 256 8 with
    | none => none
    | some i => some (if decide (0 < i) = true then w else "")
  else if (sliceS w none (some 3) == "int") = true then
    match numIn? (sliceS w (some 3) none) 8 256 8 with
    | none => none
    | some i => some (if decide (0 < i) = true then w else "")
  else some ""

theorem fn_elementary (hn : 3 ≤ n) (H : Tab C T) {w r : Str} (hw : elem? w = some r) : FN C n T.fEle [.str w] σ fun p σ' => p = .str r ∧ σ' = σ := by
  refine FN.le ?_ hn
  refine lit H.fEle.fn fun pa bo sc hp hb hs F => ?_
  conv at hp => rhs; whnf
  conv at hb => rhs; whnf
  conv at hs => rhs; whnf
  subst hp hb hs
  refine fn_enter1 (x1 := "word") F (fun _ _ _ _ _ _ _ _ _ => rfl) (allLoc_of rfl) (noCell_of rfl) fun L q cd => ?_
  unfold elem? at hw
  have hsz : szs w = true := by
    cases e : szs w with
    | true => rfl
    | false => rw [e, if_pos rfl] at hw; cases hw
  rw [hsz, if_neg (by decide)] at hw
  unfold szs at hsz
  simp only [Bool.and_eq_true, decide_eq_true_eq] at hsz
  obtain ⟨⟨⟨⟨⟨⟨z0, z5⟩, z5'⟩, z4⟩, z4'⟩, z3⟩, z3'⟩ := hsz
  refine x_if (tb_cmp ?_ rfl)
  repeat (walk_at "sol")
  refine ev_tuple ?_
  repeat (walk_at "sol")
  refine ⟨by decide, op_in_strs (ys := baseL) (bex ?_)⟩
  refine ⟨fun h1 => ?_, fun h1 => ?_⟩
  · rw [if_pos h1] at hw; cases hw
    repeat (walk_at "sol")
    exact ⟨rfl, rfl⟩
  rw [h1, if_neg (by decide)] at hw
  repeat (walk_at "sol")
  refine ev_tuple ?_
  repeat (walk_at "sol")
  refine ⟨by decide, op_in_strs (ys := sizedL) (bex ?_)⟩
  refine ⟨fun h2 => ?_, fun h2 => ?_⟩
  · rw [if_pos h2] at hw; cases hw
    repeat (walk_at "sol")
    refine op_add_str (by rw [sizeLine_eq]; have : ("256" : Str).length = 3 := rfl; omega) ?_
    repeat (walk_at "sol")
    exact ⟨rfl, rfl⟩
  rw [h2, if_neg (by decide)] at hw
  repeat (walk_at "sol")
  refine ev_slice_str ?_ (fun _ _ => rfl)
  repeat (walk_at "sol")
  refine ep_none (ep_some ?_)
  repeat (walk_at "sol")
  refine ⟨_, rfl, w, rfl, by omega, by omega, ?_⟩
  repeat (walk_at "sol")
  refine ⟨fun h3 => ?_, fun h3 => ?_⟩
  · rw [if_pos h3] at hw
    cases h4 : numIn? (sliceS w (some 5) none) 1 32 1 with
    | none => rw [h4] at hw; cases hw
    | some i =>
    rw [h4] at hw
    have hw := Option.some.inj hw
    repeat (walk_at "sol")
    refine ev_if ?_
    repeat (walk_at "sol")
    refine ev_def H.fNum ?_ rfl rfl rfl rfl (by simp)
    repeat (walk_at "sol")
    refine ev_slice_str ?_ (fun _ _ => rfl)
    repeat (walk_at "sol")
    refine ep_some ?_
    repeat (walk_at "sol")
    refine ⟨_, rfl, ep_none ⟨w, rfl, by omega, by omega, ?_⟩⟩
    repeat (walk_at "sol")
    refine (fn_number (by omega) H (by decide) (by omega) h4).mono ?_
    rintro _ _ ⟨rfl, rfl⟩
    repeat (walk_at "sol")
    refine ⟨fun h5 => ?_, fun h5 => ?_⟩
    · rw [if_pos h5] at hw
      repeat (walk_at "sol")
      exact ⟨by rw [hw], rfl⟩
    · rw [h5, if_neg (by decide)] at hw
      repeat (walk_at "sol")
      exact ⟨by rw [← hw], rfl⟩
  rw [h3, if_neg (by decide)] at hw
  repeat (walk_at "sol")
  refine ev_if ?_
  repeat (walk_at "sol")
  refine ev_slice_str ?_ (fun _ _ => rfl)
  repeat (walk_at "sol")
  refine ep_none (ep_some ?_)
  repeat (walk_at "sol")
  refine ⟨_, rfl, w, rfl, by omega, by omega, ?_⟩
  repeat (walk_at "sol")
  cases h5 : (sliceS w none (some 4) == "uint") with
  | true =>
    rw [if_pos h5] at hw
    have ht : (sliceS w none (some 4) == "uint") = true → ∃ i, numIn? (sliceS w (some 4) none) 8 256 8 = some i ∧ r = if decide (0 < i) = true then w else "" := fun _ => by
      cases h6 : numIn? (sliceS w (some 4) none) 8 256 8 with
      | none => rw [h6] at hw; cases hw
      | some i => rw [h6] at hw; exact ⟨i, rfl, (Option.some.inj hw).symm⟩
    have hf : (sliceS w none (some 4) == "uint") = false → r = "" := fun h => by rw [h5] at h; cases h
    refine ⟨fun _ => ?_, fun h => (by cases h)⟩
    repeat (walk_at "sol")
    refine ev_if ?_
    repeat (walk_at "sol")
    refine ta_and (tb_cmp ?_ rfl)
    refine ev_slice_str ?_ (fun _ _ => rfl)
    repeat (walk_at "sol")
    refine ep_none (ep_some ?_)
    repeat (walk_at "sol")
    refine cv_len_str (by decide) ?_
    refine ⟨(4 : Int), rfl, w, rfl, by omega, by omega, ?_⟩
    repeat (walk_at "sol")
    cases h6 : (sliceS w none (some 4) == "uint") with
    | false =>
      refine ⟨fun h => (by cases h), fun _ => ⟨fun h => (by cases h), fun _ => ?_⟩⟩
      repeat (walk_at "sol")
      exact ⟨by rw [hf h6], rfl⟩
    | true =>
      obtain ⟨i, hi, hr⟩ := ht h6
      refine ⟨fun _ => ?_, fun h => (by cases h)⟩
      refine ta_and ?_
      repeat (walk_at "sol")
      refine ev_def H.fNum ?_ rfl rfl rfl rfl (by simp)
      repeat (walk_at "sol")
      refine ev_slice_str ?_ (fun _ _ => rfl)
      repeat (walk_at "sol")
      refine ep_some ?_
      repeat (walk_at "sol")
      refine cv_len_str (by decide) ?_
      refine ⟨(4 : Int), rfl, ep_none ⟨w, rfl, by omega, by omega, ?_⟩⟩
      repeat (walk_at "sol")
      refine (fn_number (by omega) H (by decide) (by omega) hi).mono ?_
      rintro _ _ ⟨rfl, rfl⟩
      repeat (walk_at "sol")
      cases h7 : decide (0 < i) with
      | true =>
        rw [if_pos h7] at hr
        refine ⟨fun _ => ta_and_nil ⟨fun _ => ?_, fun h => (by cases h)⟩, fun h => (by cases h)⟩
        repeat (walk_at "sol")
        exact ⟨by rw [hr], rfl⟩
      | false =>
        rw [h7, if_neg (by decide)] at hr
        refine ⟨fun h => (by cases h), fun _ => ⟨fun h => (by cases h), fun _ => ?_⟩⟩
        repeat (walk_at "sol")
        exact ⟨by rw [hr], rfl⟩
  | false =>
    rw [h5, if_neg (by decide)] at hw
    have ht : (sliceS w none (some 3) == "int") = true → ∃ i, numIn? (sliceS w (some 3) none) 8 256 8 = some i ∧ r = if decide (0 < i) = true then w else "" := fun h => by
      rw [if_pos h] at hw
      cases h6 : numIn? (sliceS w (some 3) none) 8 256 8 with
      | none => rw [h6] at hw; cases hw
      | some i => rw [h6] at hw; exact ⟨i, rfl, (Option.some.inj hw).symm⟩
    have hf : (sliceS w none (some 3) == "int") = false → r = "" := fun h => by rw [h, if_neg (by decide)] at hw; exact (Option.some.inj hw).symm
    refine ⟨fun h => (by cases h), fun _ => ?_⟩
    repeat (walk_at "sol")
    refine ev_if ?_
    repeat (walk_at "sol")
    refine ta_and (tb_cmp ?_ rfl)
    refine ev_slice_str ?_ (fun _ _ => rfl)
    repeat (walk_at "sol")
    refine ep_none (ep_some ?_)
    repeat (walk_at "sol")
    refine cv_len_str (by decide) ?_
    refine ⟨(3 : Int), rfl, w, rfl, by omega, by omega, ?_⟩
    repeat (walk_at "sol")
    cases h6 : (sliceS w none (some 3) == "int") with
    | false =>
      refine ⟨fun h => (by cases h), fun _ => ⟨fun h => (by cases h), fun _ => ?_⟩⟩
      repeat (walk_at "sol")
      exact ⟨by rw [hf h6], rfl⟩
    | true =>
      obtain ⟨i, hi, hr⟩ := ht h6
      refine ⟨fun _ => ?_, fun h => (by cases h)⟩
      refine ta_and ?_
      repeat (walk_at "sol")
      refine ev_def H.fNum ?_ rfl rfl rfl rfl (by simp)
      repeat (walk_at "sol")
      refine ev_slice_str ?_ (fun _ _ => rfl)
      repeat (walk_at "sol")
      refine ep_some ?_
      repeat (walk_at "sol")
      refine cv_len_str (by decide) ?_
      refine ⟨(3 : Int), rfl, ep_none ⟨w, rfl, by omega, by omega, ?_⟩⟩
      repeat (walk_at "sol")
      refine (fn_number (by omega) H (by decide) (by omega) hi).mono ?_
      rintro _ _ ⟨rfl, rfl⟩
      repeat (walk_at "sol")
      cases h7 : decide (0 < i) with
      | true =>
        rw [if_pos h7] at hr
        refine ⟨fun _ => ta_and_nil ⟨fun _ => ?_, fun h => (by cases h)⟩, fun h => (by cases h)⟩
        repeat (walk_at "sol")
        exact ⟨by rw [hr], rfl⟩
      | false =>
        rw [h7, if_neg (by decide)] at hr
        refine ⟨fun h => (by cases h), fun _ => ⟨fun h => (by cases h), fun _ => ?_⟩⟩
        repeat (walk_at "sol")
        exact ⟨by rw [hr], rfl⟩

noncomputable def isEl? (t : Str × Str) : Option Bool := if isB t t.2 = false then some false else
  match elem? t.2 with
  | none => none
  | some r => some (!(r == ""))
theorem fn_isEl (hn : 4 ≤ n) (H : Tab C T) {k : Nat} (G : IsCur T ks c d ps spot depth σ)
    {t : Str × Str} {r : List (Str × Str)} (hd : ks.drop (spot + k) = t :: r) {b : Bool} (hb : isEl? t = some b) : FN C n T.fIsEl [.ref c, .int k] σ fun p σ' => p = .bool b ∧ σ' = σ := by
  refine FN.le ?_ hn
  refine lit H.fIsEl.fn fun pa bo sc hp hb hs F => ?_
  conv at hp => rhs; whnf
  conv at hb => rhs; whnf
  conv at hs => rhs; whnf
  subst hp hb hs
  refine fn_enter2 (x1 := "cursor") (x2 := "ahead") F (fun _ _ _ _ _ _ _ _ _ _ => rfl) (allLoc_of rfl) (noCell_of rfl) fun L q cd => ?_
  repeat (walk_at "sol")
  walk_at "cur"
  repeat (walk_at "sol")
  refine (fn_peek (by omega) H G hd).mono ?_
  rintro _ _ ⟨⟨line, rfl⟩, rfl⟩
  repeat (walk_at "sol")
  refine ev_and ?_
  walk_at "cur"
  repeat (walk_at "sol")
  refine (fn_isB (by omega) H G hd).mono ?_
  rintro _ _ ⟨rfl, rfl⟩
  unfold isEl? at hb
  refine bex ?_
  refine ⟨fun h => ?_, fun h => ?_⟩
  · rw [h, if_neg (by decide)] at hb
    cases he : elem? t.2 with
    | none => rw [he] at hb; cases hb
    | some e =>
    rw [he] at hb
    repeat (walk_at "sol")
    refine ev_def H.fEle ?_ rfl rfl rfl rfl (by simp)
    repeat (walk_at "sol")
    refine (fn_elementary (by omega) H he).mono ?_
    rintro _ _ ⟨rfl, rfl⟩
    repeat (walk_at "sol")
    exact ⟨by rw [← Option.some.inj hb]; rfl, rfl⟩
  · rw [if_pos h] at hb; cases hb
    repeat (walk_at "sol")
    exact ⟨rfl, rfl⟩
end

section
variable {C : Cx} {n : Nat} {env : Env} {ρ : List (Str × PV)} {σ : Sig} {K : PV → Sig → Prop}
variable {T : Ad} {c d : Addr} {ps : List PV} {ks : List (Str × Str)} {spot : Nat} {depth : Int}

/-- a row of tokens that ends -/
noncomputable def Ends (l : List (Str × Str)) : Prop := ∃ l' t, l = l' ++ [t] ∧ t.1 = ("end" : Str)
theorem Ends.ne {l : List (Str × Str)} (h : Ends l) : ∃ t r, l = t :: r := by
  obtain ⟨l', t, rfl, _⟩ := h
  cases l' with
  | nil => exact ⟨_, _, rfl⟩
  | cons a l' => exact ⟨_, _, rfl⟩
theorem Ends.tail {t : Str × Str} {r : List (Str × Str)} (h : Ends (t :: r)) (ht : (t.1 == "end") = false) : Ends r := by
  obtain ⟨l', u, e, hu⟩ := h
  cases l' with
  | nil => cases e; rw [hu] at ht; exact absurd ht (by decide)
  | cons a l' => cases e; exact ⟨l', u, rfl, hu⟩

noncomputable def eobL : List (Str × Str) → Int → Option Nat
  | [], _ => none
  | t :: r, d => if (t.1 == "end") = true then none else
    if isB t "[" = true then (eobL r (d + 1)).map (· + 1) else
    if isB t "]" = true then (if (d - 1 == 0) = true then some 1 else (eobL r (d - 1)).map (· + 1)) else
    if isB t ";" = true then none else (eobL r d).map (· + 1)
noncomputable def at_ (k : Nat) : Option Nat → Int
  | some j => ((k + j : Nat) : Int)
  | none => -1
theorem at_succ (k : Nat) (o : Option Nat) : at_ k (o.map (· + 1)) = at_ (k + 1) o := by
  cases o with
  | none => rfl
  | some j => show ((k + (j + 1) : Nat) : Int) = ((k + 1 + j : Nat) : Int); congr 1; omega

theorem fn_eob (hn : 4 ≤ n) (H : Tab C T) {k : Nat} (G : IsCur T ks c d ps spot depth σ) {l : List (Str × Str)} (hd : ks.drop (spot + k) = l) (he : Ends l) :
    FN C n T.fEob [.ref c, .int k] σ fun p σ' => p = .int (at_ k (eobL l 0)) ∧ σ' = σ := by
  refine FN.le ?_ hn
  refine lit H.fEob.fn fun pa bo sc hp hb hs F => ?_
  conv at hp => rhs; whnf
  conv at hb => rhs; whnf
  conv at hs => rhs; whnf
  subst hp hb hs
  refine fn_enter2 (x1 := "cursor") (x2 := "ahead") F (fun _ _ _ _ _ _ _ _ _ _ => rfl) (allLoc_of rfl) (noCell_of rfl) fun L q cd => ?_
  generalize hR : at_ k (eobL l 0) = R
  repeat (walk_at "sol")
  refine x_while (fun m (ρ' : List (Str × PV)) (σ' : Sig) => ∃ (k' : Nat) (dep : Int) (l' : List (Str × Str)), ρ' = ([("depth", .int dep), ("ahead", .int k'), ("cursor", .ref c)] : List (Str × PV)) ∧ σ' = σ ∧ ks.drop (spot + k') = l' ∧ Ends l' ∧ l'.length = m ∧ at_ k' (eobL l' dep) = R)
    ⟨_, _, Sub.cons rfl (Sub.cons rfl (Sub.cons rfl .nil)), k, 0, l, rfl, rfl, hd, he, rfl, hR⟩ ?_
  rintro m _ _ ⟨k', dep, l', rfl, rfl, hd', he', rfl, hk'⟩
  obtain ⟨t, r, rfl⟩ := he'.ne
  repeat (walk_at "sol")
  walk_at "cur"
  repeat (walk_at "sol")
  refine (fn_peek (by omega) H G hd').mono ?_
  rintro _ _ ⟨⟨line, rfl⟩, rfl⟩
  repeat (walk_at "sol")
  refine ⟨fun h0 => ?_, fun h0 => ?_⟩
  · have h0' : (t.1 == "end") = true := by simpa using h0
    repeat (walk_at "sol")
    refine ⟨?_, rfl⟩
    unfold eobL at hk'
    rw [if_pos h0'] at hk'
    rw [← hk']; rfl
  have h0' : (t.1 == "end") = false := by simpa using h0
  have he2 := he'.tail h0'
  have hd2 : ks.drop (spot + (k' + 1)) = r := drop_succ hd'
  unfold eobL at hk'
  rw [h0', if_neg (by decide)] at hk'
  refine x_if (tb_plain ?_)
  walk_at "cur"
  repeat (walk_at "sol")
  refine (fn_isB (by omega) H G hd').mono ?_
  rintro _ _ ⟨rfl, rfl⟩
  refine bex ?_
  refine ⟨fun h1 => ?_, fun h1 => ?_⟩
  · rw [if_pos h1, at_succ] at hk'
    repeat (walk_at "sol")
    exact ⟨_, Sub.cons rfl (Sub.cons rfl (Sub.cons rfl .nil)), r.length, by simp, k' + 1, dep + 1, r, rfl, rfl, hd2, he2, rfl, hk'⟩
  rw [h1, if_neg (by decide)] at hk'
  refine x_if (tb_plain ?_)
  walk_at "cur"
  repeat (walk_at "sol")
  refine (fn_isB (by omega) H G hd').mono ?_
  rintro _ _ ⟨rfl, rfl⟩
  refine bex ?_
  refine ⟨fun h2 => ?_, fun h2 => ?_⟩
  · rw [if_pos h2] at hk'
    repeat (walk_at "sol")
    refine ⟨fun h3 => ?_, fun h3 => ?_⟩
    · rw [if_pos h3] at hk'
      repeat (walk_at "sol")
      refine ⟨?_, rfl⟩
      rw [← hk']; rfl
    · rw [h3, if_neg (by decide), at_succ] at hk'
      repeat (walk_at "sol")
      exact ⟨_, Sub.cons rfl (Sub.cons rfl (Sub.cons rfl .nil)), r.length, by simp, k' + 1, dep - 1, r, rfl, rfl, hd2, he2, rfl, hk'⟩
  rw [h2, if_neg (by decide)] at hk'
  refine x_if (tb_plain ?_)
  walk_at "cur"
  repeat (walk_at "sol")
  refine (fn_isB (by omega) H G hd').mono ?_
  rintro _ _ ⟨rfl, rfl⟩
  refine bex ?_
  refine ⟨fun h2 => ?_, fun h2 => ?_⟩
  · rw [if_pos h2] at hk'
    repeat (walk_at "sol")
    refine ⟨?_, rfl⟩
    rw [← hk']; rfl
  · rw [h2, if_neg (by decide), at_succ] at hk'
    repeat (walk_at "sol")
    exact ⟨_, Sub.cons rfl (Sub.cons rfl (Sub.cons rfl .nil)), r.length, by simp, k' + 1, dep, r, rfl, rfl, hd2, he2, rfl, hk'⟩
end

section
variable {C : Cx} {n : Nat} {env : Env} {ρ : List (Str × PV)} {σ : Sig} {K : PV → Sig → Prop}
variable {T : Ad} {c d : Addr} {ps : List PV} {ks : List (Str × Str)} {spot : Nat} {depth : Int}

theorem isB_notEnd {t : Str × Str} {x : Str} (h : isB t x = true) : (t.1 == ("end" : Str)) = false := by
  unfold isB at h
  rw [Bool.and_eq_true] at h
  cases e : (t.1 == ("end" : Str)) with
  | false => rfl
  | true =>
    have e := eq_of_beq e
    rw [e] at h
    exact absurd h.2 (by decide)
theorem at_map (k j : Nat) (o : Option Nat) : at_ k (o.map (j + ·)) = at_ (k + j) o := by
  cases o with
  | none => rfl
  | some i => show ((k + (j + i) : Nat) : Int) = ((k + j + i : Nat) : Int); congr 1; omega
theorem eobL_ends : ∀ {l : List (Str × Str)} {dep : Int} {j : Nat}, Ends l → eobL l dep = some j → Ends (l.drop j) ∧ 1 ≤ j
  | [], _, _, _, h => by cases h
  | t :: r, dep, j, he, h => by
    unfold eobL at h
    cases h0 : (t.1 == ("end" : Str)) with
    | true => rw [if_pos h0] at h; cases h
    | false =>
    rw [h0, if_neg (by decide)] at h
    have he' := he.tail h0
    have key : ∀ (dep' : Int), (eobL r dep').map (· + 1) = some j → Ends ((t :: r).drop j) ∧ 1 ≤ j := by
      intro dep' h
      obtain ⟨i, hi, rfl⟩ := Option.map_eq_some_iff.mp h
      exact ⟨(eobL_ends he' hi).1, by omega⟩
    split at h
    · exact key _ h
    split at h
    · split at h
      · cases h; exact ⟨he', by omega⟩
      · exact key _ h
    split at h
    · cases h
    · exact key _ h

noncomputable def dotsL : List (Str × Str) → Nat
  | t :: u :: r => if (isB t "." && (u.1 == ("name" : Str))) = true then 2 + dotsL r else 0
  | _ => 0
inductive HeadR : List (Str × Str) → Option Nat → Prop
  | pay {t u r} : isEl? t = some true → isB t "address" = true → isB u "payable" = true → HeadR (t :: u :: r) (some 2)
  | el {t r} : isEl? t = some true → (isB t "address" = true → ∃ u r', r = u :: r' ∧ isB u "payable" = false) → HeadR (t :: r) (some 1)
  | nm {t r} : isEl? t = some false → t.1 = ("name" : Str) → HeadR (t :: r) (some (1 + dotsL r))
  | no {t r} : isEl? t = some false → (t.1 == ("name" : Str)) = false → HeadR (t :: r) none
inductive BrR : List (Str × Str) → Option Nat → Prop
  | stop {t r} : isB t "[" = false → BrR (t :: r) (some 0)
  | bad {t r} : isB t "[" = true → eobL (t :: r) 0 = none → BrR (t :: r) none
  | go {t r j o} : isB t "[" = true → eobL (t :: r) 0 = some j → BrR ((t :: r).drop j) o → BrR (t :: r) (o.map (j + ·))
noncomputable def EotR (l : List (Str × Str)) (o : Option Nat) : Prop := (HeadR l none ∧ o = none) ∨ ∃ j o', HeadR l (some j) ∧ Ends (l.drop j) ∧ BrR (l.drop j) o' ∧ o = o'.map (j + ·)
theorem BrR.ends {l : List (Str × Str)} {o : Option Nat} (h : BrR l o) : ∀ j, o = some j → Ends l → Ends (l.drop j) := by
  induction h with
  | stop h => intro j e he; cases e; exact he
  | bad _ _ => intro j e; cases e
  | go h1 h2 h3 ih =>
    intro j' e he
    obtain ⟨i, hi, rfl⟩ := Option.map_eq_some_iff.mp e
    have := ih i hi (eobL_ends he h2).1
    rwa [List.drop_drop] at this
theorem drop_more {l : List (Str × Str)} {a b : Nat} {m : List (Str × Str)} (h : l.drop a = m) : l.drop (a + b) = m.drop b := by rw [← List.drop_drop, h]

theorem fn_eot (hn : 6 ≤ n) (H : Tab C T) {k : Nat} (G : IsCur T ks c d ps spot depth σ) {l : List (Str × Str)} {o : Option Nat} (hd : ks.drop (spot + k) = l) (he : Ends l) (hE : EotR l o) :
    FN C n T.fEot [.ref c, .int k] σ fun p σ' => p = .int (at_ k o) ∧ σ' = σ := by
  refine FN.le ?_ hn
  refine lit H.fEot.fn fun pa bo sc hp hb hs F => ?_
  conv at hp => rhs; whnf
  conv at hb => rhs; whnf
  conv at hs => rhs; whnf
  subst hp hb hs
  refine fn_enter2 (x1 := "cursor") (x2 := "ahead") F (fun _ _ _ _ _ _ _ _ _ _ => rfl) (allLoc_of rfl) (noCell_of rfl) fun L q cd => ?_
  rcases hE with ⟨hH, rfl⟩ | ⟨j, o', hH, hend, hB, rfl⟩
  · cases hH with
    | no h1 h2 =>
    refine x_if (tb_plain (ev_def H.fIsEl ?_ rfl rfl rfl rfl (by simp)))
    repeat (walk_at "sol")
    refine (fn_isEl (by omega) H G hd h1).mono ?_
    rintro _ _ ⟨rfl, rfl⟩
    refine bex ⟨fun h => (by cases h), fun _ => ?_⟩
    repeat (walk_at "sol")
    walk_at "cur"
    repeat (walk_at "sol")
    refine (fn_peek (by omega) H G hd).mono ?_
    rintro _ _ ⟨⟨line, rfl⟩, rfl⟩
    repeat (walk_at "sol")
    refine ⟨fun h => ?_, fun _ => ?_⟩
    · rw [h2] at h; cases h
    repeat (walk_at "sol")
    exact ⟨rfl, rfl⟩
  rw [at_map]
  refine x_cons (TX.mono (K := fun pf ρ' σ' => σ' = σ ∧ pf = .next ∧ Sub [("ahead", .int ((k + j : Nat) : Int)), ("cursor", .ref c)] ρ') (x1_if ?_) ?_)
  · generalize hj : some j = oj at hH
    cases hH with
    | no h1 h2 => cases hj
    | pay h1 h2 h3 =>
      cases hj
      refine tb_plain (ev_def H.fIsEl ?_ rfl rfl rfl rfl (by simp))
      repeat (walk_at "sol")
      refine (fn_isEl (by omega) H G hd h1).mono ?_
      rintro _ _ ⟨rfl, rfl⟩
      refine bex ⟨fun _ => ?_, fun h => (by cases h)⟩
      repeat (walk_at "sol")
      refine ev_and ?_
      walk_at "cur"
      repeat (walk_at "sol")
      refine (fn_isB (by omega) H G hd).mono ?_
      rintro _ _ ⟨rfl, rfl⟩
      rw [h2]
      refine bex ⟨fun _ => ?_, fun h => (by cases h)⟩
      walk_at "cur"
      repeat (walk_at "sol")
      refine (fn_isB (k := k + 1) (by omega) H G (drop_succ hd)).mono ?_
      rintro _ _ ⟨rfl, rfl⟩
      rw [h3]
      repeat (walk_at "sol")
      refine ev_if (tb_plain ?_)
      repeat (walk_at "sol")
      refine ⟨fun _ => ?_, fun h => (by cases h)⟩
      repeat (walk_at "sol")
      exact ⟨rfl, rfl, Sub.cons rfl (Sub.cons rfl .nil)⟩
    | el h1 h2 =>
      cases hj
      refine tb_plain (ev_def H.fIsEl ?_ rfl rfl rfl rfl (by simp))
      repeat (walk_at "sol")
      refine (fn_isEl (by omega) H G hd h1).mono ?_
      rintro _ _ ⟨rfl, rfl⟩
      refine bex ⟨fun _ => ?_, fun h => (by cases h)⟩
      repeat (walk_at "sol")
      refine ev_and ?_
      walk_at "cur"
      repeat (walk_at "sol")
      refine (fn_isB (by omega) H G hd).mono ?_
      rintro _ _ ⟨rfl, rfl⟩
      refine bex ⟨fun ha => ?_, fun _ => ?_⟩
      · obtain ⟨u, r', rfl, h3⟩ := h2 ha
        walk_at "cur"
        repeat (walk_at "sol")
        refine (fn_isB (k := k + 1) (by omega) H G (drop_succ hd)).mono ?_
        rintro _ _ ⟨rfl, rfl⟩
        rw [h3]
        repeat (walk_at "sol")
        refine ev_if (tb_plain ?_)
        repeat (walk_at "sol")
        refine ⟨fun h => (by cases h), fun _ => ?_⟩
        repeat (walk_at "sol")
        exact ⟨rfl, rfl, Sub.cons rfl (Sub.cons rfl .nil)⟩
      · repeat (walk_at "sol")
        refine ev_if (tb_plain ?_)
        repeat (walk_at "sol")
        refine ⟨fun h => (by cases h), fun _ => ?_⟩
        repeat (walk_at "sol")
        exact ⟨rfl, rfl, Sub.cons rfl (Sub.cons rfl .nil)⟩
    | nm h1 h2 =>
      rename_i t r
      cases hj
      refine tb_plain (ev_def H.fIsEl ?_ rfl rfl rfl rfl (by simp))
      repeat (walk_at "sol")
      refine (fn_isEl (by omega) H G hd h1).mono ?_
      rintro _ _ ⟨rfl, rfl⟩
      refine bex ⟨fun h => (by cases h), fun _ => ?_⟩
      repeat (walk_at "sol")
      walk_at "cur"
      repeat (walk_at "sol")
      refine (fn_peek (by omega) H G hd).mono ?_
      rintro _ _ ⟨⟨line, rfl⟩, rfl⟩
      repeat (walk_at "sol")
      refine ⟨fun _ => ?_, fun h => ?_⟩
      case refine_2 => rw [h2] at h; exact absurd h (by decide)
      repeat (walk_at "sol")
      generalize hR : k + (1 + dotsL r) = R
      refine x_while (fun m (ρ' : List (Str × PV)) (σ' : Sig) => ∃ (k' : Nat) (l' : List (Str × Str)), ρ' = ([("ahead", .int k'), ("cursor", .ref c)] : List (Str × PV)) ∧ σ' = _ ∧ ks.drop (spot + k') = l' ∧ Ends l' ∧ l'.length = m ∧ k' + dotsL l' = R)
        ⟨_, _, Sub.cons rfl (Sub.cons rfl .nil), k + 1, r, rfl, rfl, drop_succ hd, he.tail (by rw [h2]; decide), rfl, by omega⟩ ?_
      rintro m _ _ ⟨k', l', rfl, rfl, hd', he', rfl, hk'⟩
      obtain ⟨t', r', rfl⟩ := he'.ne
      refine tb_bool (ta_and (tb_plain ?_))
      walk_at "cur"
      repeat (walk_at "sol")
      refine (fn_isB (by omega) H G hd').mono ?_
      rintro _ _ ⟨rfl, rfl⟩
      refine bex ⟨fun h3 => ?_, fun h3 => ?_⟩
      case refine_2 =>
        refine ⟨fun _ => ?_, fun h => (by cases h)⟩
        repeat (walk_at "sol")
        refine ⟨rfl, rfl, Sub.cons ?_ (Sub.cons rfl .nil)⟩
        have : dotsL (t' :: r') = 0 := by
          cases r' with
          | nil => rfl
          | cons u r' => unfold dotsL; rw [h3]; rfl
        rw [this] at hk'
        rw [← hk']; rfl
      have he2 := he'.tail (isB_notEnd h3)
      obtain ⟨u, r'', rfl⟩ := he2.ne
      unfold dotsL at hk'
      rw [h3, Bool.true_and] at hk'
      refine ta_and ?_
      repeat (walk_at "sol")
      walk_at "cur"
      repeat (walk_at "sol")
      refine (fn_peek (k := k' + 1) (by omega) H G (drop_succ hd')).mono ?_
      rintro _ _ ⟨⟨line, rfl⟩, rfl⟩
      repeat (walk_at "sol")
      cases h4 : (u.1 == ("name" : Str)) with
      | false =>
        rw [h4, if_neg (by decide)] at hk'
        refine ⟨fun h => (by cases h), fun _ => ⟨fun _ => ?_, fun h => (by cases h)⟩⟩
        repeat (walk_at "sol")
        refine ⟨rfl, rfl, Sub.cons ?_ (Sub.cons rfl .nil)⟩
        rw [← hk']; rfl
      | true =>
        rw [h4, if_pos rfl] at hk'
        refine ⟨fun _ => ta_and_nil ⟨fun h => (by cases h), fun _ => ?_⟩, fun h => (by cases h)⟩
        repeat (walk_at "sol")
        refine ⟨_, Sub.cons rfl (Sub.cons rfl .nil), r''.length, by simp only [List.length_cons]; omega, k' + 2, r'', rfl, rfl, drop_succ (drop_succ hd'), he2.tail ?_, rfl, by omega⟩
        rw [eq_of_beq h4]; decide
  · rintro _ ρ' _ ⟨rfl, rfl, hsub⟩
    show XS C _ _ _ _ _ _
    generalize hR : at_ (k + j) o' = R
    refine x_while (fun m (ρ' : List (Str × PV)) (σ' : Sig) => ∃ a : Int, ρ' = ([("ahead", .int a), ("cursor", .ref c)] : List (Str × PV)) ∧ σ' = _ ∧ ((a = -1 ∧ R = -1 ∧ m = 0) ∨ ∃ (k' : Nat) (l' : List (Str × Str)) (o' : Option Nat), a = (k' : Int) ∧ ks.drop (spot + k') = l' ∧ Ends l' ∧ BrR l' o' ∧ l'.length = m ∧ at_ k' o' = R))
      ⟨_, _, hsub, _, rfl, rfl, .inr ⟨k + j, l.drop j, o', rfl, by rw [← Nat.add_assoc]; exact drop_more hd, hend, hB, rfl, hR⟩⟩ ?_
    rintro m _ _ ⟨a, rfl, rfl, h⟩
    refine tb_bool (ta_and ?_)
    repeat (walk_at "sol")
    rcases h with ⟨rfl, hRR, rfl⟩ | ⟨k', l', o2, rfl, hd', he', hB', rfl, hk'⟩
    · refine ⟨fun h => absurd h (by decide), fun _ => ⟨fun _ => ?_, fun h => (by cases h)⟩⟩
      repeat (walk_at "sol")
      exact ⟨by rw [hRR], rfl⟩
    refine ⟨fun _ => ?_, fun h => absurd (of_decide_eq_false h) (by omega)⟩
    refine ta_and (tb_plain ?_)
    walk_at "cur"
    repeat (walk_at "sol")
    cases hB' with
    | stop h1 =>
      refine (fn_isB (by omega) H G hd').mono ?_
      rintro _ _ ⟨rfl, rfl⟩
      rw [h1]
      refine bex ⟨fun h => (by cases h), fun _ => ⟨fun _ => ?_, fun h => (by cases h)⟩⟩
      repeat (walk_at "sol")
      exact ⟨by rw [← hk']; rfl, rfl⟩
    | bad h1 h2 =>
      refine (fn_isB (by omega) H G hd').mono ?_
      rintro _ _ ⟨rfl, rfl⟩
      rw [h1]
      refine bex ⟨fun _ => ta_and_nil ⟨fun h => (by cases h), fun _ => ?_⟩, fun h => (by cases h)⟩
      repeat (walk_at "sol")
      refine ev_def H.fEob ?_ rfl rfl rfl rfl (by simp)
      repeat (walk_at "sol")
      refine (fn_eob (by omega) H G hd' he').mono ?_
      rintro _ _ ⟨rfl, rfl⟩
      rw [h2]
      repeat (walk_at "sol")
      exact ⟨_, Sub.cons rfl (Sub.cons rfl .nil), 0, by simp, -1, rfl, rfl, .inl ⟨rfl, hk'.symm, rfl⟩⟩
    | go h1 h2 h3 =>
      rename_i t r j' o3
      refine (fn_isB (by omega) H G hd').mono ?_
      rintro _ _ ⟨rfl, rfl⟩
      rw [h1]
      refine bex ⟨fun _ => ta_and_nil ⟨fun h => (by cases h), fun _ => ?_⟩, fun h => (by cases h)⟩
      repeat (walk_at "sol")
      refine ev_def H.fEob ?_ rfl rfl rfl rfl (by simp)
      repeat (walk_at "sol")
      refine (fn_eob (by omega) H G hd' he').mono ?_
      rintro _ _ ⟨rfl, rfl⟩
      rw [h2]
      repeat (walk_at "sol")
      obtain ⟨e1, e2⟩ := eobL_ends he' h2
      refine ⟨_, Sub.cons rfl (Sub.cons rfl .nil), ((t :: r).drop j').length, ?_, _, rfl, rfl, .inr ⟨k' + j', _, o3, rfl, by rw [← Nat.add_assoc]; exact drop_more hd', e1, h3, rfl, by rw [← at_map]; exact hk'⟩⟩
      rw [List.length_drop, List.length_cons]; omega
end

section
variable {C : Cx} {n : Nat} {env : Env} {ρ : List (Str × PV)} {σ : Sig} {K : PV → Sig → Prop}
variable {T : Ad} {c d : Addr} {ps : List PV} {ks : List (Str × Str)} {spot : Nat} {depth : Int}

theorem ev_namef {x : Str} {pos : Pos} {c : Addr} {p : PV} (hc : env.cells.lookup x = some c) (hx : σ.lookup c = some (.cel (some p))) (h : K p σ) (hf : env.scope.kind = .function) (hl : env.kindOf x = some .free)
    (hd : (x == ("__debug__" : Str)) = false) (hn : (x == ("__classdict__" : Str)) = false) : EV C n env ρ σ (.Name x pos) K :=
  fun A W s Q E r I l hk => by
    obtain ⟨o, v, ho, hdt, rv⟩ := I.cells _ (mem_of_lookup hx)
    exact wpAny_Name (wpAny_loadName_free hf hl hc ⟨o, ho, hdt⟩ (hk _ _ _ _ _ h I .refl rv) hn) hd
theorem lookup_foot {a : Addr} {x : Cell} {σ : Sig} (h : σ.lookup a = some x) : a ∈ foots σ := by
  refine List.mem_flatMap.mpr ⟨(a, x), mem_of_lookup h, ?_⟩
  cases x <;> simp [foot]
theorem adr_ne (L : Addr) : L + 2 ≠ L + 1 := Nat.ne_of_gt (Nat.lt_succ_self (L + 1))
theorem IsCur.cons (G : IsCur T ks c d ps spot depth σ) {a : Addr} {x : Cell} (ha : a ∉ foots σ) : IsCur T ks c d ps spot depth ((a, x) :: σ) :=
  ⟨by rw [lookup_cons_ne (fun e => ha (by subst e; exact lookup_foot G.hc))]; exact G.hc, G.tk, G.sz⟩
theorem upd_second {a b : Addr} {x y z : Cell} (hab : a ≠ b) (hb : b ∉ foots σ) : upd ((a, x) :: (b, y) :: σ) b z = (a, x) :: (b, z) :: σ := by
  have := upd_head (c := y) (c' := z) hb
  unfold upd at this ⊢
  rw [List.map_cons, if_neg hab, this]

noncomputable def begB (t u : Str × Str) (j : Nat) : Bool := if (isB t "revert" && ((j == 1) && (u.1 == ("name" : Str)))) = true then false else (u.1 == ("name" : Str)) || placeL.any (fun x => isB u x)
inductive BegR : List (Str × Str) → Bool → Prop
  | map {t r} : isB t "mapping" = true → BegR (t :: r) true
  | no {t r} : isB t "mapping" = false → EotR (t :: r) none → BegR (t :: r) false
  | yes {t r j u r'} : isB t "mapping" = false → EotR (t :: r) (some j) → (t :: r).drop j = u :: r' → BegR (t :: r) (begB t u j)

noncomputable def wIsB (u : Str × Str) : PV → Bool
  | .str x => isB u x
  | _ => false

theorem places_any (u : Str × Str) : ∀ ys : List Str, (!(((ys.map PV.str).filter (wIsB u)).map id).isEmpty) = ys.any (fun x => isB u x)
  | [] => rfl
  | y :: ys => by
    have ih := places_any u ys
    rw [List.map_cons, List.filter_cons, List.any_cons]
    show (!((if isB u y = true then _ else _ : List PV).map id).isEmpty) = _
    cases isB u y with
    | true => rfl
    | false => rw [if_neg (by decide), ih]; rfl

theorem fn_begins (hn : 8 ≤ n) (H : Tab C T) {k : Nat} (G : IsCur T ks c d ps spot depth σ) {l : List (Str × Str)} {b : Bool} (hd : ks.drop (spot + k) = l) (he : Ends l) (hB : BegR l b) :
    FN C n T.fBegins [.ref c, .int k] σ fun p σ' => p = .bool b ∧ σ' = σ := by
  refine FN.le ?_ hn
  refine lit H.fBegins.fn fun pa bo sc hp hb hs F => ?_
  conv at hp => rhs; whnf
  conv at hb => rhs; whnf
  conv at hs => rhs; whnf
  subst hp hb hs
  refine fn_enter_cells (xc := "cursor") (xa := "ahead") (xe := "end") F (fun _ _ _ _ _ _ _ _ _ _ => rfl) (fun L => rfl) rfl rfl (by decide) (by decide) fun L q cd hL hL1 hL2 => ?_
  have Gc : ∀ z, IsCur T ks c d ps spot depth ((L + 1, .cel (some (.ref c))) :: (L + 2, .cel z) :: σ) := fun z => (G.cons hL2).cons (by
    intro h
    have : foots ((L + 2, Cell.cel z) :: σ) = (L + 2) :: foots σ := rfl
    rw [this] at h
    rcases List.mem_cons.mp h with h | h
    · exact adr_ne L h.symm
    · exact hL1 h)
  have lk1 : ∀ z, List.lookup (L + 1) ((L + 1, Cell.cel (some (PV.ref c))) :: (L + 2, .cel z) :: σ) = some (.cel (some (.ref c))) := fun z => lookup_cons_eq
  have lk2 : ∀ z, List.lookup (L + 2) ((L + 1, Cell.cel (some (PV.ref c))) :: (L + 2, .cel z) :: σ) = some (.cel z) := fun z => by
    rw [lookup_cons_ne (adr_ne L)]; exact lookup_cons_eq
  refine x_if (tb_plain ?_)
  refine ev_curm H H.mBehind (by decide) (Gc _) (fun _ h => ev_namec rfl (lk1 _) h rfl rfl rfl) ?_ rfl rfl (by simp) rfl
  repeat (walk_at "sol")
  obtain ⟨t0, r0, ht0⟩ := he.ne
  refine (fn_isB (n := 7) (by omega) H (Gc _) (hd.trans ht0)).mono ?_
  rintro _ _ ⟨rfl, rfl⟩
  cases hB with
  | map h1 =>
    rename_i t r
    cases ht0
    rw [h1]
    refine bex ⟨fun _ => ?_, fun h => (by cases h)⟩
    repeat (walk_at "sol")
    exact ⟨_, _, _, _, rfl, rfl, rfl, rfl⟩
  | no h1 h2 =>
    rename_i t r
    cases ht0
    rw [h1]
    refine bex ⟨fun h => (by cases h), fun _ => ?_⟩
    repeat (walk_at "sol")
    refine x_assignc ?_ rfl rfl rfl rfl
    refine ev_def H.fEot ?_ rfl rfl rfl rfl (by simp)
    refine es_cons (ev_namec rfl (lk1 _) ?_ rfl rfl rfl) rfl
    repeat (walk_at "sol")
    refine (fn_eot (n := 7) (by omega) H (Gc _) hd he h2).mono ?_
    rintro _ _ ⟨rfl, rfl⟩
    refine ⟨⟨_, lk2 _⟩, ?_⟩
    rw [upd_second (adr_ne L).symm hL2]
    refine x_if (tb_bool (ta_or (tb_cmp (ev_namec rfl (lk2 _) ?_ rfl rfl rfl) rfl)))
    repeat (walk_at "sol")
    refine ⟨fun h => absurd h (by show ¬ (decide ((-1 : Int) < 0) = false); decide), fun _ => ⟨fun _ => ?_, fun h => (by cases h)⟩⟩
    repeat (walk_at "sol")
    exact ⟨_, _, _, _, rfl, rfl, rfl, rfl⟩
  | yes h1 h2 h3 =>
    rename_i t r j u r'
    cases ht0
    rw [h1]
    refine bex ⟨fun h => (by cases h), fun _ => ?_⟩
    repeat (walk_at "sol")
    refine x_assignc ?_ rfl rfl rfl rfl
    refine ev_def H.fEot ?_ rfl rfl rfl rfl (by simp)
    refine es_cons (ev_namec rfl (lk1 _) ?_ rfl rfl rfl) rfl
    repeat (walk_at "sol")
    refine (fn_eot (n := 7) (by omega) H (Gc _) hd he h2).mono ?_
    rintro _ _ ⟨rfl, rfl⟩
    have hd' : ks.drop (spot + (k + j)) = u :: r' := by rw [← Nat.add_assoc, ← List.drop_drop, hd, h3]
    refine ⟨⟨_, lk2 _⟩, ?_⟩
    rw [upd_second (adr_ne L).symm hL2]
    refine x_if (tb_bool (ta_or (tb_cmp (ev_namec rfl (lk2 _) ?_ rfl rfl rfl) rfl)))
    show EV _ _ _ _ _ _ fun q σ2 => OP2 _ _ σ2 _ (.int ((k + j : Nat) : Int)) q _
    repeat (walk_at "sol")
    refine ⟨fun _ => ?_, fun h => absurd (of_decide_eq_true h) (by omega)⟩
    refine ta_or (tb_mono (K := fun x σ' => x = (isB t0 "revert" && ((j == 1) && (u.1 == ("name" : Str)))) ∧ σ' = ((L + 1, Cell.cel (some (PV.ref c))) :: (L + 2, .cel (some (.int (at_ k (some j))))) :: σ)) (tb_bool (ta_and (tb_plain ?_))) ?_)
    · refine ev_curm H H.mBehind (by decide) (Gc _) (fun _ h => ev_namec rfl (lk1 _) h rfl rfl rfl) ?_ rfl rfl (by simp) rfl
      repeat (walk_at "sol")
      refine (fn_isB (n := 7) (by omega) H (Gc _) hd).mono ?_
      rintro _ _ ⟨rfl, rfl⟩
      refine bex ⟨fun h4 => ?_, fun h4 => ?_⟩
      case refine_2 => rw [h4]; exact ⟨rfl, rfl⟩
      rw [h4, Bool.true_and]
      refine ta_and (tb_cmp (ev_namec rfl (lk2 _) ?_ rfl rfl rfl) rfl)
      show EV _ _ _ _ _ _ fun q σ2 => OP2 _ _ σ2 _ (.int ((k + j : Nat) : Int)) q _
      repeat (walk_at "sol")
      have hj : (((k + j : Nat) : Int) == (k : Int) + 1) = (j == 1) := by
        rw [Bool.eq_iff_iff, beq_iff_eq, beq_iff_eq]; omega
      rw [hj]
      refine ⟨fun h5 => ?_, fun h5 => ?_⟩
      case refine_2 => rw [h5]; exact ⟨rfl, rfl⟩
      rw [h5, Bool.true_and]
      refine ta_and (tb_cmp (ev_attr ?_ rfl) rfl)
      refine ev_curm H H.mPeek (by decide) (Gc _) (fun _ h => ev_namec rfl (lk1 _) h rfl rfl rfl) ?_ rfl rfl (by simp) rfl
      refine es_cons (ev_namec rfl (lk2 _) ?_ rfl rfl rfl) rfl
      repeat (walk_at "sol")
      refine (fn_peek (n := 7) (by omega) H (Gc _) hd').mono ?_
      rintro _ _ ⟨⟨line, rfl⟩, rfl⟩
      repeat (walk_at "sol")
      refine ⟨fun h6 => ta_and_nil ⟨h6.symm, rfl⟩, fun h6 => ⟨h6.symm, rfl⟩⟩
    rintro x _ ⟨hx, rfl⟩
    refine ⟨fun hf => ta_or_nil ⟨fun h => (by cases h), fun _ => ?_⟩, fun ht => ⟨fun _ => ?_, fun h => (by cases h)⟩⟩
    case refine_2 =>
      repeat (walk_at "sol")
      refine ⟨_, _, _, _, rfl, rfl, ?_, rfl⟩
      unfold begB
      rw [← hx, if_pos ht]
    repeat (walk_at "sol")
    have hb : begB t0 u j = ((u.1 == ("name" : Str)) || placeL.any (fun x => isB u x)) := by
      unfold begB
      rw [← hx, hf, if_neg (by decide)]
    rw [hb]
    refine ev_or (ev_cmp (ev_attr ?_ rfl) rfl)
    refine ev_curm H H.mPeek (by decide) (Gc _) (fun _ h => ev_namec rfl (lk1 _) h rfl rfl rfl) ?_ rfl rfl (by simp) rfl
    refine es_cons (ev_namec rfl (lk2 _) ?_ rfl rfl rfl) rfl
    repeat (walk_at "sol")
    refine (fn_peek (n := 7) (by omega) H (Gc _) hd').mono ?_
    rintro _ _ ⟨⟨line, rfl⟩, rfl⟩
    repeat (walk_at "sol")
    refine ⟨fun h6 => ?_, fun h6 => ?_⟩
    case refine_2 =>
      refine ⟨_, _, _, _, rfl, rfl, ?_, rfl⟩
      rw [h6, Bool.true_or]
    rw [h6, Bool.false_or]
    refine ev_cmp ?_ rfl
    refine ev_comp (cl := [("end", L + 2), ("cursor", L + 1)]) id (wIsB u) ?_ (fun _ => rfl) rfl rfl (by intro x hx hl; simp at hx; rcases hx with rfl | rfl | rfl | rfl <;> first | rfl | cases hl) (noCell_of rfl)
    refine ie_tup ?_ plainly_name
    refine ev_data H.dPlaces ?_ rfl rfl rfl rfl
    refine ⟨_, rfl, by decide, ?_, ?_⟩
    · intro p hp L' D qs hD
      obtain ⟨w, _, rfl⟩ := List.mem_map.mp hp
      have G2 := (Gc (some (.int (at_ k (some j))))).cons (a := D) (x := .lst qs) hD
      have e1 : List.lookup (L + 1) ((D, Cell.lst qs) :: (L + 1, Cell.cel (some (PV.ref c))) :: (L + 2, .cel (some (.int (at_ k (some j))))) :: σ) = some (.cel (some (.ref c))) := by
        rw [lookup_cons_ne (fun e => hD (by rw [← e]; simp [foots, foot]))]; exact lk1 _
      have e2 : List.lookup (L + 2) ((D, Cell.lst qs) :: (L + 1, Cell.cel (some (PV.ref c))) :: (L + 2, .cel (some (.int (at_ k (some j))))) :: σ) = some (.cel (some (.int (at_ k (some j))))) := by
        rw [lookup_cons_ne (fun e => hD (by rw [← e]; simp [foots, foot]))]; exact lk2 _
      refine ⟨_, as_name rfl rfl, ?_, fun _ => ?_⟩
      · show TB _ _ _ _ _ _ _
        refine tb_plain ?_
        refine ev_curm H H.mBehind (by decide) G2 (fun _ h => ev_namec rfl e1 h rfl rfl rfl) ?_ rfl rfl (by simp) rfl
        walk_at "sol"
        walk_at "sol"
        refine es_cons (ev_namec rfl e2 ?_ rfl rfl rfl) rfl
        repeat (walk_at "sol")
        refine (fn_isB (n := 7) (by omega) H G2 hd').mono ?_
        rintro _ _ ⟨rfl, rfl⟩
        exact bex ⟨rfl, rfl⟩
      · repeat (walk_at "sol")
        exact ⟨rfl, rfl⟩
    refine ev_list ?_
    repeat (walk_at "sol")
    refine ⟨by decide, op_ne_nil ?_⟩
    exact ⟨_, _, _, _, rfl, rfl, congrArg PV.bool (places_any u placeL), rfl⟩
end

section
variable {C : Cx} {n : Nat} {env : Env} {ρ : List (Str × PV)} {σ : Sig} {K : PV → Sig → Prop}
variable {T : Ad} {c d : Addr} {ps : List PV} {ks : List (Str × Str)} {spot : Nat} {depth : Int}

noncomputable def dots (ys : List Str) : List (Str × Str) := ys.flatMap fun y => [("sign", "."), ("name", y)]
noncomputable def joined (x : Str) (ys : List Str) : Str := ys.foldl (fun s y => s ++ (("." : Str) ++ y)) x
noncomputable def sumL (ys : List Str) : Nat := (ys.map fun y => y.length + 1).sum
theorem str_length_append (x y : Str) : (x ++ y).length = x.length + y.length := by
  show (x.cps ++ y.cps).size = _
  rw [Array.size_append]; rfl
theorem fn_path (hn : 6 ≤ n) (H : Tab C T) (G : IsCur T ks c d ps spot depth σ) {x0 : Str} {ys : List Str} {u w : Str × Str} {r : List (Str × Str)} {wd : Str}
    (hd : ks.drop spot = (("name" : Str), x0) :: (dots ys ++ u :: r)) (hu : isB u "." = false) (hz : x0.length + sumL ys ≤ 1000) :
    FN C n T.fPath [.ref c, .str wd] σ fun p σ' => p = .str (joined x0 ys) ∧ σ' = upd σ c (curC T d ps (spot + (1 + 2 * ys.length)) depth) := by
  refine FN.le ?_ hn
  obtain ⟨aE, ME⟩ := H.mExpName
  refine lit H.fPath.fn fun pa bo sc hp hb hs F => ?_
  conv at hp => rhs; whnf
  conv at hb => rhs; whnf
  conv at hs => rhs; whnf
  subst hp hb hs
  refine fn_enter2 (x1 := "cursor") (x2 := "word") F (fun _ _ _ _ _ _ _ _ _ _ => rfl) (allLoc_of rfl) (noCell_of rfl) fun L q cd => ?_
  repeat (walk_at "sol")
  have nxt : ∀ ys : List Str, ∃ t r', dots ys ++ u :: r = t :: r' := fun ys => by
    cases ys with
    | nil => exact ⟨_, _, rfl⟩
    | cons y ys => exact ⟨_, _, rfl⟩
  obtain ⟨t1, r1, e1⟩ := nxt ys
  refine ev_curm H ME (by decide) G (fun _ h => ev_name rfl h rfl rfl rfl) ?_ rfl rfl (by simp) rfl
  repeat (walk_at "sol")
  refine (fn_expect_name (n := 5) (by omega) H ME G (by rw [hd, e1]) rfl).mono ?_
  rintro _ _ ⟨rfl, rfl⟩
  repeat (walk_at "sol")
  refine x_while (fun m (ρ' : List (Str × PV)) (σ' : Sig) => ∃ (f : Str) (zs : List Str) (sp : Nat), ρ' = ([("found", .str f), ("word", .str wd), ("cursor", .ref c)] : List (Str × PV)) ∧ σ' = upd σ c (curC T d ps sp depth) ∧ ks.drop sp = dots zs ++ u :: r ∧ zs.length = m ∧ joined f zs = joined x0 ys ∧ sp + 2 * zs.length = spot + (1 + 2 * ys.length) ∧ f.length + sumL zs ≤ 1000)
    ⟨_, _, Sub.cons rfl (Sub.cons rfl (Sub.cons rfl .nil)), x0, ys, spot + 1, rfl, rfl, drop_succ hd, rfl, rfl, by omega, hz⟩ ?_
  rintro m _ _ ⟨f, zs, sp, rfl, rfl, hd', rfl, hj, hsp, hzz⟩
  have G' := G.upd sp depth
  cases zs with
  | nil =>
    refine tb_plain ?_
    walk_at "cur"
    repeat (walk_at "sol")
    refine (fn_accept_no (n := 5) (by omega) H G' hd' hu).mono ?_
    rintro _ _ ⟨rfl, rfl⟩
    refine bex ⟨fun _ => ?_, fun h => (by cases h)⟩
    repeat (walk_at "sol")
    refine ⟨congrArg PV.str hj, ?_⟩
    rw [List.length_nil] at hsp
    rw [← hsp]; rfl
  | cons z zs =>
    obtain ⟨t2, r2, e2⟩ := nxt zs
    have hd1 : ks.drop sp = (("sign" : Str), ("." : Str)) :: (("name" : Str), z) :: t2 :: r2 := by rw [hd', ← e2]; rfl
    have hd2 : ks.drop (sp + 1) = (("name" : Str), z) :: t2 :: r2 := drop_succ hd1
    refine tb_plain ?_
    walk_at "cur"
    repeat (walk_at "sol")
    refine (fn_accept_yes (n := 5) (by omega) H G' hd1 (by decide)).mono ?_
    rintro _ _ ⟨rfl, rfl⟩
    rw [upd_upd]
    refine bex ⟨fun h => (by cases h), fun _ => ?_⟩
    have G2 := G.upd (sp + 1) depth
    repeat (walk_at "sol")
    refine ev_curm H ME (by decide) G2 (fun _ h => ev_name rfl h rfl rfl rfl) ?_ rfl rfl (by simp) rfl
    repeat (walk_at "sol")
    refine (fn_expect_name (n := 5) (by omega) H ME G2 hd2 rfl).mono ?_
    rintro _ _ ⟨rfl, rfl⟩
    rw [upd_upd]
    have hs : sumL (z :: zs) = (z.length + 1) + sumL zs := by simp [sumL]
    have h1 : ("." : Str).length = 1 := rfl
    have hl : (("." : Str) ++ z).length = 1 + z.length := by rw [str_length_append, h1]
    refine op_add_str (x := ".") (y := z) (by rw [sizeLine_eq, h1]; omega) ?_
    refine op_iadd_str (x := f) (y := ("." : Str) ++ z) (by rw [sizeLine_eq, hl]; omega) ?_
    repeat (walk_at "sol")
    refine ⟨_, Sub.cons rfl (Sub.cons rfl (Sub.cons rfl .nil)), zs.length, by simp, f ++ (("." : Str) ++ z), zs, sp + 2, rfl, rfl, ?_, rfl, hj, ?_, ?_⟩
    · rw [e2]; exact drop_succ hd2
    · rw [List.length_cons] at hsp; omega
    · rw [str_length_append, hl]; omega

inductive NamedR : List (Str × Str) → Nat → Str → Prop
  | path {x0 ys u r} : isEl? ("name", x0) = some false → isB u "." = false → x0.length + sumL ys ≤ 1000 → NamedR (("name", x0) :: (dots ys ++ u :: r)) (1 + 2 * ys.length) (joined x0 ys)
  | pay {t u v r} : isEl? t = some true → elem? t.2 = some "address" → isB u "payable" = true → NamedR (t :: u :: v :: r) 2 "address"
  | nopay {t u r} : isEl? t = some true → elem? t.2 = some "address" → isB u "payable" = false → NamedR (t :: u :: r) 1 "address"
  | el {t u r nm} : isEl? t = some true → elem? t.2 = some nm → (nm == ("address" : Str)) = false → NamedR (t :: u :: r) 1 nm

theorem cv_Syn0 (hn : 3 ≤ n) (H : Tab C T) {k name : Str} {line : Int} {more : PV} (h : K (synPV T k line name [] more 1) σ) : CV C n σ (.ref T.aSyn) [.str k, .int line, .str name, .list [], more] K :=
  cv_Syn hn H (kh := []) (fun i q h => by simp at h) rfl (by decide) h

theorem fn_named (hn : 7 ≤ n) (H : Tab C T) (G : IsCur T ks c d ps spot depth σ) {l : List (Str × Str)} {j : Nat} {nm : Str} (hd : ks.drop spot = l) (hN : NamedR l j nm) :
    FN C n T.fNamed [.ref c] σ fun p σ' => (∃ line more, p = synPV T "type_name" line nm [] more 1) ∧ σ' = upd σ c (curC T d ps (spot + j) depth) := by
  refine FN.le ?_ hn
  refine lit H.fNamed.fn fun pa bo sc hp hb hs F => ?_
  conv at hp => rhs; whnf
  conv at hb => rhs; whnf
  conv at hs => rhs; whnf
  subst hp hb hs
  refine fn_enter1 (x1 := "cursor") F (fun _ _ _ _ _ _ _ _ _ => rfl) (allLoc_of rfl) (noCell_of rfl) fun L q cd => ?_
  repeat (walk_at "sol")
  walk_at "cur"
  repeat (walk_at "sol")
  cases hN with
  | path h1 h2 h3 =>
    rename_i x0 ys u r
    refine (fn_line (n := 6) (by omega) H G hd).mono ?_
    rintro _ _ ⟨⟨line, rfl⟩, rfl⟩
    repeat (walk_at "sol")
    refine tb_plain (ev_def H.fIsEl ?_ rfl rfl rfl rfl (by simp))
    repeat (walk_at "sol")
    refine (fn_isEl (n := 6) (k := 0) (by omega) H G hd h1).mono ?_
    rintro _ _ ⟨rfl, rfl⟩
    refine bex ⟨fun _ => ?_, fun h => (by cases h)⟩
    refine x_return (ev_class H.cSyn ?_ rfl rfl rfl rfl (by simp))
    repeat (walk_at "sol")
    refine ev_def H.fPath ?_ rfl rfl rfl rfl (by simp)
    repeat (walk_at "sol")
    refine (fn_path (n := 6) (w := u) (by omega) H G hd h2 h3).mono ?_
    rintro _ _ ⟨rfl, rfl⟩
    repeat (walk_at "sol")
    refine ev_list ?_
    repeat (walk_at "sol")
    refine ⟨by decide, ?_⟩
    repeat (walk_at "sol")
    refine cv_Syn0 (by omega) H ?_
    repeat (walk_at "sol")
    exact ⟨⟨line, _, rfl⟩, rfl⟩
  | pay h1 h2 h3 =>
    rename_i t u v r
    refine (fn_line (n := 6) (by omega) H G hd).mono ?_
    rintro _ _ ⟨⟨line, rfl⟩, rfl⟩
    repeat (walk_at "sol")
    refine tb_plain (ev_def H.fIsEl ?_ rfl rfl rfl rfl (by simp))
    repeat (walk_at "sol")
    refine (fn_isEl (n := 6) (k := 0) (by omega) H G hd h1).mono ?_
    rintro _ _ ⟨rfl, rfl⟩
    refine bex ⟨fun h => (by cases h), fun _ => ?_⟩
    repeat (walk_at "sol")
    refine ev_def H.fEle ?_ rfl rfl rfl rfl (by simp)
    repeat (walk_at "sol")
    walk_at "cur"
    repeat (walk_at "sol")
    refine (fn_take (n := 6) (by omega) H G hd).mono ?_
    rintro _ _ ⟨⟨line2, rfl⟩, rfl⟩
    repeat (walk_at "sol")
    refine (fn_elementary (n := 6) (by omega) H h2).mono ?_
    rintro _ _ ⟨rfl, rfl⟩
    have G2 := G.upd (spot + 1) depth
    repeat (walk_at "sol")
    refine ev_and ?_
    repeat (walk_at "sol")
    refine ⟨fun _ => ?_, fun h => absurd h (by decide)⟩
    walk_at "cur"
    repeat (walk_at "sol")
    refine (fn_accept_yes (n := 6) (by omega) H G2 (drop_succ hd) h3).mono ?_
    rintro _ _ ⟨rfl, rfl⟩
    rw [upd_upd]
    refine x_return (ev_class H.cSyn ?_ rfl rfl rfl rfl (by simp))
    repeat (walk_at "sol")
    refine ev_list ?_
    repeat (walk_at "sol")
    refine ⟨by decide, ?_⟩
    repeat (walk_at "sol")
    refine ev_if (tb_plain ?_)
    repeat (walk_at "sol")
    refine ⟨fun _ => ?_, fun h => (by cases h)⟩
    repeat (walk_at "sol")
    refine cv_Syn0 (by omega) H ?_
    repeat (walk_at "sol")
    exact ⟨⟨line, _, rfl⟩, rfl⟩
  | nopay h1 h2 h3 =>
    rename_i t u r
    refine (fn_line (n := 6) (by omega) H G hd).mono ?_
    rintro _ _ ⟨⟨line, rfl⟩, rfl⟩
    repeat (walk_at "sol")
    refine tb_plain (ev_def H.fIsEl ?_ rfl rfl rfl rfl (by simp))
    repeat (walk_at "sol")
    refine (fn_isEl (n := 6) (k := 0) (by omega) H G hd h1).mono ?_
    rintro _ _ ⟨rfl, rfl⟩
    refine bex ⟨fun h => (by cases h), fun _ => ?_⟩
    repeat (walk_at "sol")
    refine ev_def H.fEle ?_ rfl rfl rfl rfl (by simp)
    repeat (walk_at "sol")
    walk_at "cur"
    repeat (walk_at "sol")
    refine (fn_take (n := 6) (by omega) H G hd).mono ?_
    rintro _ _ ⟨⟨line2, rfl⟩, rfl⟩
    repeat (walk_at "sol")
    refine (fn_elementary (n := 6) (by omega) H h2).mono ?_
    rintro _ _ ⟨rfl, rfl⟩
    have G2 := G.upd (spot + 1) depth
    repeat (walk_at "sol")
    refine ev_and ?_
    repeat (walk_at "sol")
    refine ⟨fun _ => ?_, fun h => absurd h (by decide)⟩
    walk_at "cur"
    repeat (walk_at "sol")
    refine (fn_accept_no (n := 6) (by omega) H G2 (drop_succ hd) h3).mono ?_
    rintro _ _ ⟨rfl, rfl⟩
    refine x_return (ev_class H.cSyn ?_ rfl rfl rfl rfl (by simp))
    repeat (walk_at "sol")
    refine ev_list ?_
    repeat (walk_at "sol")
    refine ⟨by decide, ?_⟩
    repeat (walk_at "sol")
    refine ev_if (tb_plain ?_)
    repeat (walk_at "sol")
    refine ⟨fun h => (by cases h), fun _ => ?_⟩
    repeat (walk_at "sol")
    refine cv_Syn0 (by omega) H ?_
    repeat (walk_at "sol")
    exact ⟨⟨line, _, rfl⟩, rfl⟩
  | el h1 h2 h3 =>
    rename_i t u r
    refine (fn_line (n := 6) (by omega) H G hd).mono ?_
    rintro _ _ ⟨⟨line, rfl⟩, rfl⟩
    repeat (walk_at "sol")
    refine tb_plain (ev_def H.fIsEl ?_ rfl rfl rfl rfl (by simp))
    repeat (walk_at "sol")
    refine (fn_isEl (n := 6) (k := 0) (by omega) H G hd h1).mono ?_
    rintro _ _ ⟨rfl, rfl⟩
    refine bex ⟨fun h => (by cases h), fun _ => ?_⟩
    repeat (walk_at "sol")
    refine ev_def H.fEle ?_ rfl rfl rfl rfl (by simp)
    repeat (walk_at "sol")
    walk_at "cur"
    repeat (walk_at "sol")
    refine (fn_take (n := 6) (by omega) H G hd).mono ?_
    rintro _ _ ⟨⟨line2, rfl⟩, rfl⟩
    repeat (walk_at "sol")
    refine (fn_elementary (n := 6) (by omega) H h2).mono ?_
    rintro _ _ ⟨rfl, rfl⟩
    have G2 := G.upd (spot + 1) depth
    repeat (walk_at "sol")
    refine ev_and ?_
    repeat (walk_at "sol")
    rw [h3]
    refine ⟨fun h => (by cases h), fun _ => ?_⟩
    refine x_return (ev_class H.cSyn ?_ rfl rfl rfl rfl (by simp))
    repeat (walk_at "sol")
    refine ev_list ?_
    repeat (walk_at "sol")
    refine ⟨by decide, ?_⟩
    repeat (walk_at "sol")
    refine ev_if (tb_plain ?_)
    repeat (walk_at "sol")
    refine ⟨fun h => (by cases h), fun _ => ?_⟩
    repeat (walk_at "sol")
    refine cv_Syn0 (by omega) H ?_
    repeat (walk_at "sol")
    exact ⟨⟨line, _, rfl⟩, rfl⟩
end

section
variable {C : Cx} {n : Nat} {env : Env} {ρ : List (Str × PV)} {σ : Sig} {K : PV → Sig → Prop}
variable {T : Ad} {c d : Addr} {ps : List PV} {ks : List (Str × Str)} {spot : Nat} {depth : Int}

noncomputable def delta (t : Str × Str) : Int := if isB t "[" = true then 1 else if isB t "]" = true then -1 else 0
inductive SkipR : List (Str × Str) → Int → Nat → Prop
  | stop {t r} : isB t "]" = true → SkipR (t :: r) 0 0
  | step {t u r dp m} : (isB t "]" && (dp == 0)) = false → SkipR (u :: r) (dp + delta t) m → SkipR (t :: u :: r) dp (m + 1)

theorem fn_length (hn : 6 ≤ n) (H : Tab C T) (G : IsCur T ks c d ps spot depth σ) {l : List (Str × Str)} {m : Nat} (hd : ks.drop spot = l) (hS : SkipR l 0 m) (hm : m < 60) :
    FN C n T.gLen [.ref c] σ fun p σ' => σ' = upd σ c (curC T d ps (spot + m) depth) := by
  refine FN.le ?_ hn
  refine FN.nodup fun hnd => ?_
  obtain ⟨t0, r0, ht0⟩ : ∃ t r, l = t :: r := by cases hS <;> exact ⟨_, _, rfl⟩
  refine lit H.gLen.fn fun pa bo sc hp hb hs F => ?_
  conv at hp => rhs; whnf
  conv at hb => rhs; whnf
  conv at hs => rhs; whnf
  subst hp hb hs
  refine fn_enter1 (x1 := "cursor") F (fun _ _ _ _ _ _ _ _ _ => rfl) (allLoc_of rfl) (noCell_of rfl) fun L q cd => ?_
  refine x_swapped (a := "line") (b := "deep") ?_ rfl rfl rfl rfl rfl
  refine ev_tuple (es_cons ?_ rfl)
  walk_at "cur"
  repeat (walk_at "sol")
  refine (fn_line (n := 5) (by omega) H G (hd.trans ht0)).mono ?_
  rintro _ σ' ⟨⟨line, rfl⟩, h⟩
  subst σ'
  repeat (walk_at "sol")
  refine ⟨by simp, _, _, rfl, ?_⟩
  refine x_for (fun i (ρ' : List (Str × PV)) (σ' : Sig) => ∃ (dp : Int) (l' : List (Str × Str)) (m' : Nat), ρ' = ([("deep", .int dp), ("line", .int line), ("cursor", .ref c)] : List (Str × PV)) ∧ σ' = upd σ c (curC T d ps (spot + i) depth) ∧ ks.drop (spot + i) = l' ∧ SkipR l' dp m' ∧ m' + i = m) ?_ (fun _ => rfl)
  refine ie_range (y := "") ?_ H.no_range rfl rfl rfl rfl rfl
  refine ev_int ?_
  refine ⟨60, rfl, by decide, ⟨_, Sub.cons rfl (Sub.cons rfl (Sub.cons rfl .nil)), 0, l, m, rfl, (upd_same hnd G.hc).symm, hd, hS, rfl⟩, ?_, ?_⟩
  · rintro i q _ _ hq ⟨dp, l', m', rfl, rfl, hd', hS', rfl⟩
    have G' := G.upd (spot + i) depth
    refine ⟨_, as_name rfl rfl, ?_⟩
    cases hS' with
    | stop h1 =>
      rename_i t r
      refine x_if (tb_bool (ta_and (tb_plain ?_)))
      walk_at "cur"
      repeat (walk_at "sol")
      refine (fn_at (n := 5) (by omega) H G' hd').mono ?_
      rintro _ σ' ⟨rfl, h⟩
      subst σ'
      rw [h1]
      refine bex ⟨fun _ => ?_, fun h => (by cases h)⟩
      refine ta_and ?_
      repeat (walk_at "sol")
      refine ⟨fun _ => ta_and_nil ⟨fun _ => ?_, fun h => (by cases h)⟩, fun h => absurd h (by decide)⟩
      refine x_break ?_
      repeat (walk_at "sol")
      refine ev_class H.cSyn ?_ rfl rfl rfl rfl (by simp)
      repeat (walk_at "sol")
      refine ev_list ?_
      repeat (walk_at "sol")
      refine ⟨by decide, ?_⟩
      repeat (walk_at "sol")
      refine ev_tuple ?_
      repeat (walk_at "sol")
      refine ⟨by decide, ?_⟩
      repeat (walk_at "sol")
      refine cv_Syn0 (by omega) H ?_
      repeat (walk_at "sol")
      rw [Nat.zero_add]
    | step h1 h2 =>
      rename_i t u r m'
      refine x_if (tb_mono (K := fun x σ' => x = false ∧ σ' = upd σ c (curC T d ps (spot + i) depth)) (tb_bool (ta_and (tb_plain ?_))) ?_)
      · walk_at "cur"
        repeat (walk_at "sol")
        refine (fn_at (n := 5) (by omega) H G' hd').mono ?_
        rintro _ σ' ⟨rfl, h⟩
        subst σ'
        refine bex ⟨fun h3 => ?_, fun h3 => ⟨rfl, rfl⟩⟩
        rw [h3, Bool.true_and] at h1
        refine ta_and ?_
        repeat (walk_at "sol")
        rw [h1]
        exact ⟨fun h => (by cases h), fun _ => ⟨rfl, rfl⟩⟩
      rintro _ σ' ⟨rfl, h⟩
      subst σ'
      refine ⟨fun h => (by cases h), fun _ => ?_⟩
      repeat (walk_at "sol")
      refine EV.mono (K := fun p σ' => p = .int (delta t) ∧ σ' = upd σ c (curC T d ps (spot + i) depth)) (ev_if (tb_plain ?_)) ?_
      · walk_at "cur"
        repeat (walk_at "sol")
        refine (fn_at (n := 5) (by omega) H G' hd').mono ?_
        rintro _ σ' ⟨rfl, h⟩
        subst σ'
        refine bex ⟨fun h3 => ?_, fun h3 => ?_⟩
        · repeat (walk_at "sol")
          exact ⟨by unfold delta; rw [if_pos h3], rfl⟩
        refine ev_if (tb_plain ?_)
        walk_at "cur"
        repeat (walk_at "sol")
        refine (fn_at (n := 5) (by omega) H G' hd').mono ?_
        rintro _ σ' ⟨rfl, h⟩
        subst σ'
        refine bex ⟨fun h4 => ?_, fun h4 => ?_⟩
        · repeat (walk_at "sol")
          exact ⟨by unfold delta; rw [h3, if_neg (by decide), if_pos h4], rfl⟩
        · repeat (walk_at "sol")
          exact ⟨by unfold delta; rw [h3, if_neg (by decide), h4, if_neg (by decide)], rfl⟩
      rintro _ σ' ⟨rfl, h⟩
      subst σ'
      repeat (walk_at "sol")
      walk_at "cur"
      repeat (walk_at "sol")
      refine (fn_take (n := 5) (by omega) H G' hd').mono ?_
      rintro _ σ' ⟨_, h⟩
      subst σ'
      rw [upd_upd]
      repeat (walk_at "sol")
      exact ⟨_, Sub.cons rfl (Sub.cons rfl (Sub.cons rfl .nil)), dp + delta t, u :: r, m', rfl, rfl, drop_succ hd', h2, by omega⟩
  · rintro _ _ ⟨dp, l', m', _, _, _, _, h⟩
    simp only [List.length_map, List.length_range] at h
    omega

theorem ev_defval {x : Str} {pos : Pos} {f : Addr} {st : Stmt} (D : DefAt C f x st) (h : K (.ref f) σ) (hf : env.scope.kind = .function) (hl : env.kindOf x = some .globalImplicit)
    (he : env.globals = mainGlobals) (hd : (x == ("__debug__" : Str)) = false) : EV C n env ρ σ (.Name x pos) K := ev_glob (p := .ref f) D.mg (fun _ _ => rfl) h hf hl he hd

/-- brackets, each with nothing or a row in it -/
noncomputable def brk (Fs : List (List (Str × Str))) : List (Str × Str) := Fs.flatMap fun F => (("sign" : Str), ("[" : Str)) :: (F ++ [(("sign" : Str), ("]" : Str))])
noncomputable def FillOk (F : List (Str × Str)) : Prop := F = [] ∨ ((∃ t r, F = t :: r ∧ isB t "]" = false) ∧ F.length < 60 ∧ ∀ r, SkipR (F ++ (("sign" : Str), ("]" : Str)) :: r) 0 F.length)
noncomputable def IsTy (T : Ad) : Nat → Str → PV → Prop
  | 0, nm, p => ∃ line more, p = synPV T "type_name" line nm [] more 1
  | k + 1, nm, p => ∃ line more q, IsTy T k nm q ∧ p = synPV T "type_array" line "" [q] more ((k + 2 : Nat) : Int)
theorem IsTy.h {k : Nat} {nm : Str} {p : PV} (h : IsTy T k nm p) : ∃ x1 x2 x3 x4 x5, p = .inst T.aSyn synNs [x1, x2, x3, x4, x5, .int ((k + 1 : Nat) : Int)] := by
  cases k with
  | zero => obtain ⟨line, more, rfl⟩ := h; exact ⟨_, _, _, _, _, rfl⟩
  | succ k => obtain ⟨line, more, q, _, rfl⟩ := h; exact ⟨_, _, _, _, _, rfl⟩

theorem fn_typeAt (hn : 9 ≤ n) (H : Tab C T) (G : IsCur T ks c d ps spot 0 σ) {l : List (Str × Str)} {j : Nat} {nm : Str} {Fs : List (List (Str × Str))} {t0 t1 t2 u : Str × Str} {r0 r2 r : List (Str × Str)} (hd : ks.drop spot = l) (hl : l = t0 :: r0) (hmp : isB t0 "mapping" = false)
    (hN : NamedR l j nm) (hj : l.drop j = brk Fs ++ u :: r) (hu : isB u "[" = false) (hF : ∀ F ∈ Fs, FillOk F) (hz : Fs.length ≤ 20) :
    FN C n T.fTypeAt [.ref c, .ref T.gLen] σ fun p σ' => (∃ q lv, p = .tup [q, lv] ∧ IsTy T Fs.length nm q) ∧ σ' = upd σ c (curC T d ps (spot + j + (brk Fs).length) 0) := by
  refine FN.le ?_ hn
  refine lit H.fTypeAt.fn fun pa bo sc hp hb hs F => ?_
  conv at hp => rhs; whnf
  conv at hb => rhs; whnf
  conv at hs => rhs; whnf
  subst hp hb hs
  refine fn_enter2 (x1 := "cursor") (x2 := "read_length") F (fun _ _ _ _ _ _ _ _ _ _ => rfl) (allLoc_of rfl) (noCell_of rfl) fun L q cd => ?_
  refine x_expr ?_ rfl rfl
  walk_at "cur"
  repeat (walk_at "sol")
  refine (fn_enterM (n := 8) (by omega) H G (by decide)).mono ?_
  rintro _ σ' h
  subst σ'
  have G1 := G.upd spot (0 + 1)
  refine x_cons (TX.mono (K := fun pf ρ' σ' => σ' = upd σ c (curC T d ps (spot + j) (0 + 1)) ∧ pf = .next ∧ ∃ q, IsTy T 0 nm q ∧ Sub [("found", q), ("levels", .int 1), ("read_length", .ref T.gLen), ("cursor", .ref c)] ρ') (x1_if (tb_plain ?_)) ?_)
  · walk_at "cur"
    repeat (walk_at "sol")
    refine (fn_at (n := 8) (by omega) H G1 (hd.trans hl)).mono ?_
    rintro _ σ' ⟨rfl, h⟩
    subst σ'
    rw [hmp]
    refine bex ⟨fun h => (by cases h), fun _ => ?_⟩
    refine x_swapped (a := "found") (b := "levels") ?_ rfl rfl rfl rfl rfl
    refine ev_tuple (es_cons ?_ rfl)
    refine ev_def H.fNamed ?_ rfl rfl rfl rfl (by simp)
    repeat (walk_at "sol")
    refine (fn_named (n := 8) (by omega) H G1 hd hN).mono ?_
    rintro _ σ' ⟨⟨line, more, rfl⟩, h⟩
    subst σ'
    rw [upd_upd]
    repeat (walk_at "sol")
    refine ⟨by simp, _, _, rfl, ?_⟩
    repeat (walk_at "sol")
    exact ⟨rfl, rfl, _, ⟨line, more, rfl⟩, Sub.cons rfl (Sub.cons rfl (Sub.cons rfl (Sub.cons rfl .nil)))⟩
  rintro _ ρ1 σ' ⟨h, rfl, q0, hq0, hsub⟩
  subst σ'
  show XS C _ _ _ _ _ _
  have hdj : ks.drop (spot + j) = brk Fs ++ u :: r := by rw [← List.drop_drop, hd, hj]
  refine x_while (fun m (ρ' : List (Str × PV)) (σ' : Sig) => ∃ (q : PV) (dn : Nat) (Gs : List (List (Str × Str))) (sp : Nat), ρ' = ([("found", q), ("levels", .int ((dn + 1 : Nat) : Int)), ("read_length", .ref T.gLen), ("cursor", .ref c)] : List (Str × PV)) ∧ σ' = upd σ c (curC T d ps sp (0 + 1)) ∧
      IsTy T dn nm q ∧ ks.drop sp = brk Gs ++ u :: r ∧ Gs.length = m ∧ dn + Gs.length = Fs.length ∧ sp + (brk Gs).length = spot + j + (brk Fs).length ∧ ∀ F ∈ Gs, FillOk F)
    ⟨_, _, hsub, q0, 0, Fs, spot + j, rfl, rfl, hq0, hdj, rfl, by omega, rfl, hF⟩ ?_
  rintro m _ _ ⟨q, dn, Gs, sp, rfl, rfl, hq, hd', rfl, hdn, hsp, hG⟩
  have G' := G.upd sp (0 + 1)
  cases Gs with
  | nil =>
    refine tb_plain ?_
    walk_at "cur"
    repeat (walk_at "sol")
    refine (fn_at (n := 8) (by omega) H G' hd').mono ?_
    rintro _ σ' ⟨rfl, h⟩
    subst σ'
    rw [hu]
    refine bex ⟨fun _ => ?_, fun h => (by cases h)⟩
    repeat (walk_at "sol")
    refine ev_data H.dDeepest ?_ rfl rfl rfl rfl
    repeat (walk_at "sol")
    refine ⟨fun h => absurd (of_decide_eq_true h) (by omega), fun _ => ?_⟩
    repeat (walk_at "sol")
    walk_at "cur"
    repeat (walk_at "sol")
    refine (fn_leave (n := 8) (by omega) H G').mono ?_
    rintro _ σ' h
    subst σ'
    rw [upd_upd]
    repeat (walk_at "sol")
    refine ev_tuple ?_
    repeat (walk_at "sol")
    refine ⟨by simp, ?_⟩
    repeat (walk_at "sol")
    rw [List.length_nil] at hdn
    have e1 : dn = Fs.length := hdn
    have e2 : sp = spot + j + (brk Fs).length := hsp
    refine ⟨⟨_, _, rfl, ?_⟩, ?_⟩
    · rw [← e1]; exact hq
    · rw [← e2]; rfl
  | cons F Gs =>
    have hF1 := hG F (.head _)
    obtain ⟨v, r', hv⟩ : ∃ v r', brk Gs ++ u :: r = v :: r' := by
      cases Gs with
      | nil => exact ⟨_, _, rfl⟩
      | cons a b => exact ⟨_, _, rfl⟩
    have hd1 : ks.drop sp = (("sign" : Str), ("[" : Str)) :: (F ++ (("sign" : Str), ("]" : Str)) :: v :: r') := by
      rw [hd', ← hv]; simp [brk]
    have hlen : (brk (F :: Gs)).length = F.length + 2 + (brk Gs).length := by simp [brk]; omega
    have hd2 := drop_succ hd1
    have hd3 : ks.drop (sp + 1 + F.length) = (("sign" : Str), ("]" : Str)) :: v :: r' := by
      rw [← List.drop_drop, hd2, List.drop_left]
    have hd4 := drop_succ hd3
    obtain ⟨t3, r3, h3⟩ : ∃ t r, F ++ (("sign" : Str), ("]" : Str)) :: v :: r' = t :: r := by
      cases F with
      | nil => exact ⟨_, _, rfl⟩
      | cons a b => exact ⟨_, _, rfl⟩
    refine tb_plain ?_
    walk_at "cur"
    repeat (walk_at "sol")
    refine (fn_at (n := 8) (by omega) H G' hd1).mono ?_
    rintro _ σ' ⟨rfl, h⟩
    subst σ'
    rw [show isB (("sign" : Str), ("[" : Str)) "[" = true by decide]
    refine bex ⟨fun h => (by cases h), fun _ => ?_⟩
    refine x_swapped (a := "line") (b := "levels") ?_ rfl rfl rfl rfl rfl
    refine ev_tuple (es_cons (ev_attr ?_ rfl) rfl)
    walk_at "cur"
    repeat (walk_at "sol")
    refine (fn_take (n := 8) (by omega) H G' (by rw [hd1, h3])).mono ?_
    rintro _ σ' ⟨⟨line, rfl⟩, h⟩
    subst σ'
    rw [upd_upd]
    have G2 := G.upd (sp + 1) (0 + 1)
    repeat (walk_at "sol")
    refine ⟨by simp, _, _, rfl, ?_⟩
    refine x_assign (EV.mono (K := fun p σ' => σ' = upd σ c (curC T d ps (sp + 1 + F.length) (0 + 1))) (ev_if (tb_plain ?_)) ?_) rfl rfl rfl
    · walk_at "cur"
      repeat (walk_at "sol")
      refine (fn_at (n := 8) (by omega) H G2 (hd2.trans h3)).mono ?_
      rintro _ σ' ⟨rfl, h⟩
      subst σ'
      rcases hF1 with rfl | ⟨⟨t, rr, rfl, hnb⟩, h60, hsk⟩
      · cases h3
        rw [show isB (("sign" : Str), ("]" : Str)) "]" = true by decide]
        refine bex ⟨fun _ => ?_, fun h => (by cases h)⟩
        repeat (walk_at "sol")
        rfl
      · cases h3
        rw [hnb]
        refine bex ⟨fun h => (by cases h), fun _ => ?_⟩
        refine ev_callL rfl H.gLen.keep ?_ rfl rfl rfl (by simp)
        repeat (walk_at "sol")
        refine cv_fn ((fn_length (n := 8) (by omega) H G2 hd2 (hsk _) h60).mono ?_)
        rintro _ σ' h
        subst σ'
        rw [upd_upd]
    rintro len σ' h
    subst σ'
    have G3 := G.upd (sp + 1 + F.length) (0 + 1)
    repeat (walk_at "sol")
    walk_at "cur"
    repeat (walk_at "sol")
    refine (fn_expect (n := 8) (by omega) H G3 hd3 (by decide)).mono ?_
    rintro _ σ' ⟨_, h⟩
    subst σ'
    rw [upd_upd]
    repeat (walk_at "sol")
    refine ev_class H.cSyn ?_ rfl rfl rfl rfl (by simp)
    repeat (walk_at "sol")
    refine ev_list ?_
    repeat (walk_at "sol")
    refine ⟨by simp, ?_⟩
    repeat (walk_at "sol")
    have hg : hgt [((dn + 1 : Nat) : Int)] = ((dn + 2 : Nat) : Int) := by
      show (if (1 : Int) ≤ ((dn + 1 : Nat) : Int) then ((dn + 1 : Nat) : Int) + 1 else 1) = _
      rw [if_pos (by omega)]; rfl
    rw [List.length_cons] at hdn
    refine cv_Syn (by omega) H (kh := [((dn + 1 : Nat) : Int)]) (fun i q' hq' => ?_) rfl (by rw [hg]; omega) ?_
    · cases i with
      | zero =>
        obtain ⟨x1, x2, x3, x4, x5, e⟩ := hq.h
        cases hq'
        exact ⟨_, _, _, _, _, _, rfl, e⟩
      | succ i => simp at hq'
    rw [hg]
    repeat (walk_at "sol")
    refine ⟨_, Sub.cons rfl (Sub.cons rfl (Sub.cons rfl (Sub.cons rfl .nil))), Gs.length, by simp, _, dn + 1, Gs, sp + 1 + F.length + 1, rfl, rfl, ⟨line, len, q, hq, rfl⟩, hd4.trans hv.symm, rfl, by omega, by omega, fun F' h => hG F' (.tail _ h)⟩
end

section
variable {C : Cx} {n : Nat} {env : Env} {ρ : List (Str × PV)} {σ : Sig} {K : PV → Sig → Prop}
variable {T : Ad} {c d : Addr} {ps : List PV} {ks : List (Str × Str)} {spot : Nat} {depth : Int}

theorem fn_type (hn : 10 ≤ n) (H : Tab C T) (G : IsCur T ks c d ps spot 0 σ) {l : List (Str × Str)} {j : Nat} {nm : Str} {Fs : List (List (Str × Str))} {t0 u : Str × Str} {r0 r : List (Str × Str)} (hd : ks.drop spot = l) (hl : l = t0 :: r0) (hmp : isB t0 "mapping" = false)
    (hN : NamedR l j nm) (hj : l.drop j = brk Fs ++ u :: r) (hu : isB u "[" = false) (hF : ∀ F ∈ Fs, FillOk F) (hz : Fs.length ≤ 20) :
    FN C n T.fType [.ref c, .ref T.gLen] σ fun p σ' => IsTy T Fs.length nm p ∧ σ' = upd σ c (curC T d ps (spot + j + (brk Fs).length) 0) := by
  refine FN.le ?_ hn
  refine lit H.fType.fn fun pa bo sc hp hb hs F => ?_
  conv at hp => rhs; whnf
  conv at hb => rhs; whnf
  conv at hs => rhs; whnf
  subst hp hb hs
  refine fn_enter2 (x1 := "cursor") (x2 := "read_length") F (fun _ _ _ _ _ _ _ _ _ _ => rfl) (allLoc_of rfl) (noCell_of rfl) fun L q cd => ?_
  repeat (walk_at "sol")
  refine ev_def H.fTypeAt ?_ rfl rfl rfl rfl (by simp)
  repeat (walk_at "sol")
  refine (fn_typeAt (n := 9) (t1 := t0) (t2 := t0) (r2 := []) (by omega) H G hd hl hmp hN hj hu hF hz).mono ?_
  rintro _ σ' ⟨⟨q, lv, rfl, hq⟩, h⟩
  subst σ'
  repeat (walk_at "sol")
  refine op_item_tup (by decide) (by decide) (p := q) rfl ?_
  repeat (walk_at "sol")
  exact ⟨hq, rfl⟩

theorem fn_place (hn : 5 ≤ n) (H : Tab C T) (G : IsCur T ks c d ps spot depth σ) {v u : Str × Str} {r : List (Str × Str)} (hd : ks.drop spot = v :: u :: r) {w : Str} {b : Bool}
    (hb : (b = false ∧ w = "" ∧ ∀ x ∈ placeL, isB v x = false) ∨ (b = true ∧ ∃ x ∈ placeL, isB v x = true ∧ w = x)) :
    FN C n T.fPlace [.ref c] σ fun p σ' => p = .str w ∧ σ' = (if b then upd σ c (curC T d ps (spot + 1) depth) else σ) := by
  refine FN.le ?_ hn
  refine lit H.fPlace.fn fun pa bo sc hp hb hs F => ?_
  conv at hp => rhs; whnf
  conv at hb => rhs; whnf
  conv at hs => rhs; whnf
  subst hp hb hs
  refine fn_enter1 (x1 := "cursor") F (fun _ _ _ _ _ _ _ _ _ => rfl) (allLoc_of rfl) (noCell_of rfl) fun L q cd => ?_
  refine x_for (fun i (ρ' : List (Str × PV)) (σ' : Sig) => ρ' = ([("cursor", .ref c)] : List (Str × PV)) ∧ σ' = σ ∧ ∀ x ∈ placeL.take i, isB v x = false) ?_ (fun _ => rfl)
  refine ie_tup ?_ plainly_name
  refine ev_data H.dPlaces ?_ rfl rfl rfl rfl
  refine ⟨_, rfl, ⟨_, Sub.refl, rfl, rfl, by simp⟩, ?_, ?_⟩
  · rintro i q _ σ' hq ⟨rfl, h, hp⟩
    subst σ'
    rw [List.getElem?_map] at hq
    obtain ⟨x, hx, rfl⟩ := Option.map_eq_some_iff.mp hq
    have hxm : x ∈ placeL := List.mem_of_getElem? hx
    refine ⟨_, as_name rfl rfl, ?_⟩
    refine x_if (tb_plain ?_)
    walk_at "cur"
    repeat (walk_at "sol")
    cases hv : isB v x with
    | true =>
      refine (fn_accept_yes (n := 4) (by omega) H G hd hv).mono ?_
      rintro _ σ' ⟨rfl, h⟩
      subst σ'
      refine bex ⟨fun _ => ?_, fun h => (by cases h)⟩
      repeat (walk_at "sol")
      rcases hb with ⟨_, _, h0⟩ | ⟨rfl, x', _, h1, rfl⟩
      · rw [h0 x hxm] at hv; cases hv
      · refine ⟨?_, rfl⟩
        have a1 : v.2 = x := by unfold isB at hv; rw [Bool.and_eq_true] at hv; exact eq_of_beq hv.1
        have a2 : v.2 = w := by unfold isB at h1; rw [Bool.and_eq_true] at h1; exact eq_of_beq h1.1
        rw [← a1, ← a2]
    | false =>
      refine (fn_accept_no (n := 4) (by omega) H G hd hv).mono ?_
      rintro _ σ' ⟨rfl, h⟩
      subst σ'
      refine bex ⟨fun h => (by cases h), fun _ => ?_⟩
      repeat (walk_at "sol")
      refine ⟨_, Sub.cons rfl .nil, rfl, rfl, fun y hy => ?_⟩
      rw [List.take_succ, hx] at hy
      rcases List.mem_append.mp hy with hy | hy
      · exact hp y hy
      · simp at hy; subst hy; exact hv
  · rintro _ σ' ⟨rfl, h, hp⟩
    subst σ'
    rw [List.length_map, List.take_length] at hp
    repeat (walk_at "sol")
    rcases hb with ⟨rfl, rfl, _⟩ | ⟨_, x, hx, h1, _⟩
    · exact ⟨rfl, rfl⟩
    · rw [hp x hx] at h1; cases h1

theorem w_lenC {T : Ad} (H : Tab C T) {xp pos : Pos} {e : Expr} (h : ES C n env ρ σ pos [e] fun ps σ1 => CV C n σ1 (.builtin "len") ps K) (hf : env.scope.kind = .function) (hl : env.kindOf "len" = some .globalImplicit)
    (he : env.globals = mainGlobals) (hbu : env.builtins = builtinsNs) (hs : starEach [e] env = (false, PySem.eval e env) :: starEach [] env) : EV C n env ρ σ (.Call (.Name "len" xp) [e] [] pos) K := w_len H h hf hl he hbu hs

theorem fn_isRead (hn : 12 ≤ n) (H : Tab C T) {far : Nat} (G : IsCur T ks c d ps spot 0 σ) {l : List (Str × Str)} {j : Nat} {nm place own : Str} {Fs : List (List (Str × Str))} {t0 : Str × Str} {r0 r : List (Str × Str)} (hd : ks.drop (spot + far) = l) (hl : l = t0 :: r0) (hmp : isB t0 "mapping" = false)
    (hN : NamedR l j nm) {b : Bool} {v w : Str × Str} (hj : l.drop j = brk Fs ++ (if b then [v] else []) ++ (("name" : Str), own) :: w :: r) (hF : ∀ F ∈ Fs, FillOk F) (hz : Fs.length ≤ 20) (hown : isB (("name" : Str), own) "[" = false) (hv : isB v "[" = false)
    (hb : (b = false ∧ place = "" ∧ ∀ x ∈ placeL, isB (("name" : Str), own) x = false) ∨ (b = true ∧ ∃ x ∈ placeL, isB v x = true ∧ place = x))
    {spans : List PV} (hsp : spans.length = Fs.length) (hfar : far ≤ 1000) :
    FN C n T.gRead [.ref c, .int far, .int ((j + (brk Fs).length : Nat) : Int), .list spans, .tup [.str nm, .str place, .str own]] σ fun p σ' => p = .bool true := by
  refine FN.le ?_ hn
  refine FN.nodup fun hnd => ?_
  refine lit H.gRead.fn fun pa bo sc hp hb hs F => ?_
  conv at hp => rhs; whnf
  conv at hb => rhs; whnf
  conv at hs => rhs; whnf
  subst hp hb hs
  refine fn_enter5 (x1 := "cursor") (x2 := "far") (x3 := "end") (x4 := "spans") (x5 := "due") F (fun _ _ _ _ _ _ _ _ _ _ _ _ _ => rfl) (allLoc_of rfl) (noCell_of rfl) fun L q cd => ?_
  have hlen := drop_len (hd.trans hl)
  refine x_for (fun i (ρ' : List (Str × PV)) (σ' : Sig) => ρ' = ([("due", .tup [.str nm, .str place, .str own]), ("spans", .list spans), ("end", .int ((j + (brk Fs).length : Nat) : Int)), ("far", .int far), ("cursor", .ref c)] : List (Str × PV)) ∧ σ' = upd σ c (curC T d ps (spot + i) 0) ∧ i ≤ far) ?_ (fun _ => rfl)
  refine ie_range (y := "") ?_ H.no_range rfl rfl rfl rfl rfl
  repeat (walk_at "sol")
  refine ⟨far, rfl, by omega, ⟨_, Sub.refl, rfl, (upd_same hnd G.hc).symm, Nat.zero_le _⟩, ?_, ?_⟩
  · rintro i q _ σ' hq ⟨rfl, h, hi⟩
    subst σ'
    have hi : i < far := by
      have := (List.getElem?_eq_some_iff.mp hq).1
      simpa using this
    have G' := G.upd (spot + i) 0
    obtain ⟨x, y, z, e⟩ : ∃ x y z, ks.drop (spot + i) = x :: y :: z := by
      have h1 : spot + i < ks.length := by omega
      have h2 : spot + i + 1 < ks.length := by omega
      rw [List.drop_eq_getElem_cons h1, List.drop_eq_getElem_cons h2]
      exact ⟨_, _, _, rfl⟩
    refine ⟨_, as_name rfl rfl, ?_⟩
    refine x_expr ?_ rfl rfl
    walk_at "cur"
    repeat (walk_at "sol")
    refine (fn_take (n := 11) (by omega) H G' e).mono ?_
    rintro _ σ' ⟨_, h⟩
    subst σ'
    rw [upd_upd]
    repeat (walk_at "sol")
    exact ⟨_, Sub.cons rfl (Sub.cons rfl (Sub.cons rfl (Sub.cons rfl (Sub.cons rfl .nil)))), rfl, rfl, by omega⟩
  rintro ρ1 σ' ⟨rfl, h, _⟩
  subst σ'
  rw [List.length_map, List.length_range]
  have G1 := G.upd (spot + far) 0
  repeat (walk_at "sol")
  refine ev_def H.fType ?_ rfl rfl rfl rfl (by simp)
  repeat (walk_at "sol")
  refine ev_defval H.gLen ?_ rfl rfl rfl rfl
  repeat (walk_at "sol")
  obtain ⟨u, r', hu, hj'⟩ : ∃ u r', isB u "[" = false ∧ (if b then [v] else []) ++ (("name" : Str), own) :: w :: r = u :: r' := by
    cases b with
    | true => exact ⟨_, _, hv, rfl⟩
    | false => exact ⟨_, _, hown, rfl⟩
  rw [List.append_assoc, hj'] at hj
  refine (fn_type (n := 11) (by omega) H G1 hd hl hmp hN hj hu hF hz).mono ?_
  rintro part σ' ⟨hty, h⟩
  subst σ'
  rw [upd_upd]
  have G2 := G.upd (spot + far + j + (brk Fs).length) 0
  have hdp : ks.drop (spot + far + j + (brk Fs).length) = u :: r' := by
    rw [← List.drop_drop, ← List.drop_drop, hd, hj, List.drop_left]
  repeat (walk_at "sol")
  have e1 : (((spot + far + j + (brk Fs).length : Nat) : Int) != ((spot + far : Nat) : Int) + ((j + (brk Fs).length : Nat) : Int)) = false := by
    rw [bne_eq_false_iff_eq]; omega
  rw [e1]
  refine ⟨fun h => (by cases h), fun _ => ?_⟩
  repeat (walk_at "sol")
  refine x_for (fun i (ρ' : List (Str × PV)) (σ' : Sig) => ∃ k q, k + i = Fs.length ∧ IsTy T k nm q ∧ ρ' = ([("part", q), ("due", .tup [.str nm, .str place, .str own]), ("cursor", .ref c)] : List (Str × PV)) ∧ σ' = upd σ c (curC T d ps (spot + far + j + (brk Fs).length) 0)) ?_ (fun _ => rfl)
  refine ie_range (y := "") ?_ H.no_range rfl rfl rfl rfl rfl
  repeat (walk_at "sol")
  refine cv_len_list (by omega) ?_
  refine ⟨spans.length, rfl, by omega, ⟨_, Sub.cons rfl (Sub.cons rfl (Sub.cons rfl .nil)), Fs.length, part, rfl, hty, rfl, rfl⟩, ?_, ?_⟩
  · rintro i q _ σ' hq ⟨k, pt, hk, hpt, rfl, h⟩
    subst σ'
    have hi : i < spans.length := by
      have := (List.getElem?_eq_some_iff.mp hq).1
      simpa using this
    refine ⟨_, as_name rfl rfl, ?_⟩
    obtain ⟨k, rfl⟩ : ∃ k', k = k' + 1 := ⟨k - 1, by omega⟩
    obtain ⟨line, more, q2, hq2, rfl⟩ := hpt
    repeat (walk_at "sol")
    refine ⟨fun h => absurd h (by decide), fun _ => ?_⟩
    repeat (walk_at "sol")
    refine op_item_list (by decide) (by decide) (p := q2) rfl ?_
    repeat (walk_at "sol")
    exact ⟨_, Sub.cons rfl (Sub.cons rfl (Sub.cons rfl .nil)), k, q2, by omega, hq2, rfl, rfl⟩
  rintro ρ1 σ' ⟨k, pt, hk, hpt, rfl, h⟩
  subst σ'
  rw [List.length_map, List.length_range, hsp] at hk
  obtain rfl : k = 0 := by omega
  obtain ⟨line, more, rfl⟩ := hpt
  repeat (walk_at "sol")
  refine ta_or ?_
  repeat (walk_at "sol")
  refine ⟨fun _ => ?_, fun h => absurd h (by decide)⟩
  refine ta_or ?_
  repeat (walk_at "sol")
  refine op_item_tup (by decide) (by decide) (p := .str nm) rfl ?_
  repeat (walk_at "sol")
  rw [bne_self_eq_false]
  refine ⟨fun _ => ?_, fun h => (by cases h)⟩
  refine ta_or (tb_cmp (ev_def H.fPlace ?_ rfl rfl rfl rfl (by simp)) rfl)
  repeat (walk_at "sol")
  obtain ⟨x2, r2, hd2⟩ : ∃ x2 r2, u :: r' = u :: x2 :: r2 := by
    cases b with
    | true => cases hj'; exact ⟨_, _, rfl⟩
    | false => cases hj'; exact ⟨_, _, rfl⟩
  have hb' : (b = false ∧ place = "" ∧ ∀ x ∈ placeL, isB u x = false) ∨ (b = true ∧ ∃ x ∈ placeL, isB u x = true ∧ place = x) := by
    rcases hb with ⟨rfl, h1, h2⟩ | ⟨rfl, h⟩
    · cases hj'; exact .inl ⟨rfl, h1, h2⟩
    · cases hj'; exact .inr ⟨rfl, h⟩
  refine (fn_place (n := 11) (by omega) H G2 (hdp.trans hd2) hb').mono ?_
  rintro _ σ' ⟨rfl, h⟩
  have hs3 : ∃ sp, σ' = upd σ c (curC T d ps sp 0) ∧ ∃ r4, ks.drop sp = (("name" : Str), own) :: r4 := by
    cases b with
    | true =>
      refine ⟨spot + far + j + (brk Fs).length + 1, h.trans ?_, w :: r, ?_⟩
      · rw [if_pos rfl, upd_upd]
      · cases hj'; exact drop_succ hdp
    | false =>
      refine ⟨spot + far + j + (brk Fs).length, h.trans ?_, w :: r, ?_⟩
      · rw [if_neg (by decide)]
      · cases hj'; exact hdp
  clear h
  obtain ⟨sp, h, r4, hd4⟩ := hs3
  subst σ'
  have G3 := G.upd sp 0
  repeat (walk_at "sol")
  refine op_item_tup (by decide) (by decide) (p := .str place) rfl ?_
  repeat (walk_at "sol")
  rw [bne_self_eq_false]
  refine ⟨fun _ => ta_or_nil ⟨fun h => (by cases h), fun _ => ?_⟩, fun h => (by cases h)⟩
  repeat (walk_at "sol")
  refine ev_and (ev_cmp (ev_attr ?_ rfl) rfl)
  walk_at "cur"
  repeat (walk_at "sol")
  refine (fn_peek0 (n := 11) (by omega) H G3 hd4).mono ?_
  rintro _ σ' ⟨⟨line, rfl⟩, h⟩
  subst σ'
  repeat (walk_at "sol")
  refine ⟨fun _ => ?_, fun h => absurd h (by show ¬ (((("name" : Str) == ("name" : Str))) = false); decide)⟩
  refine ev_cmp (ev_attr ?_ rfl) rfl
  walk_at "cur"
  repeat (walk_at "sol")
  refine (fn_peek0 (n := 11) (by omega) H G3 hd4).mono ?_
  rintro _ σ' ⟨⟨line, rfl⟩, h⟩
  subst σ'
  repeat (walk_at "sol")
  refine op_item_tup (by decide) (by decide) (p := .str own) rfl ?_
  repeat (walk_at "sol")
  rw [beq_self_eq_true]
end

section
variable {C : Cx} {n : Nat} {env : Env} {ρ : List (Str × PV)} {σ : Sig} {K : PV → Sig → Prop}
variable {T : Ad} {c d : Addr} {ps : List PV} {ks : List (Str × Str)} {spot : Nat} {depth : Int}

theorem op_not {b : Bool} (h : K (.bool (!b)) σ) : OP1 C n σ (unaryOp .Not) (.bool b) K :=
  fun A W s Q E a ro I ra hk => by
    simp only [Rep] at ra; subst ra
    exact not_of (wpAny_of_eq rfl (hk _ _ _ _ _ h I .refl rfl))

noncomputable def IsWell (c : Cell) : Prop := ∃ (gs : List Int) (i : Nat) (st : Int), c = .lst [.list (gs.map .int), .int i, .int st] ∧ i ≤ gs.length ∧ gs.length ≤ 63 ∧ (∀ g ∈ gs, 0 ≤ g ∧ g < 2147483647) ∧ 0 ≤ st ∧ st < 1013
theorem fmod_lt {a k : Int} (hk : 0 < k) : 0 ≤ a.fmod k ∧ a.fmod k < k := ⟨Int.fmod_nonneg_of_pos _ hk, Int.fmod_lt_of_pos _ hk⟩
variable {a : Addr} {w : Cell}
theorem fn_draw (hn : 2 ≤ n) (H : Tab C T) (hw : σ.lookup a = some w) (W : IsWell w) {k : Int} (hk : 0 < k) :
    FN C n T.gDraw [.ref a, .int k] σ fun p σ' => ∃ (r : Nat) (w' : Cell), p = .int r ∧ (r : Int) < k ∧ IsWell w' ∧ σ' = upd σ a w' := by
  refine FN.le ?_ hn
  refine lit H.gDraw.fn fun pa bo sc hp hb hs F => ?_
  conv at hp => rhs; whnf
  conv at hb => rhs; whnf
  conv at hs => rhs; whnf
  subst hp hb hs
  refine fn_enter2 (x1 := "well") (x2 := "size") F (fun _ _ _ _ _ _ _ _ _ _ => rfl) (allLoc_of rfl) (noCell_of rfl) fun L q cd => ?_
  obtain ⟨gs, i, st, rfl, hi, hg, hgs, hst0, hst⟩ := W
  refine x_if (tb_cmp (ev_sub ?_) rfl)
  repeat (walk_at "sol")
  refine op_item_cell hw (by decide) (by decide) rfl ?_
  repeat (walk_at "sol")
  refine op_item_cell hw (by decide) (by decide) rfl ?_
  repeat (walk_at "sol")
  refine cv_len_list (by rw [List.length_map]; omega) ?_
  repeat (walk_at "sol")
  rw [List.length_map]
  refine ⟨fun hc => ?_, fun hc => ?_⟩
  · have hc : i < gs.length := by have := of_decide_eq_true hc; omega
    have hgi := hgs _ (List.getElem_mem hc)
    repeat (walk_at "sol")
    refine op_item_cell hw (by decide) (by decide) rfl ?_
    repeat (walk_at "sol")
    refine op_item_cell hw (by decide) (by decide) rfl ?_
    refine op_item_list (by omega) (by omega) (p := .int gs[i]) (by simp [hc]) ?_
    refine x_setitem ?_ rfl
    repeat (walk_at "sol")
    refine op_item_cell hw (by decide) (by decide) rfl ?_
    repeat (walk_at "sol")
    refine ⟨a, _, 1, rfl, rfl, hw, by decide, by decide, by simp, ?_⟩
    have hw1 : (upd σ a (.lst [.list (gs.map .int), .int ((i + 1 : Nat) : Int), .int st])).lookup a = some (.lst [.list (gs.map .int), .int ((i + 1 : Nat) : Int), .int st]) := lookup_upd hw
    refine x_setitem ?_ rfl
    repeat (walk_at "sol")
    refine op_item_cell hw1 (by decide) (by decide) rfl ?_
    repeat (walk_at "sol")
    refine op_mul_int (.of_right (by decide)) ?_
    repeat (walk_at "sol")
    refine op_mod_int (by decide) ?_
    repeat (walk_at "sol")
    refine ⟨a, _, 2, rfl, rfl, hw1, by decide, by decide, by simp, ?_⟩
    have := @fmod_lt (st * 37 + gs[i] + 13) 1013 (by decide)
    repeat (walk_at "sol")
    refine op_mod_int (by omega) ?_
    repeat (walk_at "sol")
    obtain ⟨h1, h2⟩ := @fmod_lt gs[i] k hk
    refine ⟨(gs[i].fmod k).toNat, .lst [.list (gs.map .int), .int ((i + 1 : Nat) : Int), .int ((st * 37 + gs[i] + 13).fmod 1013)], ?_, by omega, ⟨gs, i + 1, _, rfl, by omega, hg, hgs, this.1, this.2⟩, ?_⟩
    · rw [Int.toNat_of_nonneg h1]
    · exact upd_upd
  · repeat (walk_at "sol")
    refine x_setitem ?_ rfl
    repeat (walk_at "sol")
    refine op_item_cell hw (by decide) (by decide) rfl ?_
    repeat (walk_at "sol")
    refine op_mul_int (.of_right (by decide)) ?_
    repeat (walk_at "sol")
    refine op_mod_int (by decide) ?_
    repeat (walk_at "sol")
    refine ⟨a, _, 2, rfl, rfl, hw, by decide, by decide, by simp, ?_⟩
    have h0 := @fmod_lt (st * 37 + 13) 1013 (by decide)
    generalize (st * 37 + 13).fmod 1013 = st' at h0
    have hw1 : (upd σ a (.lst [.list (gs.map .int), .int (i : Int), .int st'])).lookup a = some (.lst [.list (gs.map .int), .int (i : Int), .int st']) := lookup_upd hw
    repeat (walk_at "sol")
    refine op_item_cell hw1 (by decide) (by decide) rfl ?_
    repeat (walk_at "sol")
    refine op_div_int (by decide) ?_ ?_
    · unfold Builtin.divisionGoesByPylong
      have : ((if (3 : Int) == 0 then 0 else (3 : Int).natAbs.log2 / 30 + 1) > 300) = False := by decide
      simp only [this, decide_false, Bool.false_and]
    repeat (walk_at "sol")
    refine op_mod_int (by omega) ?_
    repeat (walk_at "sol")
    obtain ⟨h1, h2⟩ := @fmod_lt (st'.fdiv 3) k hk
    refine ⟨((st'.fdiv 3).fmod k).toNat, .lst [.list (gs.map .int), .int (i : Int), .int st'], ?_, by omega, ⟨gs, i, _, rfl, by omega, hg, hgs, h0.1, h0.2⟩, rfl⟩
    rw [Int.toNat_of_nonneg h1]

noncomputable def nameL : List Str := ["a", "b", "Lib", "error", "from", "revert"]
theorem get_map {α β : Type} (f : α → β) {l : List α} {i : Nat} (h : i < l.length) : ∃ x ∈ l, l[i]? = some x ∧ (l.map f)[i]? = some (f x) :=
  ⟨l[i], List.getElem_mem h, by simp [h], by simp [h]⟩
theorem fn_name (hn : 3 ≤ n) (H : Tab C T) (hw : σ.lookup a = some w) (W : IsWell w) :
    FN C n T.gName [.ref a] σ fun p σ' => ∃ (x : Str) (w' : Cell), p = pair "name" x ∧ x ∈ nameL ∧ IsWell w' ∧ σ' = upd σ a w' := by
  refine FN.le ?_ hn
  refine lit H.gName.fn fun pa bo sc hp hb hs F => ?_
  conv at hp => rhs; whnf
  conv at hb => rhs; whnf
  conv at hs => rhs; whnf
  subst hp hb hs
  refine fn_enter1 (x1 := "well") F (fun _ _ _ _ _ _ _ _ _ => rfl) (allLoc_of rfl) (noCell_of rfl) fun L q cd => ?_
  repeat (walk_at "sol")
  refine ev_tuple ?_
  repeat (walk_at "sol")
  refine ev_tuple ?_
  repeat (walk_at "sol")
  refine ⟨by decide, ?_⟩
  refine ev_def H.gDraw ?_ rfl rfl rfl rfl (by simp)
  repeat (walk_at "sol")
  refine (fn_draw (n := 2) (by omega) H hw W (by decide)).mono ?_
  rintro _ σ' ⟨r, w', rfl, hr, W', h⟩
  subst σ'
  obtain ⟨x, hx, hx1, hx2⟩ := get_map PV.str (l := nameL) (i := r) (by show r < 6; omega)
  refine op_item_tup (by omega) (by omega) (p := .str x) hx2 ?_
  repeat (walk_at "sol")
  refine ⟨by simp, ?_⟩
  repeat (walk_at "sol")
  exact ⟨x, w', rfl, hx, W', rfl⟩
end

section
variable {C : Cx} {n : Nat} {env : Env} {ρ : List (Str × PV)} {σ : Sig} {K : PV → Sig → Prop}
variable {T : Ad} {c d : Addr} {ps : List PV} {ks : List (Str × Str)} {spot : Nat} {depth : Int}

variable {a : Addr} {w : Cell}
noncomputable abbrev tk (k x : Str) : Str × Str := (k, x)
inductive Fil : Nat → List (Str × Str) → Prop
  | nm {k : Nat} {x : Str} : x ∈ nameL → Fil k [tk "name" x]
  | dot {k : Nat} {x y : Str} : x ∈ nameL → y ∈ nameL → Fil k [tk "name" x, tk "sign" ".", tk "name" y]
  | txt {k : Nat} : Fil k [tk "text" "\"];\""]
  | num {k : Nat} : Fil k [tk "number" "12"]
  | br {k : Nat} {x : Str} {F : List (Str × Str)} : x ∈ nameL → Fil k F → Fil (k + 1) (tk "name" x :: tk "sign" "[" :: (F ++ [tk "sign" "]"]))
  | par {k : Nat} {F : List (Str × Str)} : Fil k F → Fil (k + 1) (tk "sign" "(" :: (F ++ [tk "sign" ")", tk "sign" "+", tk "number" "1"]))
theorem Fil.len {d : Nat} {F : List (Str × Str)} (h : Fil d F) : F.length ≤ 3 + 4 * d := by
  induction h with
  | br _ _ ih => simp; omega
  | par _ ih => simp; omega
  | _ => simp <;> omega
theorem pairs_append (F G : List (Str × Str)) : PV.list (F.map (fun p => pair p.1 p.2) ++ G.map (fun p => pair p.1 p.2)) = pairs (F ++ G) := by
  unfold pairs; rw [List.map_append]
theorem upd_self2 {c1 c2 : Cell} : upd (upd σ a c1) a c2 = upd σ a c2 := upd_upd

theorem ta_mono {op : BoolOp} {es : List Expr} {K K' : Bool → Sig → Prop} (h : TA C n env ρ σ op es K) (hk : ∀ p σ', K p σ' → K' p σ') : TA C n env ρ σ op es K' :=
  fun A W s Q E r I l k => h A W s Q E r I l (fun v s' σ' W' a => k v s' σ' W' (hk _ _ a))

theorem fn_filling (H : Tab C T) : ∀ (dp : Nat), dp ≤ 3 → ∀ {n : Nat} {σ : Sig} {w : Cell}, 5 + dp ≤ n → σ.lookup a = some w → IsWell w →
    FN C n T.gFill [.ref a, .int dp] σ fun p σ' => ∃ (F : List (Str × Str)) (w' : Cell), p = pairs F ∧ Fil dp F ∧ IsWell w' ∧ σ' = upd σ a w' := by
  intro dp
  induction dp with
  | zero =>
    intro _ n σ w hn hw W
    refine FN.le ?_ hn
    refine lit H.gFill.fn fun pa bo sc hp hb hs F => ?_
    conv at hp => rhs; whnf
    conv at hb => rhs; whnf
    conv at hs => rhs; whnf
    subst hp hb hs
    refine fn_enter2 (x1 := "well") (x2 := "deep") F (fun _ _ _ _ _ _ _ _ _ _ => rfl) (allLoc_of rfl) (noCell_of rfl) fun L q cd => ?_
    repeat (walk_at "sol")
    refine ev_def H.gDraw ?_ rfl rfl rfl rfl (by simp)
    repeat (walk_at "sol")
    refine (fn_draw (n := 4) (k := 6) (by omega) H hw W (by omega)).mono ?_
    rintro _ σ' ⟨r, w1, rfl, hr, W1, h⟩
    subst σ'
    have hw1 : (upd σ a w1).lookup a = some w1 := lookup_upd hw
    refine x_if (tb_mono (K := fun b σ' => b = false ∧ σ' = upd σ a w1) (tb_bool (ta_and ?_)) ?_)
    · repeat (walk_at "sol")
      refine ⟨fun _ => ?_, fun _ => ⟨rfl, rfl⟩⟩
      refine ta_and ?_
      repeat (walk_at "sol")
      exact ⟨fun h => absurd (of_decide_eq_true h) (by decide), fun _ => ⟨rfl, rfl⟩⟩
    rintro _ σ' ⟨rfl, h⟩
    subst σ'
    refine ⟨fun h => (by cases h), fun _ => ?_⟩
    repeat (walk_at "sol")
    refine ta_mono (K := fun b σ' => b = false ∧ σ' = upd σ a w1) (ta_and ?_) ?_
    · repeat (walk_at "sol")
      refine ⟨fun _ => ?_, fun _ => ⟨rfl, rfl⟩⟩
      refine ta_and ?_
      repeat (walk_at "sol")
      exact ⟨fun h => absurd (of_decide_eq_true h) (by decide), fun _ => ⟨rfl, rfl⟩⟩
    rintro _ σ' ⟨rfl, h⟩
    subst σ'
    refine ⟨fun h => (by cases h), fun _ => ?_⟩
    repeat (walk_at "sol")
    cases hr3 : ((r : Int) == 3) with
    | true =>
      refine ⟨fun _ => ?_, fun h => (by cases h)⟩
      repeat (walk_at "sol")
      refine ev_list ?_
      repeat (walk_at "sol")
      refine ev_def H.gName ?_ rfl rfl rfl rfl (by simp)
      repeat (walk_at "sol")
      refine (fn_name (n := 4) (by omega) H hw1 W1).mono ?_
      rintro _ σ' ⟨x, w2, rfl, hx, W2, h⟩
      subst σ'
      rw [upd_upd]
      have hw2 : (upd σ a w2).lookup a = some w2 := lookup_upd hw
      repeat (walk_at "sol")
      refine ev_tuple ?_
      repeat (walk_at "sol")
      refine ⟨by simp, ?_⟩
      repeat (walk_at "sol")
      refine ev_def H.gName ?_ rfl rfl rfl rfl (by simp)
      repeat (walk_at "sol")
      refine (fn_name (n := 4) (by omega) H hw2 W2).mono ?_
      rintro _ σ' ⟨y, w3, rfl, hy, W3, h⟩
      subst σ'
      rw [upd_upd]
      repeat (walk_at "sol")
      refine ⟨by simp, ?_⟩
      repeat (walk_at "sol")
      exact ⟨[tk "name" x, tk "sign" ".", tk "name" y], w3, rfl, .dot hx hy, W3, rfl⟩
    | false =>
    refine ⟨fun h => (by cases h), fun _ => ?_⟩
    repeat (walk_at "sol")
    refine ev_if ?_
    repeat (walk_at "sol")
    cases hr4 : ((r : Int) == 4) with
    | true =>
      refine ⟨fun _ => ?_, fun h => (by cases h)⟩
      refine ev_list ?_
      repeat (walk_at "sol")
      refine ev_tuple ?_
      repeat (walk_at "sol")
      refine ⟨by simp, ?_⟩
      repeat (walk_at "sol")
      refine ⟨by simp, ?_⟩
      repeat (walk_at "sol")
      exact ⟨[tk "text" "\"];\""], w1, rfl, .txt, W1, rfl⟩
    | false =>
    refine ⟨fun h => (by cases h), fun _ => ?_⟩
    refine ev_if ?_
    repeat (walk_at "sol")
    cases hr5 : ((r : Int) == 5) with
    | true =>
      refine ⟨fun _ => ?_, fun h => (by cases h)⟩
      refine ev_list ?_
      repeat (walk_at "sol")
      refine ev_def H.gName ?_ rfl rfl rfl rfl (by simp)
      repeat (walk_at "sol")
      refine (fn_name (n := 4) (by omega) H hw1 W1).mono ?_
      rintro _ σ' ⟨x, w2, rfl, hx, W2, h⟩
      subst σ'
      rw [upd_upd]
      repeat (walk_at "sol")
      refine ⟨by simp, ?_⟩
      repeat (walk_at "sol")
      exact ⟨[tk "name" x], w2, rfl, .nm hx, W2, rfl⟩
    | false =>
    refine ⟨fun h => (by cases h), fun _ => ?_⟩
    refine ev_list ?_
    repeat (walk_at "sol")
    refine ev_tuple ?_
    repeat (walk_at "sol")
    refine ⟨by simp, ?_⟩
    repeat (walk_at "sol")
    refine ⟨by simp, ?_⟩
    repeat (walk_at "sol")
    exact ⟨[tk "number" "12"], w1, rfl, .num, W1, rfl⟩
  | succ dp ih =>
    intro hdp n σ w hn hw W
    refine FN.le (k := 5 + dp + 1) ?_ (by omega)
    refine lit H.gFill.fn fun pa bo sc hp hb hs F => ?_
    conv at hp => rhs; whnf
    conv at hb => rhs; whnf
    conv at hs => rhs; whnf
    subst hp hb hs
    refine fn_enter2 (x1 := "well") (x2 := "deep") F (fun _ _ _ _ _ _ _ _ _ _ => rfl) (allLoc_of rfl) (noCell_of rfl) fun L q cd => ?_
    repeat (walk_at "sol")
    refine ev_def H.gDraw ?_ rfl rfl rfl rfl (by simp)
    repeat (walk_at "sol")
    refine (fn_draw (n := 5 + dp) (k := 6) (by omega) H hw W (by omega)).mono ?_
    rintro _ σ' ⟨r, w1, rfl, hr, W1, h⟩
    subst σ'
    have hw1 : (upd σ a w1).lookup a = some w1 := lookup_upd hw
    repeat (walk_at "sol")
    refine ta_and ?_
    repeat (walk_at "sol")
    cases hr1 : ((r : Int) == 1) with
    | true =>
      refine ⟨fun _ => ?_, fun h => (by cases h)⟩
      refine ta_and ?_
      repeat (walk_at "sol")
      refine ⟨fun _ => ta_and_nil ⟨fun _ => ?_, fun h => (by cases h)⟩, fun h => absurd (of_decide_eq_false h) (by omega)⟩
      repeat (walk_at "sol")
      refine ev_list ?_
      repeat (walk_at "sol")
      refine ev_def H.gName ?_ rfl rfl rfl rfl (by simp)
      repeat (walk_at "sol")
      refine (fn_name (n := 5 + dp) (by omega) H hw1 W1).mono ?_
      rintro _ σ' ⟨x, w2, rfl, hx, W2, h⟩
      subst σ'
      rw [upd_upd]
      have hw2 : (upd σ a w2).lookup a = some w2 := lookup_upd hw
      repeat (walk_at "sol")
      refine ev_tuple ?_
      repeat (walk_at "sol")
      refine ⟨by simp, ?_⟩
      repeat (walk_at "sol")
      refine ⟨by simp, ?_⟩
      refine ev_def H.gFill ?_ rfl rfl rfl rfl (by simp)
      repeat (walk_at "sol")
      rw [show (((dp + 1 : Nat) : Int) - 1) = (dp : Int) by omega]
      refine (ih (by omega) (n := 5 + dp) (by omega) hw2 W2).mono ?_
      rintro _ σ' ⟨F, w3, rfl, hF, W9, h⟩
      subst σ'
      have hl := hF.len
      rw [upd_upd]
      refine op_add_list (by rw [List.length_map]; simp; omega) ?_
      refine ev_list ?_
      repeat (walk_at "sol")
      refine ev_tuple ?_
      repeat (walk_at "sol")
      refine ⟨by simp, ?_⟩
      repeat (walk_at "sol")
      refine ⟨by simp, ?_⟩
      refine op_add_list (by rw [List.length_append, List.length_map]; simp; omega) ?_
      repeat (walk_at "sol")
      refine ⟨tk "name" x :: tk "sign" "[" :: (F ++ [tk "sign" "]"]), w3, ?_, .br hx hF, W9, rfl⟩
      simp [pairs, pair]
    | false =>
    refine ⟨fun h => (by cases h), fun _ => ⟨fun h => (by cases h), fun _ => ?_⟩⟩
    repeat (walk_at "sol")
    refine ta_and ?_
    repeat (walk_at "sol")
    cases hr2 : ((r : Int) == 2) with
    | true =>
      refine ⟨fun _ => ?_, fun h => (by cases h)⟩
      refine ta_and ?_
      repeat (walk_at "sol")
      refine ⟨fun _ => ta_and_nil ⟨fun _ => ?_, fun h => (by cases h)⟩, fun h => absurd (of_decide_eq_false h) (by omega)⟩
      repeat (walk_at "sol")
      refine ev_list ?_
      repeat (walk_at "sol")
      refine ev_tuple ?_
      repeat (walk_at "sol")
      refine ⟨by simp, ?_⟩
      repeat (walk_at "sol")
      refine ⟨by simp, ?_⟩
      refine ev_def H.gFill ?_ rfl rfl rfl rfl (by simp)
      repeat (walk_at "sol")
      rw [show (((dp + 1 : Nat) : Int) - 1) = (dp : Int) by omega]
      refine (ih (by omega) (n := 5 + dp) (by omega) hw1 W1).mono ?_
      rintro _ σ' ⟨F, w3, rfl, hF, W9, h⟩
      subst σ'
      have hl := hF.len
      rw [upd_upd]
      refine op_add_list (by rw [List.length_map]; simp; omega) ?_
      refine ev_list ?_
      repeat (walk_at "sol")
      refine ev_tuple ?_
      repeat (walk_at "sol")
      refine ⟨by simp, ?_⟩
      repeat (walk_at "sol")
      refine ev_tuple ?_
      repeat (walk_at "sol")
      refine ⟨by simp, ?_⟩
      repeat (walk_at "sol")
      refine ev_tuple ?_
      repeat (walk_at "sol")
      refine ⟨by simp, ?_⟩
      repeat (walk_at "sol")
      refine ⟨by simp, ?_⟩
      refine op_add_list (by rw [List.length_append, List.length_map]; simp; omega) ?_
      repeat (walk_at "sol")
      refine ⟨tk "sign" "(" :: (F ++ [tk "sign" ")", tk "sign" "+", tk "number" "1"]), w3, ?_, .par hF, W9, rfl⟩
      simp [pairs, pair]
    | false =>
    refine ⟨fun h => (by cases h), fun _ => ⟨fun h => (by cases h), fun _ => ?_⟩⟩
    repeat (walk_at "sol")
    cases hr3 : ((r : Int) == 3) with
    | true =>
      refine ⟨fun _ => ?_, fun h => (by cases h)⟩
      repeat (walk_at "sol")
      refine ev_list ?_
      repeat (walk_at "sol")
      refine ev_def H.gName ?_ rfl rfl rfl rfl (by simp)
      repeat (walk_at "sol")
      refine (fn_name (n := 5 + dp) (by omega) H hw1 W1).mono ?_
      rintro _ σ' ⟨x, w2, rfl, hx, W2, h⟩
      subst σ'
      rw [upd_upd]
      have hw2 : (upd σ a w2).lookup a = some w2 := lookup_upd hw
      repeat (walk_at "sol")
      refine ev_tuple ?_
      repeat (walk_at "sol")
      refine ⟨by simp, ?_⟩
      repeat (walk_at "sol")
      refine ev_def H.gName ?_ rfl rfl rfl rfl (by simp)
      repeat (walk_at "sol")
      refine (fn_name (n := 5 + dp) (by omega) H hw2 W2).mono ?_
      rintro _ σ' ⟨y, w3, rfl, hy, W3, h⟩
      subst σ'
      rw [upd_upd]
      repeat (walk_at "sol")
      refine ⟨by simp, ?_⟩
      repeat (walk_at "sol")
      exact ⟨[tk "name" x, tk "sign" ".", tk "name" y], w3, rfl, .dot hx hy, W3, rfl⟩
    | false =>
    refine ⟨fun h => (by cases h), fun _ => ?_⟩
    repeat (walk_at "sol")
    refine ev_if ?_
    repeat (walk_at "sol")
    cases hr4 : ((r : Int) == 4) with
    | true =>
      refine ⟨fun _ => ?_, fun h => (by cases h)⟩
      refine ev_list ?_
      repeat (walk_at "sol")
      refine ev_tuple ?_
      repeat (walk_at "sol")
      refine ⟨by simp, ?_⟩
      repeat (walk_at "sol")
      refine ⟨by simp, ?_⟩
      repeat (walk_at "sol")
      exact ⟨[tk "text" "\"];\""], w1, rfl, .txt, W1, rfl⟩
    | false =>
    refine ⟨fun h => (by cases h), fun _ => ?_⟩
    refine ev_if ?_
    repeat (walk_at "sol")
    cases hr5 : ((r : Int) == 5) with
    | true =>
      refine ⟨fun _ => ?_, fun h => (by cases h)⟩
      refine ev_list ?_
      repeat (walk_at "sol")
      refine ev_def H.gName ?_ rfl rfl rfl rfl (by simp)
      repeat (walk_at "sol")
      refine (fn_name (n := 5 + dp) (by omega) H hw1 W1).mono ?_
      rintro _ σ' ⟨x, w2, rfl, hx, W2, h⟩
      subst σ'
      rw [upd_upd]
      repeat (walk_at "sol")
      refine ⟨by simp, ?_⟩
      repeat (walk_at "sol")
      exact ⟨[tk "name" x], w2, rfl, .nm hx, W2, rfl⟩
    | false =>
    refine ⟨fun h => (by cases h), fun _ => ?_⟩
    refine ev_list ?_
    repeat (walk_at "sol")
    refine ev_tuple ?_
    repeat (walk_at "sol")
    refine ⟨by simp, ?_⟩
    repeat (walk_at "sol")
    refine ⟨by simp, ?_⟩
    repeat (walk_at "sol")
    exact ⟨[tk "number" "12"], w1, rfl, .num, W1, rfl⟩
end

section
variable {C : Cx} {n : Nat} {env : Env} {ρ : List (Str × PV)} {σ : Sig} {K : PV → Sig → Prop}
variable {T : Ad} {c d : Addr} {ps : List PV} {ks : List (Str × Str)} {spot : Nat} {depth : Int}

variable {a : Addr} {w : Cell}
noncomputable def okWord (w nm : Str) : Bool := (elem? w == some nm) && (!(nm == "") && (!(w == "mapping") && !(w == "revert")))
inductive Plain9 : List (Str × Str) → Str → Prop
  | pay : Plain9 [tk "keyword" "address", tk "keyword" "payable"] "address"
  | path {x0 : Str} {ys : List Str} : x0 ∈ nameL → (∀ y ∈ ys, y ∈ nameL) → ys.length ≤ 2 → Plain9 (tk "name" x0 :: dots ys) (joined x0 ys)
  | word {w nm : Str} : okWord w nm = true → Plain9 [tk "keyword" w] nm
noncomputable def wordsL : List Str := ["uint", "int", "bool", "address", "string", "bytes", "uint", "int", "bytes"]
noncomputable def sized3 : List Str := ["uint", "int", "bytes"]
theorem words_ok : ∀ x ∈ wordsL, okWord x (if sizedL.any (· == x) = true then x ++ "256" else x) = true := by decide +kernel
noncomputable def sizedWord (x : Str) (i : Nat) : Str := x ++ Str.ofString (toString (if (x == "bytes") = true then (i : Int) else 8 * (i : Int)))
theorem sized_ok : ∀ x ∈ sized3, ∀ i : Fin 33, i.val ≠ 0 → okWord (sizedWord x i.val) (sizedWord x i.val) = true := by decide +kernel
theorem join1 : ∀ x ∈ nameL, Txt.join "" [x] = joined x [] ∧ (([x] : List Str).map (·.length)).sum + ([x] : List Str).length * ("" : Str).length ≤ 1000000 := by decide +kernel
theorem join2 : ∀ x ∈ nameL, ∀ y ∈ nameL, Txt.join "" [x, ".", y] = joined x [y] ∧ (([x, ".", y] : List Str).map (·.length)).sum + ([x, ".", y] : List Str).length * ("" : Str).length ≤ 1000000 := by decide +kernel
theorem join3 : ∀ x ∈ nameL, ∀ y ∈ nameL, ∀ z ∈ nameL, Txt.join "" [x, ".", y, ".", z] = joined x [y, z] ∧ (([x, ".", y, ".", z] : List Str).map (·.length)).sum + ([x, ".", y, ".", z] : List Str).length * ("" : Str).length ≤ 1000000 := by decide +kernel
noncomputable def texts (x : Str) (ys : List Str) : List Str := x :: ys.flatMap fun y => [".", y]
theorem joins {x : Str} {ys : List Str} (hx : x ∈ nameL) (hy : ∀ y ∈ ys, y ∈ nameL) (hl : ys.length ≤ 2) :
    Txt.join "" (texts x ys) = joined x ys ∧ ((texts x ys).map (·.length)).sum + (texts x ys).length * ("" : Str).length ≤ 1000000 := by
  match ys, hl with
  | [], _ => exact join1 x hx
  | [y], _ => exact join2 x hx y (hy _ (by simp))
  | [y, z], _ => exact join3 x hx y (hy _ (by simp)) z (hy _ (by simp))
theorem dots_append (ys : List Str) (y : Str) : dots (ys ++ [y]) = dots ys ++ [tk "sign" ".", tk "name" y] := by simp [dots]
theorem dots_length (ys : List Str) : (dots ys).length = 2 * ys.length := by
  induction ys with
  | nil => rfl
  | cons y ys ih =>
    show ((("sign" : Str), ("." : Str)) :: (("name" : Str), y) :: dots ys).length = _
    simp only [List.length_cons, ih]; omega
noncomputable def secondP : PV → PV
  | .tup [_, t] => t
  | _ => .none
theorem texts_of (x : Str) (ys : List Str) : ((((tk "name" x :: dots ys).map fun p => pair p.1 p.2).filter (fun _ => true)).map secondP) = (texts x ys).map PV.str := by
  have e : ∀ l : List (Str × Str), ((l.map fun p => pair p.1 p.2).filter (fun _ => true)).map secondP = (l.map (·.2)).map PV.str := fun l => by
    rw [List.filter_eq_self.mpr (fun _ _ => rfl), List.map_map, List.map_map]; rfl
  rw [e]
  congr 1
  show x :: (dots ys).map (·.2) = x :: _
  congr 1
  unfold dots
  rw [List.map_flatMap]
  rfl

theorem fn_plain (hn : 5 ≤ n) (H : Tab C T) (hw : σ.lookup a = some w) (W : IsWell w) :
    FN C n T.gPlain [.ref a] σ fun p σ' => ∃ (F : List (Str × Str)) (nm : Str) (w' : Cell), p = .tup [pairs F, .str nm] ∧ Plain9 F nm ∧ IsWell w' ∧ σ' = upd σ a w' := by
  refine FN.le ?_ hn
  refine lit H.gPlain.fn fun pa bo sc hp hb hs F => ?_
  conv at hp => rhs; whnf
  conv at hb => rhs; whnf
  conv at hs => rhs; whnf
  subst hp hb hs
  refine fn_enter1 (x1 := "well") F (fun _ _ _ _ _ _ _ _ _ => rfl) (allLoc_of rfl) (noCell_of rfl) fun L q cd => ?_
  repeat (walk_at "sol")
  refine ev_def H.gDraw ?_ rfl rfl rfl rfl (by simp)
  repeat (walk_at "sol")
  refine (fn_draw (n := 4) (k := 9) (by omega) H hw W (by omega)).mono ?_
  rintro _ σ' ⟨r, w1, rfl, hr, W1, h⟩
  subst σ'
  have hw1 : (upd σ a w1).lookup a = some w1 := lookup_upd hw
  repeat (walk_at "sol")
  cases hr4 : ((r : Int) == 4) with
  | true =>
    refine ⟨fun _ => ?_, fun h => (by cases h)⟩
    repeat (walk_at "sol")
    refine ev_tuple ?_
    repeat (walk_at "sol")
    refine ev_list ?_
    repeat (walk_at "sol")
    refine ev_tuple ?_
    repeat (walk_at "sol")
    refine ⟨by simp, ?_⟩
    repeat (walk_at "sol")
    refine ev_tuple ?_
    repeat (walk_at "sol")
    refine ⟨by simp, ?_⟩
    repeat (walk_at "sol")
    refine ⟨by simp, ?_⟩
    repeat (walk_at "sol")
    refine ⟨by simp, ?_⟩
    repeat (walk_at "sol")
    exact ⟨_, _, w1, rfl, .pay, W1, rfl⟩
  | false =>
  refine ⟨fun h => (by cases h), fun _ => ?_⟩
  repeat (walk_at "sol")
  cases hr5 : decide ((4 : Int) < (r : Int)) with
  | true =>
    refine ⟨fun _ => ?_, fun h => (by cases h)⟩
    repeat (walk_at "sol")
    refine ev_list ?_
    repeat (walk_at "sol")
    refine ev_def H.gName ?_ rfl rfl rfl rfl (by simp)
    repeat (walk_at "sol")
    refine (fn_name (n := 4) (by omega) H hw1 W1).mono ?_
    rintro _ σ' ⟨x0, w2, rfl, hx0, W2, h⟩
    subst σ'
    rw [upd_upd]
    have hw2 : (upd σ a w2).lookup a = some w2 := lookup_upd hw
    repeat (walk_at "sol")
    refine ⟨by simp, ?_⟩
    refine x_for (fun i (ρ' : List (Str × PV)) (σ' : Sig) => ∃ (ys : List Str) (w' : Cell), ρ' = ([("found", pairs (tk "name" x0 :: dots ys)), ("well", .ref a)] : List (Str × PV)) ∧ σ' = upd σ a w' ∧ IsWell w' ∧ ys.length = i ∧ ∀ y ∈ ys, y ∈ nameL) ?_ (fun _ => rfl)
    refine ie_range (y := "") ?_ H.no_range rfl rfl rfl rfl rfl
    refine ev_def H.gDraw ?_ rfl rfl rfl rfl (by simp)
    repeat (walk_at "sol")
    refine (fn_draw (n := 4) (k := 3) (by omega) H hw2 W2 (by omega)).mono ?_
    rintro _ σ' ⟨m, w3, rfl, hm, W3, h⟩
    subst σ'
    rw [upd_upd]
    refine ⟨m, rfl, by omega, ⟨_, Sub.cons rfl (Sub.cons rfl .nil), [], w3, rfl, rfl, W3, rfl, fun _ h => (by cases h)⟩, ?_, ?_⟩
    · rintro i q _ σ' hq ⟨ys, w4, rfl, h, W4, rfl, hys⟩
      subst σ'
      have hi : ys.length < m := by
        have := (List.getElem?_eq_some_iff.mp hq).1
        simpa using this
      have hw4 : (upd σ a w4).lookup a = some w4 := lookup_upd hw
      refine ⟨_, as_name rfl rfl, ?_⟩
      refine x_assign (ev_bin ?_) rfl rfl rfl
      repeat (walk_at "sol")
      refine ev_list ?_
      repeat (walk_at "sol")
      refine ev_tuple ?_
      repeat (walk_at "sol")
      refine ⟨by simp, ?_⟩
      repeat (walk_at "sol")
      refine ev_def H.gName ?_ rfl rfl rfl rfl (by simp)
      repeat (walk_at "sol")
      refine (fn_name (n := 4) (by omega) H hw4 W4).mono ?_
      rintro _ σ' ⟨y, w5, rfl, hy, W5, h⟩
      subst σ'
      rw [upd_upd]
      repeat (walk_at "sol")
      refine ⟨by simp, ?_⟩
      refine op_add_list (by simp [dots_length]; omega) ?_
      repeat (walk_at "sol")
      have e : (PV.list ((tk "name" x0 :: dots ys).map (fun p => pair p.1 p.2) ++ [PV.tup [PV.str "sign", PV.str "."], pair "name" y])) = pairs (tk "name" x0 :: dots (ys ++ [y])) := by simp [dots_append, pairs, pair]
      rw [e]
      refine ⟨_, Sub.cons rfl (Sub.cons rfl .nil), ys ++ [y], w5, rfl, rfl, W5, by simp, ?_⟩
      · intro z hz
        rcases List.mem_append.mp hz with hz | hz
        · exact hys z hz
        · simp at hz; subst hz; exact hy
    rintro ρ1 σ' ⟨ys, w4, rfl, h, W4, hlen, hys⟩
    subst σ'
    rw [List.length_map, List.length_range] at hlen
    have hl2 : ys.length ≤ 2 := by omega
    obtain ⟨j1, j2⟩ := joins hx0 hys hl2
    repeat (walk_at "sol")
    refine ev_tuple ?_
    repeat (walk_at "sol")
    refine ev_join ?_ rfl rfl rfl
    refine ev_comp (cl := []) secondP (fun _ => true) ?_ (fun _ => rfl) rfl rfl (by intro x hx hl; simp at hx; rcases hx with rfl | rfl | rfl <;> first | rfl | cases hl) (noCell_of rfl)
    refine ie_list ?_ plainly_tuple
    repeat (walk_at "sol")
    refine ⟨_, rfl, by simp [dots_length]; omega, ?_, ?_⟩
    · intro p hp L D qs hD
      obtain ⟨t, _, rfl⟩ := List.mem_map.mp hp
      refine ⟨_, as_tuple (ass_cons (as_name rfl rfl) (ass_cons (as_name rfl rfl) ass_nil)) rfl rfl, rfl, fun _ => ?_⟩
      repeat (walk_at "sol")
      exact ⟨rfl, rfl⟩
    refine ⟨texts x0 ys, congrArg PV.list (texts_of x0 ys), j2, ?_⟩
    repeat (walk_at "sol")
    refine ⟨by simp, ?_⟩
    repeat (walk_at "sol")
    exact ⟨_, _, w4, by rw [j1], .path hx0 hys hl2, W4, rfl⟩
  | false =>
  refine ⟨fun h => (by cases h), fun _ => ?_⟩
  repeat (walk_at "sol")
  refine ev_tuple ?_
  repeat (walk_at "sol")
  refine ⟨by decide, ?_⟩
  refine ev_def H.gDraw ?_ rfl rfl rfl rfl (by simp)
  repeat (walk_at "sol")
  refine (fn_draw (n := 4) (k := 9) (by omega) H hw1 W1 (by omega)).mono ?_
  rintro _ σ' ⟨i, w2, rfl, hi, W2, h⟩
  subst σ'
  rw [upd_upd]
  have hw2 : (upd σ a w2).lookup a = some w2 := lookup_upd hw
  obtain ⟨x, hx, hx1, hx2⟩ := get_map PV.str (l := wordsL) (i := i) (by show i < 9; omega)
  refine op_item_tup (by omega) (by omega) (p := .str x) hx2 ?_
  repeat (walk_at "sol")
  refine ev_def H.gDraw ?_ rfl rfl rfl rfl (by simp)
  repeat (walk_at "sol")
  refine (fn_draw (n := 4) (k := 33) (by omega) H hw2 W2 (by omega)).mono ?_
  rintro _ σ' ⟨z, w3, rfl, hz, W3, h⟩
  subst σ'
  rw [upd_upd]
  have hbase := words_ok x hx
  have hxl : x.length ≤ 10 := by
    have : ∀ x ∈ wordsL, x.length ≤ 10 := by decide +kernel
    exact this x hx
  refine x_if (tb_mono (K := fun b σ' => b = (decide ((1 : Int) < (r : Int)) && (decide ((0 : Int) < (z : Int)) && sized3.any (· == x))) ∧ σ' = upd σ a w3) (tb_bool (ta_and ?_)) ?_)
  · repeat (walk_at "sol")
    cases h1 : decide ((1 : Int) < (r : Int)) with
    | false => exact ⟨fun h => (by cases h), fun _ => ⟨rfl, rfl⟩⟩
    | true =>
    refine ⟨fun _ => ?_, fun h => (by cases h)⟩
    refine ta_and ?_
    repeat (walk_at "sol")
    cases h2 : decide ((0 : Int) < (z : Int)) with
    | false => exact ⟨fun h => (by cases h), fun _ => ⟨rfl, rfl⟩⟩
    | true =>
    refine ⟨fun _ => ?_, fun h => (by cases h)⟩
    refine ta_and (tb_cmp ?_ rfl)
    repeat (walk_at "sol")
    refine ev_tuple ?_
    repeat (walk_at "sol")
    refine ⟨by simp, op_in_strs (ys := sized3) (bex ?_)⟩
    exact ⟨fun h3 => ta_and_nil ⟨by rw [h3]; rfl, rfl⟩, fun h3 => ⟨by rw [h3]; rfl, rfl⟩⟩
  rintro b σ' ⟨hb, h⟩
  subst σ'
  refine ⟨fun hbt => ?_, fun hbf => ?_⟩
  · rw [hbt] at hb
    have hb := hb.symm
    simp only [Bool.and_eq_true, decide_eq_true_eq] at hb
    obtain ⟨h1, h2, h3⟩ := hb
    have hm : x ∈ sized3 := by
      obtain ⟨y, hy, e⟩ := List.any_eq_true.mp h3
      rw [← eq_of_beq e]; exact hy
    have hok := sized_ok x hm ⟨z, by omega⟩ (by show z ≠ 0; omega)
    repeat (walk_at "sol")
    refine w_str H ?_ rfl rfl rfl rfl rfl
    refine es_cons (EV.mono (K := fun p σ' => p = .int (if (x == "bytes") = true then (z : Int) else 8 * (z : Int)) ∧ σ' = upd σ a w3) (ev_if ?_) ?_) rfl
    · repeat (walk_at "sol")
      refine ⟨fun h => ?_, fun h => ?_⟩
      · repeat (walk_at "sol")
        exact ⟨by rw [if_pos h], rfl⟩
      · repeat (walk_at "sol")
        refine op_mul_int (.of_left (by decide)) ?_
        exact ⟨by rw [h, if_neg (by decide)], rfl⟩
    rintro _ σ' ⟨rfl, h⟩
    subst σ'
    repeat (walk_at "sol")
    refine cv_str (Nat.lt_of_le_of_lt (Nat.log2_le_self _) ?_) ?_
    · split <;> omega
    have hl : (Str.ofString (toString (if (x == "bytes") = true then (z : Int) else 8 * (z : Int)))).length ≤ 100 := by
      have : ∀ x ∈ sized3, ∀ i : Fin 33, (Str.ofString (toString (if (x == "bytes") = true then (i.val : Int) else 8 * (i.val : Int)))).length ≤ 100 := by decide +kernel
      exact this x hm ⟨z, by omega⟩
    refine op_add_str (x := x) (y := Str.ofString (toString (if (x == "bytes") = true then (z : Int) else 8 * (z : Int)))) (by rw [sizeLine_eq]; omega) ?_
    repeat (walk_at "sol")
    refine ev_tuple ?_
    repeat (walk_at "sol")
    refine ev_list ?_
    repeat (walk_at "sol")
    refine ev_tuple ?_
    repeat (walk_at "sol")
    refine ⟨by simp, ?_⟩
    repeat (walk_at "sol")
    refine ⟨by simp, ?_⟩
    repeat (walk_at "sol")
    refine ⟨by simp, ?_⟩
    repeat (walk_at "sol")
    exact ⟨[tk "keyword" (sizedWord x z)], _, w3, rfl, .word hok, W3, rfl⟩
  · repeat (walk_at "sol")
    refine ev_tuple ?_
    repeat (walk_at "sol")
    refine ev_list ?_
    repeat (walk_at "sol")
    refine ev_tuple ?_
    repeat (walk_at "sol")
    refine ⟨by simp, ?_⟩
    repeat (walk_at "sol")
    refine ⟨by simp, ?_⟩
    repeat (walk_at "sol")
    refine ev_if (tb_cmp ?_ rfl)
    repeat (walk_at "sol")
    refine ev_tuple ?_
    repeat (walk_at "sol")
    refine ⟨by simp, op_in_strs (ys := sizedL) (bex ?_)⟩
    refine ⟨fun h => ?_, fun h => ?_⟩
    · rw [if_pos h] at hbase
      repeat (walk_at "sol")
      have h256 : ("256" : Str).length = 3 := rfl
      refine op_add_str (x := x) (y := "256") (by rw [sizeLine_eq, h256]; omega) ?_
      repeat (walk_at "sol")
      refine ⟨by simp, ?_⟩
      repeat (walk_at "sol")
      exact ⟨[tk "keyword" x], _, w3, rfl, .word hbase, W3, rfl⟩
    · rw [h, if_neg (by decide)] at hbase
      repeat (walk_at "sol")
      refine ⟨by simp, ?_⟩
      repeat (walk_at "sol")
      exact ⟨[tk "keyword" x], _, w3, rfl, .word hbase, W3, rfl⟩
end

section
variable {C : Cx} {n : Nat} {env : Env} {ρ : List (Str × PV)} {σ : Sig} {K : PV → Sig → Prop}
variable {T : Ad} {c d : Addr} {ps : List PV} {ks : List (Str × Str)} {spot : Nat} {depth : Int}

variable {a : Addr} {w : Cell}
theorem upd_skip {s a : Addr} {x c : Cell} (h : s ≠ a) : upd ((s, x) :: σ) a c = (s, x) :: upd σ a c := by
  unfold upd; rw [List.map_cons, if_neg h]
theorem foots_lookup_upd {w w' : Cell} (hw : σ.lookup a = some w) (W : IsWell w) (W' : IsWell w') (hn : (foots σ).Nodup) : foots (upd σ a w') = foots σ := by
  obtain ⟨_, _, _, rfl, _⟩ := W
  obtain ⟨_, _, _, rfl, _⟩ := W'
  exact foots_upd (mem_of_lookup hw) hn rfl
noncomputable def spPV (p : Int × Int) : PV := .tup [.int p.1, .int p.2]
noncomputable def spansOf : Nat → List (List (Str × Str)) → List (Int × Int)
  | _, [] => []
  | b, F :: Fs => ((b : Int), ((b + F.length + 2 : Nat) : Int)) :: spansOf (b + F.length + 2) Fs
theorem brk_cons (F : List (Str × Str)) (Fs : List (List (Str × Str))) : brk (F :: Fs) = tk "sign" "[" :: (F ++ [tk "sign" "]"]) ++ brk Fs := rfl
theorem brk_append (Fs : List (List (Str × Str))) (F : List (Str × Str)) : brk (Fs ++ [F]) = brk Fs ++ tk "sign" "[" :: (F ++ [tk "sign" "]"]) := by simp [brk]
theorem spansOf_append : ∀ (Fs : List (List (Str × Str))) (F : List (Str × Str)) (b : Nat), spansOf b (Fs ++ [F]) = spansOf b Fs ++ [(((b + (brk Fs).length : Nat) : Int), ((b + (brk Fs).length + F.length + 2 : Nat) : Int))]
  | [], F, b => by simp [spansOf, brk]
  | G :: Fs, F, b => by
    have hl : (brk (G :: Fs)).length = G.length + 2 + (brk Fs).length := by rw [brk_cons]; simp; omega
    have n1 : b + G.length + 2 + (brk Fs).length = b + (G.length + 2 + (brk Fs).length) := by omega
    rw [List.cons_append, spansOf, spansOf_append Fs F, spansOf, hl, List.cons_append, n1]
noncomputable def FsOk (Fs : List (List (Str × Str))) : Prop := ∀ F ∈ Fs, F = [] ∨ Fil 2 F
theorem FsOk.len {F : List (Str × Str)} (h : F = [] ∨ Fil 2 F) : F.length ≤ 11 := by
  rcases h with rfl | h
  · simp
  · exact h.len
theorem brk_len : ∀ {Fs : List (List (Str × Str))}, FsOk Fs → (brk Fs).length ≤ 13 * Fs.length
  | [], _ => by simp [brk]
  | F :: Fs, h => by
    have h1 := FsOk.len (h F (.head _))
    have h2 := brk_len (fun G hG => h G (.tail _ hG) : FsOk Fs)
    rw [brk_cons]; simp; omega
theorem Plain9.len {F : List (Str × Str)} {nm : Str} (h : Plain9 F nm) : F.length ≤ 5 := by
  cases h with
  | pay => simp
  | path _ _ h => rw [List.length_cons, dots_length]; omega
  | word _ => simp

theorem fn_shape (hn : 8 ≤ n) (H : Tab C T) (hw : σ.lookup a = some w) (W : IsWell w) :
    FN C n T.gShape [.ref a] σ fun p σ' => ∃ (B : List (Str × Str)) (nm : Str) (Fs : List (List (Str × Str))) (w' : Cell), p = .tup [pairs (B ++ brk Fs), .str nm, .list ((spansOf B.length Fs).map spPV)] ∧ Plain9 B nm ∧ FsOk Fs ∧ Fs.length ≤ 3 ∧ IsWell w' ∧ σ' = upd σ a w' := by
  refine FN.le ?_ hn
  refine FN.nodup fun hnd => ?_
  refine lit H.gShape.fn fun pa bo sc hp hb hs F => ?_
  conv at hp => rhs; whnf
  conv at hb => rhs; whnf
  conv at hs => rhs; whnf
  subst hp hb hs
  refine fn_enter1 (x1 := "well") F (fun _ _ _ _ _ _ _ _ _ => rfl) (allLoc_of rfl) (noCell_of rfl) fun L q cd => ?_
  refine x_unpack ?_ rfl rfl
  refine ev_def H.gPlain ?_ rfl rfl rfl rfl (by simp)
  repeat (walk_at "sol")
  refine (fn_plain (n := 7) (by omega) H hw W).mono ?_
  rintro _ σ' ⟨B, nm, w1, rfl, hB, W1, h⟩
  subst σ'
  refine ⟨_, as_tuple (ass_cons (as_name rfl rfl) (ass_cons (as_name rfl rfl) ass_nil)) rfl rfl, ?_⟩
  have hw1 : (upd σ a w1).lookup a = some w1 := lookup_upd hw
  refine x_assign (ev_list_cellN (es_nil ⟨by simp, fun s hs => ?_⟩)) rfl rfl rfl
  have hsa : s ≠ a := fun e => hs (by subst e; exact lookup_foot hw1)
  have hsF : ∀ w', IsWell w' → s ∉ foots (upd σ a w') := fun w' W' => by
    rw [foots_lookup_upd hw W W1 hnd] at hs
    rw [foots_lookup_upd hw W W' hnd]; exact hs
  have hBl := hB.len
  have lka : ∀ (x w' : Cell), ((s, x) :: upd σ a w').lookup a = some w' := fun x w' => by
    rw [lookup_cons_ne (fun e => hsa e.symm)]; exact lookup_upd hw
  refine x_for (fun i (ρ' : List (Str × PV)) (σ' : Sig) => ∃ (Fs : List (List (Str × Str))) (w' : Cell), ρ' = ([("spans", .ref s), ("name", .str nm), ("found", pairs (B ++ brk Fs)), ("well", .ref a)] : List (Str × PV)) ∧ σ' = (s, .lst ((spansOf B.length Fs).map spPV)) :: upd σ a w' ∧ IsWell w' ∧ Fs.length = i ∧ FsOk Fs) ?_ (fun _ => rfl)
  refine ie_range (y := "") ?_ H.no_range rfl rfl rfl rfl rfl
  refine ev_def H.gDraw ?_ rfl rfl rfl rfl (by simp)
  repeat (walk_at "sol")
  refine (fn_draw (n := 7) (k := 4) (by omega) H (lka _ _) W1 (by omega)).mono ?_
  rintro _ σ' ⟨m, w3, rfl, hm, W3, h⟩
  subst σ'
  rw [upd_skip hsa, upd_upd]
  have eB : pairs B = pairs (B ++ brk []) := by simp [brk]
  rw [eB]
  refine ⟨m, rfl, by omega, ⟨_, Sub.cons rfl (Sub.cons rfl (Sub.cons rfl (Sub.cons rfl .nil))), [], w3, rfl, rfl, W3, rfl, fun _ h => (by cases h)⟩, ?_, ?_⟩
  · rintro i q _ σ' hq ⟨Fs, w4, rfl, h, W4, rfl, hFs⟩
    subst σ'
    have hi : Fs.length < m := by
      have := (List.getElem?_eq_some_iff.mp hq).1
      simpa using this
    have hbl := brk_len hFs
    refine ⟨_, as_name rfl rfl, ?_⟩
    repeat (walk_at "sol")
    refine cv_len_list (by simp; omega) ?_
    refine x_assign (ev_bin (ev_bin (ev_bin ?_))) rfl rfl rfl
    repeat (walk_at "sol")
    refine ev_list ?_
    repeat (walk_at "sol")
    refine ev_tuple ?_
    repeat (walk_at "sol")
    refine ⟨by simp, ?_⟩
    repeat (walk_at "sol")
    refine ⟨by simp, ?_⟩
    refine op_add_list (by simp; omega) ?_
    refine EV.mono (K := fun p σ' => ∃ (F : List (Str × Str)) (w' : Cell), (F = [] ∨ Fil 2 F) ∧ IsWell w' ∧ p = pairs F ∧ σ' = (s, .lst ((spansOf B.length Fs).map spPV)) :: upd σ a w') (ev_if (tb_cmp ?_ rfl)) ?_
    · refine ev_def H.gDraw ?_ rfl rfl rfl rfl (by simp)
      repeat (walk_at "sol")
      refine (fn_draw (n := 7) (k := 3) (by omega) H (lka _ _) W4 (by omega)).mono ?_
      rintro _ σ' ⟨z, w5, rfl, hz, W5, h⟩
      subst σ'
      rw [upd_skip hsa, upd_upd]
      repeat (walk_at "sol")
      refine ⟨fun _ => ?_, fun _ => ?_⟩
      · refine ev_def H.gFill ?_ rfl rfl rfl rfl (by simp)
        repeat (walk_at "sol")
        refine (fn_filling H 2 (by omega) (n := 7) (by omega) (lka _ _) W5).mono ?_
        rintro _ σ' ⟨F, w6, rfl, hF, W6, h⟩
        subst σ'
        rw [upd_skip hsa, upd_upd]
        exact ⟨F, w6, .inr hF, W6, rfl, rfl⟩
      · refine ev_list ?_
        repeat (walk_at "sol")
        exact ⟨by simp, [], w5, .inl rfl, W5, rfl, rfl⟩
    rintro _ σ' ⟨F, w6, hF, W6, rfl, h⟩
    subst σ'
    have hFl := FsOk.len hF
    refine op_add_list (by simp; omega) ?_
    refine ev_list ?_
    repeat (walk_at "sol")
    refine ev_tuple ?_
    repeat (walk_at "sol")
    refine ⟨by simp, ?_⟩
    repeat (walk_at "sol")
    refine ⟨by simp, ?_⟩
    refine op_add_list (by simp; omega) ?_
    have e1 : (PV.list ((((B ++ brk Fs).map (fun p => pair p.1 p.2) ++ [PV.tup [PV.str "sign", PV.str "["]]) ++ F.map (fun p => pair p.1 p.2)) ++ [PV.tup [PV.str "sign", PV.str "]"]])) = pairs (B ++ brk (Fs ++ [F])) := by simp [brk_append, pairs, pair]
    have e2 : (((B ++ brk Fs).map (fun p => pair p.1 p.2)).length : Int) = ((B.length + (brk Fs).length : Nat) : Int) := by simp
    rw [e1, e2]
    refine x_expr (ev_append ?_ rfl rfl rfl rfl) rfl rfl
    repeat (walk_at "sol")
    refine ⟨s, _, rfl, lookup_cons_eq, ?_⟩
    refine ev_tuple ?_
    repeat (walk_at "sol")
    refine cv_len_list (by simp [brk_append]; omega) ?_
    repeat (walk_at "sol")
    refine ⟨by simp, ?_⟩
    have hsl : (spansOf B.length Fs).length ≤ 3 := by
      have : ∀ (Fs : List (List (Str × Str))) (b : Nat), (spansOf b Fs).length = Fs.length := by
        intro Fs
        induction Fs with
        | nil => intro b; rfl
        | cons F Fs ih => intro b; rw [spansOf, List.length_cons, ih]; rfl
      rw [this]; omega
    refine ⟨_, lookup_cons_eq, by rw [List.length_map]; omega, ?_⟩
    rw [upd_head (hsF w6 W6)]
    have e3 : (spansOf B.length Fs).map spPV ++ [PV.tup [.int ((B.length + (brk Fs).length : Nat) : Int), .int (((B ++ brk (Fs ++ [F])).map (fun p => pair p.1 p.2)).length : Int)]] = (spansOf B.length (Fs ++ [F])).map spPV := by
      have hl : ((B ++ brk (Fs ++ [F])).map (fun p => pair p.1 p.2)).length = B.length + (brk Fs).length + F.length + 2 := by simp [brk_append]; omega
      rw [hl, spansOf_append, List.map_append]; rfl
    rw [e3]
    repeat (walk_at "sol")
    refine ⟨_, Sub.cons rfl (Sub.cons rfl (Sub.cons rfl (Sub.cons rfl .nil))), Fs ++ [F], w6, rfl, rfl, W6, by simp, ?_⟩
    intro G hG
    rcases List.mem_append.mp hG with hG | hG
    · exact hFs G hG
    · simp at hG; subst hG; exact hF
  rintro ρ1 σ' ⟨Fs, w4, rfl, h, W4, hlen, hFs⟩
  subst σ'
  rw [List.length_map, List.length_range] at hlen
  refine x_return (ev_tuple ?_)
  iterate 4 (walk_at "sol")
  refine es_cons (ev_freeze ?_) rfl
  repeat (walk_at "sol")
  refine ⟨s, _, _, rfl, rfl, ?_⟩
  repeat (walk_at "sol")
  refine ⟨by simp, ?_⟩
  repeat (walk_at "sol")
  exact ⟨B, nm, Fs, w4, rfl, hB, hFs, by omega, W4, rfl⟩

noncomputable def endL : List (List (Str × Str)) := [[tk "sign" "=", tk "number" "1", tk "sign" ";"], [tk "sign" ";"], [tk "sign" ","], [tk "sign" ")"]]
theorem fn_ended (hn : 3 ≤ n) (H : Tab C T) (hw : σ.lookup a = some w) (W : IsWell w) :
    FN C n T.gEnded [.ref a] σ fun p σ' => ∃ (E : List (Str × Str)) (w' : Cell), p = pairs E ∧ E ∈ endL ∧ IsWell w' ∧ σ' = upd σ a w' := by
  refine FN.le ?_ hn
  refine lit H.gEnded.fn fun pa bo sc hp hb hs F => ?_
  conv at hp => rhs; whnf
  conv at hb => rhs; whnf
  conv at hs => rhs; whnf
  subst hp hb hs
  refine fn_enter1 (x1 := "well") F (fun _ _ _ _ _ _ _ _ _ => rfl) (allLoc_of rfl) (noCell_of rfl) fun L q cd => ?_
  repeat (walk_at "sol")
  refine ev_list ?_
  repeat (walk_at "sol")
  refine ev_list ?_
  repeat (walk_at "sol")
  refine ev_tuple ?_
  repeat (walk_at "sol")
  refine ⟨by simp, ?_⟩
  repeat (walk_at "sol")
  refine ev_tuple ?_
  repeat (walk_at "sol")
  refine ⟨by simp, ?_⟩
  repeat (walk_at "sol")
  refine ev_tuple ?_
  repeat (walk_at "sol")
  refine ⟨by simp, ?_⟩
  repeat (walk_at "sol")
  refine ⟨by simp, ?_⟩
  repeat (walk_at "sol")
  refine ev_list ?_
  repeat (walk_at "sol")
  refine ev_tuple ?_
  repeat (walk_at "sol")
  refine ⟨by simp, ?_⟩
  repeat (walk_at "sol")
  refine ⟨by simp, ?_⟩
  repeat (walk_at "sol")
  refine ev_list ?_
  repeat (walk_at "sol")
  refine ev_tuple ?_
  repeat (walk_at "sol")
  refine ⟨by simp, ?_⟩
  repeat (walk_at "sol")
  refine ⟨by simp, ?_⟩
  repeat (walk_at "sol")
  refine ev_list ?_
  repeat (walk_at "sol")
  refine ev_tuple ?_
  repeat (walk_at "sol")
  refine ⟨by simp, ?_⟩
  repeat (walk_at "sol")
  refine ⟨by simp, ?_⟩
  repeat (walk_at "sol")
  refine ⟨by simp, ?_⟩
  refine ev_def H.gDraw ?_ rfl rfl rfl rfl (by simp)
  repeat (walk_at "sol")
  refine (fn_draw (n := 2) (k := 4) (by omega) H hw W (by omega)).mono ?_
  rintro _ σ' ⟨r, w1, rfl, hr, W1, h⟩
  subst σ'
  obtain ⟨E, hE, hE1, hE2⟩ := get_map pairs (l := endL) (i := r) (by show r < 4; omega)
  refine op_item_list (by omega) (by omega) (p := pairs E) hE2 ?_
  repeat (walk_at "sol")
  exact ⟨E, w1, rfl, hE, W1, rfl⟩
end

section
variable {C : Cx} {n : Nat} {env : Env} {ρ : List (Str × PV)} {σ : Sig} {K : PV → Sig → Prop}
variable {T : Ad} {c d : Addr} {ps : List PV} {ks : List (Str × Str)} {spot : Nat} {depth : Int}

theorem sub_slice_go {prog : Program} {w : World} {A : Around} {E : Value → Shared → Prop} {s : Shared} {value : Expr} {lower upper : Option Expr} {p pos : Pos} {T id : String} {Q : Value → Shared → Prop}
    (hl : typeLookup (.type T) "__getitem__" = pure (some (.builtin id)))
    (h : wpAny (model prog w) A (PySem.eval value env) (fun o s₁ => wpAny (model prog w) A (PySem.eval (.Slice lower upper none p) env) (fun i s₂ => s₂.TypeIs o T ∧ wpAny (model prog w) A (getItem o i) Q E s₂) E s₁) E s) :
    wpAny (model prog w) A (PySem.eval (.Subscript value (.Slice lower upper none p) pos) env) Q E s := by
  rw [eval_Subscript]
  refine wpAny_bind (wpAny_mono h (fun o s₁ h₁ => wpAny_bind (wpAny_holding (wpAny_mono h₁ (fun i s₂ h₂ => wpAny_bind (wpAny_standAt ?_)) fun _ _ x => x))) fun _ _ x => x)
  have fin : wpAny (model prog w) A (operate [i, o] (getItem o i)) (fun r s₃ => wpAny (model prog w) A (letTemporaryGo value o r >>= fun _ => pure r) Q E s₃) E s₂ :=
    wpAny_operating (wpAny_mono h₂.2 (fun r s₃ h₃ => wpAny_bind (wpAny_letTemporaryGo (wpAny_pure h₃))) fun _ _ x => x)
  refine wpAny_bind ?_
  rw [getitemInPython_of_ne h₂.1.not_modules]
  refine wpAny_bind (wpAny_specialOf h₂.1 hl ?_)
  first
    | exact wpAny_pure (wpAny_bind fin)
    | exact wpAny_bind (wpAny_pure (wpAny_bind fin))
    | exact wpAny_bind fin
theorem ev_slice_go {a u : Expr} {p pos : Pos} (h : EV C n env ρ σ a fun v σ1 => EV C n env ρ σ1 u fun k σ2 => ∃ (ps : List PV) (j : Nat), v = .list ps ∧ k = .int j ∧ ps.length ≤ 1000000 ∧ K (.list (ps.take j)) σ2) :
    EV C n env ρ σ (.Subscript a (.Slice none (some u) none p) pos) K :=
  fun A W s Q E r I l hk => sub_slice_go (T := "list") list_getitem_lookup (h A W s _ E r I l fun v1 s1 p1 σ1 W1 h1 I1 st1 r1 => wpAny_Slice (wpAny_evalPart_none (wpAny_evalPart_some (h1 A W1 s1 _ E r I1 (l.step0 st1) fun v2 s2 p2 σ2 W2 h2 I2 st2 r2 => by
    obtain ⟨ps, j, rfl, rfl, hz, hK⟩ := h2
    obtain ⟨al, vs, k, rfl, w, rl⟩ := Rep.mono st2.le _ _ r1
    obtain ⟨t, rfl⟩ := r2
    have hl := rl.length
    rw [evalPart_none]
    have hL := I2.isList w
    refine wpAny_pure ⟨(hL.push _).typeIs, wpAny_getItem_list_slice (hL.push _) (Heap.IsSliceOf.new ..) .none (.int j t) .none (by simp) ?_ (by simp only [List.size_toArray, hl, sizeLine_eq]; omega)⟩
    rw [Heap.size_push, slicePick_upto']
    have I3 := I2.push { cls := .type "slice", data := .fields #[Value.none, Value.int j t, Value.none] } s2.toks
    have z := op_new (C := C) (K := fun p σ' => p = .list (ps.take j) ∧ σ' = σ2) (Q := Q) I3 (rl.take j) ⟨rfl, rfl⟩ (fun v s' r σ' W' hr I' st' rr => by
      obtain ⟨rfl, rfl⟩ := hr
      exact hk _ _ _ _ _ hK I' ((st1.trans st2).trans ((Step.push _ _).trans st')) rr) s2.toks
    simpa using z))))
variable {a : Addr} {w : Cell}
noncomputable def duePV : Option (Str × Str × Str) → PV
  | none => .none
  | some (n, p, o) => .tup [.str n, .str p, .str o]
noncomputable def OtherOk (Fs : List (List (Str × Str))) (o : Str × Str) : Prop := o = tk "number" "3" ∨ (o = tk "sign" "." ∧ Fs ≠ []) ∨ ∃ g ∈ signL, o = tk "sign" g
noncomputable def placesL : List Str := ["", "", "memory", "storage", "calldata"]
noncomputable def isErr (S : List (Str × Str)) (place : Str) : Bool := (S == [tk "name" "revert"]) && place == ""
inductive CaseR : List (Str × Str) → Bool → Int → List (Int × Int) → Option (Str × Str × Str) → Prop
  | first {f : Str × Str} {x : Str} : f ∈ firstL → x ∈ nameL → CaseR [f, tk "name" x, tk "sign" ";"] false (-1) (if (f.1 == "sign" && f.2 == "[") = true then [(0, -1)] else []) none
  | opened {x : Str} {F R : List (Str × Str)} : x ∈ nameL → Fil 2 F → (R = [] ∨ ∃ y ∈ nameL, R = [tk "sign" ";", tk "sign" "]", tk "name" y]) → CaseR ([tk "name" x, tk "sign" "["] ++ F ++ R) false (-1) [(1, -1)] none
  | mapping {B : List (Str × Str)} {nm x y : Str} : Plain9 B nm → x ∈ nameL → y ∈ nameL → CaseR ([tk "keyword" "mapping", tk "sign" "("] ++ B.take 1 ++ [tk "sign" "=>", tk "name" x] ++ [tk "sign" ")", tk "name" y, tk "sign" ";"]) true (-1) [] none
  | err {x : Str} : x ∈ nameL → CaseR [tk "name" "revert", tk "name" x, tk "sign" "(", tk "sign" ")", tk "sign" ";"] false 1 [] none
  | other {B : List (Str × Str)} {nm : Str} {Fs : List (List (Str × Str))} {o : Str × Str} {x : Str} : Plain9 B nm → FsOk Fs → Fs.length ≤ 3 → OtherOk Fs o → x ∈ nameL →
      CaseR (B ++ brk Fs ++ [o, tk "name" x, tk "sign" ";"]) false ((B ++ brk Fs).length : Nat) (spansOf B.length Fs) none
  | decl {B : List (Str × Str)} {nm : Str} {Fs : List (List (Str × Str))} {place x : Str} {E : List (Str × Str)} : Plain9 B nm → FsOk Fs → Fs.length ≤ 3 → place ∈ placesL → x ∈ nameL → E ∈ endL →
      CaseR (B ++ brk Fs ++ (if (place != "") = true then [tk "keyword" place] else []) ++ [tk "name" x] ++ E) (!isErr (B ++ brk Fs) place) ((B ++ brk Fs).length : Nat) (spansOf B.length Fs)
        (if isErr (B ++ brk Fs) place = true then none else some (nm, place, x))
theorem CaseR.len {row : List (Str × Str)} {b : Bool} {e : Int} {sp : List (Int × Int)} {due : Option (Str × Str × Str)} (h : CaseR row b e sp due) : row.length ≤ 100 := by
  cases h with
  | first _ _ => simp
  | opened _ h h2 => have := h.len; rcases h2 with rfl | ⟨_, _, rfl⟩ <;> simp <;> omega
  | mapping h _ _ => simp; omega
  | err _ => simp
  | other h1 h2 h3 _ _ => have := h1.len; have := brk_len h2; simp; omega
  | decl h1 h2 h3 _ _ h4 =>
    have := h1.len; have := brk_len h2
    have : ∀ E ∈ endL, E.length ≤ 3 := by decide
    have := this _ h4
    simp; split <;> simp <;> omega
noncomputable def caseP (row : List (Str × Str)) (b : Bool) (e : Int) (sp : List (Int × Int)) (due : Option (Str × Str × Str)) : PV := .list [pairs row, .bool b, .int e, .list (sp.map spPV), duePV due]

set_option maxHeartbeats 4000000 in
theorem fn_case (hn : 9 ≤ n) (H : Tab C T) (hw : σ.lookup a = some w) (W : IsWell w) :
    FN C n T.gCase [.ref a] σ fun p σ' => ∃ row b e sp due w', p = caseP row b e sp due ∧ CaseR row b e sp due ∧ IsWell w' ∧ σ' = upd σ a w' := by
  refine FN.le ?_ hn
  refine lit H.gCase.fn fun pa bo sc hp hb hs F => ?_
  conv at hp => rhs; whnf
  conv at hb => rhs; whnf
  conv at hs => rhs; whnf
  subst hp hb hs
  refine fn_enter1 (x1 := "well") F (fun _ _ _ _ _ _ _ _ _ => rfl) (allLoc_of rfl) (noCell_of rfl) fun L q cd => ?_
  repeat (walk_at "sol")
  refine ev_def H.gDraw ?_ rfl rfl rfl rfl (by simp)
  repeat (walk_at "sol")
  refine (fn_draw (n := 8) (k := 10) (by omega) H hw W (by omega)).mono ?_
  rintro _ σ' ⟨r, w1, rfl, hr, W1, h⟩
  subst σ'
  have hw1 : (upd σ a w1).lookup a = some w1 := lookup_upd hw
  repeat (walk_at "sol")
  cases hr9 : ((r : Int) == 9) with
  | true =>
    refine ⟨fun _ => ?_, fun h => (by cases h)⟩
    repeat (walk_at "sol")
    refine ev_list ?_
    repeat (walk_at "sol")
    refine ev_data H.dFirsts ?_ rfl rfl rfl rfl
    refine ev_def H.gDraw ?_ rfl rfl rfl rfl (by simp)
    repeat (walk_at "sol")
    refine (fn_draw (n := 8) (k := 11) (by omega) H hw1 W1 (by omega)).mono ?_
    rintro _ σ' ⟨z, w2, rfl, hz, W2, h⟩
    subst σ'
    rw [upd_upd]
    have hw2 : (upd σ a w2).lookup a = some w2 := lookup_upd hw
    repeat (walk_at "sol")
    obtain ⟨f, hf, hf1, hf2⟩ := get_map (fun p : Str × Str => PV.tup [.str p.1, .str p.2]) (l := firstL) (i := z) (by show z < 11; omega)
    refine op_item_tup (by omega) (by omega) (p := pair f.1 f.2) hf2 ?_
    repeat (walk_at "sol")
    refine ev_def H.gName ?_ rfl rfl rfl rfl (by simp)
    repeat (walk_at "sol")
    refine (fn_name (n := 8) (by omega) H hw2 W2).mono ?_
    rintro _ σ' ⟨x, w3, rfl, hx, W3, h⟩
    subst σ'
    rw [upd_upd]
    have hw3 : (upd σ a w3).lookup a = some w3 := lookup_upd hw
    repeat (walk_at "sol")
    refine ev_tuple ?_
    repeat (walk_at "sol")
    refine ⟨by simp, ?_⟩
    repeat (walk_at "sol")
    refine ⟨by simp, ?_⟩
    repeat (walk_at "sol")
    refine ev_list ?_
    repeat (walk_at "sol")
    refine ev_if (tb_cmp (ev_sub ?_) rfl)
    repeat (walk_at "sol")
    refine op_item_list (by decide) (by decide) (p := pair f.1 f.2) rfl ?_
    repeat (walk_at "sol")
    refine ev_tuple ?_
    repeat (walk_at "sol")
    refine ⟨by simp, op_eq_pair (y' := "[") ?_⟩
    refine bex ?_
    cases hb : (f.1 == ("sign" : Str) && f.2 == ("[" : Str)) with
    | true =>
      refine ⟨fun _ => ?_, fun h => (by cases h)⟩
      refine ev_list ?_
      repeat (walk_at "sol")
      refine ev_tuple ?_
      repeat (walk_at "sol")
      refine ⟨by simp, ?_⟩
      repeat (walk_at "sol")
      refine ⟨by simp, ?_⟩
      repeat (walk_at "sol")
      refine ⟨by simp, ?_⟩
      repeat (walk_at "sol")
      exact ⟨_, _, _, _, _, w3, rfl, by have := CaseR.first hf hx; rw [if_pos hb] at this; exact this, W3, rfl⟩
    | false =>
      refine ⟨fun h => (by cases h), fun _ => ?_⟩
      refine ev_list ?_
      repeat (walk_at "sol")
      refine ⟨by simp, ?_⟩
      repeat (walk_at "sol")
      refine ⟨by simp, ?_⟩
      repeat (walk_at "sol")
      exact ⟨_, _, _, _, _, w3, rfl, by have := CaseR.first hf hx; rw [hb, if_neg (by decide)] at this; exact this, W3, rfl⟩
  | false =>
  refine ⟨fun h => (by cases h), fun _ => ?_⟩
  repeat (walk_at "sol")
  cases hr8 : ((r : Int) == 8) with
  | true =>
    refine ⟨fun _ => ?_, fun h => (by cases h)⟩
    repeat (walk_at "sol")
    refine ev_list ?_
    repeat (walk_at "sol")
    refine ev_def H.gName ?_ rfl rfl rfl rfl (by simp)
    repeat (walk_at "sol")
    refine (fn_name (n := 8) (by omega) H hw1 W1).mono ?_
    rintro _ σ' ⟨x, w2, rfl, hx, W2, h⟩
    subst σ'
    rw [upd_upd]
    have hw2 : (upd σ a w2).lookup a = some w2 := lookup_upd hw
    repeat (walk_at "sol")
    refine ev_tuple ?_
    repeat (walk_at "sol")
    refine ⟨by simp, ?_⟩
    repeat (walk_at "sol")
    refine ⟨by simp, ?_⟩
    refine ev_def H.gFill ?_ rfl rfl rfl rfl (by simp)
    repeat (walk_at "sol")
    refine (fn_filling H 2 (by omega) (n := 8) (by omega) hw2 W2).mono ?_
    rintro _ σ' ⟨F, w3, rfl, hF, W3, h⟩
    subst σ'
    rw [upd_upd]
    have hw3 : (upd σ a w3).lookup a = some w3 := lookup_upd hw
    have hFl := hF.len
    refine op_add_list (by simp; omega) ?_
    repeat (walk_at "sol")
    refine EV.mono (K := fun p σ' => ∃ (R : List (Str × Str)) (w' : Cell), (R = [] ∨ ∃ y ∈ nameL, R = [tk "sign" ";", tk "sign" "]", tk "name" y]) ∧ IsWell w' ∧ p = pairs R ∧ σ' = upd σ a w') (ev_if (tb_cmp ?_ rfl)) ?_
    · refine ev_def H.gDraw ?_ rfl rfl rfl rfl (by simp)
      repeat (walk_at "sol")
      refine (fn_draw (n := 8) (k := 2) (by omega) H hw3 W3 (by omega)).mono ?_
      rintro _ σ' ⟨z, w4, rfl, hz, W4, h⟩
      subst σ'
      rw [upd_upd]
      have hw4 : (upd σ a w4).lookup a = some w4 := lookup_upd hw
      repeat (walk_at "sol")
      refine ⟨fun _ => ?_, fun _ => ?_⟩
      · refine ev_list ?_
        repeat (walk_at "sol")
        refine ev_tuple ?_
        repeat (walk_at "sol")
        refine ⟨by simp, ?_⟩
        repeat (walk_at "sol")
        refine ev_tuple ?_
        repeat (walk_at "sol")
        refine ⟨by simp, ?_⟩
        repeat (walk_at "sol")
        refine ev_def H.gName ?_ rfl rfl rfl rfl (by simp)
        repeat (walk_at "sol")
        refine (fn_name (n := 8) (by omega) H hw4 W4).mono ?_
        rintro _ σ' ⟨y, w5, rfl, hy, W5, h⟩
        subst σ'
        rw [upd_upd]
        have hw5 : (upd σ a w5).lookup a = some w5 := lookup_upd hw
        repeat (walk_at "sol")
        refine ⟨by simp, ?_⟩
        exact ⟨_, w5, .inr ⟨y, hy, rfl⟩, W5, rfl, rfl⟩
      · refine ev_list ?_
        repeat (walk_at "sol")
        exact ⟨by simp, [], w4, .inl rfl, W4, rfl, rfl⟩
    rintro _ σ' ⟨R, w5, hR, W5, rfl, h⟩
    subst σ'
    have hRl : R.length ≤ 3 := by rcases hR with rfl | ⟨y, _, rfl⟩ <;> simp
    refine op_add_list (by simp; omega) ?_
    have e1 : (PV.list (([pair "name" x, PV.tup [PV.str "sign", PV.str "["]] ++ F.map (fun p => pair p.1 p.2)) ++ R.map (fun p => pair p.1 p.2))) = pairs ([tk "name" x, tk "sign" "["] ++ F ++ R) := by simp [pairs, pair]
    rw [e1]
    repeat (walk_at "sol")
    refine ev_list ?_
    repeat (walk_at "sol")
    refine ev_list ?_
    repeat (walk_at "sol")
    refine ev_tuple ?_
    repeat (walk_at "sol")
    refine ⟨by simp, ?_⟩
    repeat (walk_at "sol")
    refine ⟨by simp, ?_⟩
    repeat (walk_at "sol")
    refine ⟨by simp, ?_⟩
    repeat (walk_at "sol")
    exact ⟨_, _, _, _, _, w5, rfl, .opened hx hF hR, W5, rfl⟩
  | false =>
  refine ⟨fun h => (by cases h), fun _ => ?_⟩
  repeat (walk_at "sol")
  cases hr7 : ((r : Int) == 7) with
  | true =>
    refine ⟨fun _ => ?_, fun h => (by cases h)⟩
    repeat (walk_at "sol")
    refine ev_list ?_
    repeat (walk_at "sol")
    refine ev_tuple ?_
    repeat (walk_at "sol")
    refine ⟨by simp, ?_⟩
    repeat (walk_at "sol")
    refine ev_tuple ?_
    repeat (walk_at "sol")
    refine ⟨by simp, ?_⟩
    repeat (walk_at "sol")
    refine ⟨by simp, ?_⟩
    refine ev_slice_go (ev_sub ?_)
    refine ev_def H.gPlain ?_ rfl rfl rfl rfl (by simp)
    repeat (walk_at "sol")
    refine (fn_plain (n := 8) (by omega) H hw1 W1).mono ?_
    rintro _ σ' ⟨B, bn, w2, rfl, hB, W2, h⟩
    subst σ'
    rw [upd_upd]
    have hw2 : (upd σ a w2).lookup a = some w2 := lookup_upd hw
    have hBl := hB.len
    repeat (walk_at "sol")
    refine op_item_tup (by decide) (by decide) (p := pairs B) rfl ?_
    repeat (walk_at "sol")
    refine ⟨_, 1, rfl, rfl, by simp; omega, ?_⟩
    refine op_add_list (by simp; omega) ?_
    refine ev_list ?_
    repeat (walk_at "sol")
    refine ev_tuple ?_
    repeat (walk_at "sol")
    refine ⟨by simp, ?_⟩
    repeat (walk_at "sol")
    refine ev_def H.gName ?_ rfl rfl rfl rfl (by simp)
    repeat (walk_at "sol")
    refine (fn_name (n := 8) (by omega) H hw2 W2).mono ?_
    rintro _ σ' ⟨x, w3, rfl, hx, W3, h⟩
    subst σ'
    rw [upd_upd]
    have hw3 : (upd σ a w3).lookup a = some w3 := lookup_upd hw
    repeat (walk_at "sol")
    refine ⟨by simp, ?_⟩
    refine op_add_list (by simp; omega) ?_
    repeat (walk_at "sol")
    refine ev_list ?_
    repeat (walk_at "sol")
    refine ev_list ?_
    repeat (walk_at "sol")
    refine ev_tuple ?_
    repeat (walk_at "sol")
    refine ⟨by simp, ?_⟩
    repeat (walk_at "sol")
    refine ev_def H.gName ?_ rfl rfl rfl rfl (by simp)
    repeat (walk_at "sol")
    refine (fn_name (n := 8) (by omega) H hw3 W3).mono ?_
    rintro _ σ' ⟨y, w4, rfl, hy, W4, h⟩
    subst σ'
    rw [upd_upd]
    have hw4 : (upd σ a w4).lookup a = some w4 := lookup_upd hw
    repeat (walk_at "sol")
    refine ev_tuple ?_
    repeat (walk_at "sol")
    refine ⟨by simp, ?_⟩
    repeat (walk_at "sol")
    refine ⟨by simp, ?_⟩
    refine op_add_list (by simp; omega) ?_
    have e1 : (PV.list (([PV.tup [PV.str "keyword", PV.str "mapping"], PV.tup [PV.str "sign", PV.str "("]] ++ (B.map (fun p => pair p.1 p.2)).take 1 ++ [PV.tup [PV.str "sign", PV.str "=>"], pair "name" x]) ++ [PV.tup [PV.str "sign", PV.str ")"], pair "name" y, PV.tup [PV.str "sign", PV.str ";"]])) =
        pairs ([tk "keyword" "mapping", tk "sign" "("] ++ B.take 1 ++ [tk "sign" "=>", tk "name" x] ++ [tk "sign" ")", tk "name" y, tk "sign" ";"]) := by simp [pairs, pair, List.map_take]
    rw [e1]
    repeat (walk_at "sol")
    refine ev_list ?_
    repeat (walk_at "sol")
    refine ⟨by simp, ?_⟩
    repeat (walk_at "sol")
    refine ⟨by simp, ?_⟩
    repeat (walk_at "sol")
    exact ⟨_, _, _, _, _, w4, rfl, .mapping hB hx hy, W4, rfl⟩
  | false =>
  refine ⟨fun h => (by cases h), fun _ => ?_⟩
  repeat (walk_at "sol")
  cases hr6 : ((r : Int) == 6) with
  | true =>
    refine ⟨fun _ => ?_, fun h => (by cases h)⟩
    repeat (walk_at "sol")
    refine ev_list ?_
    repeat (walk_at "sol")
    refine ev_tuple ?_
    repeat (walk_at "sol")
    refine ⟨by simp, ?_⟩
    repeat (walk_at "sol")
    refine ev_def H.gName ?_ rfl rfl rfl rfl (by simp)
    repeat (walk_at "sol")
    refine (fn_name (n := 8) (by omega) H hw1 W1).mono ?_
    rintro _ σ' ⟨x, w2, rfl, hx, W2, h⟩
    subst σ'
    rw [upd_upd]
    have hw2 : (upd σ a w2).lookup a = some w2 := lookup_upd hw
    repeat (walk_at "sol")
    refine ev_tuple ?_
    repeat (walk_at "sol")
    refine ⟨by simp, ?_⟩
    repeat (walk_at "sol")
    refine ev_tuple ?_
    repeat (walk_at "sol")
    refine ⟨by simp, ?_⟩
    repeat (walk_at "sol")
    refine ev_tuple ?_
    repeat (walk_at "sol")
    refine ⟨by simp, ?_⟩
    repeat (walk_at "sol")
    refine ⟨by simp, ?_⟩
    repeat (walk_at "sol")
    refine ev_list ?_
    repeat (walk_at "sol")
    refine ev_list ?_
    repeat (walk_at "sol")
    refine ⟨by simp, ?_⟩
    repeat (walk_at "sol")
    refine ⟨by simp, ?_⟩
    repeat (walk_at "sol")
    exact ⟨_, _, _, _, _, w2, rfl, .err hx, W2, rfl⟩
  | false =>
  refine ⟨fun h => (by cases h), fun _ => ?_⟩
  repeat (walk_at "sol")
  refine x_unpack ?_ rfl rfl
  refine ev_def H.gShape ?_ rfl rfl rfl rfl (by simp)
  repeat (walk_at "sol")
  refine (fn_shape (n := 8) (by omega) H hw1 W1).mono ?_
  rintro _ σ' ⟨B, bn, Fs, w2, rfl, hB, hFs, hFl, W2, h⟩
  subst σ'
  rw [upd_upd]
  have hw2 : (upd σ a w2).lookup a = some w2 := lookup_upd hw
  have hBl := hB.len
  have hbl := brk_len hFs
  have hSl : (B ++ brk Fs).length ≤ 50 := by simp; omega
  refine ⟨_, as_tuple (ass_cons (as_name rfl rfl) (ass_cons (as_name rfl rfl) (ass_cons (as_name rfl rfl) ass_nil))) rfl rfl, ?_⟩
  repeat (walk_at "sol")
  refine cv_len_list (by rw [List.length_map]; omega) ?_
  rw [List.length_map]
  repeat (walk_at "sol")
  cases hr3 : decide ((3 : Int) < (r : Int)) with
  | true =>
    refine ⟨fun _ => ?_, fun h => (by cases h)⟩
    repeat (walk_at "sol")
    refine ev_def H.gDraw ?_ rfl rfl rfl rfl (by simp)
    repeat (walk_at "sol")
    refine (fn_draw (n := 8) (k := 11) (by omega) H hw2 W2 (by omega)).mono ?_
    rintro _ σ' ⟨k, w3, rfl, hk, W3, h⟩
    subst σ'
    rw [upd_upd]
    have hw3 : (upd σ a w3).lookup a = some w3 := lookup_upd hw
    repeat (walk_at "sol")
    refine EV.mono (K := fun p σ' => ∃ o, p = pair o.1 o.2 ∧ OtherOk Fs o ∧ σ' = upd σ a w3) (ev_if ?_) ?_
    · repeat (walk_at "sol")
      refine ⟨fun _ => ?_, fun _ => ?_⟩
      · refine ev_tuple ?_
        repeat (walk_at "sol")
        exact ⟨by simp, tk "number" "3", rfl, .inl rfl, rfl⟩
      refine ev_if (tb_mono (K := fun b σ' => (b = true → Fs ≠ []) ∧ σ' = upd σ a w3) (tb_bool (ta_and ?_)) ?_)
      · repeat (walk_at "sol")
        refine ⟨fun _ => ?_, fun _ => ⟨fun h => (by cases h), rfl⟩⟩
        refine ta_and ?_
        repeat (walk_at "sol")
        refine ev_list ?_
        repeat (walk_at "sol")
        refine ⟨by simp, op_ne_nil (bex ?_)⟩
        refine ⟨fun h => ta_and_nil ⟨fun _ e => ?_, rfl⟩, fun h => ⟨fun h => (by cases h), rfl⟩⟩
        subst e; exact absurd h (by simp [spansOf])
      rintro b σ' ⟨hb, h⟩
      subst σ'
      refine ⟨fun h => ?_, fun _ => ?_⟩
      · refine ev_tuple ?_
        repeat (walk_at "sol")
        exact ⟨by simp, tk "sign" ".", rfl, .inr (.inl ⟨rfl, hb h⟩), rfl⟩
      · refine ev_tuple ?_
        repeat (walk_at "sol")
        refine ev_data H.dSigns ?_ rfl rfl rfl rfl
        repeat (walk_at "sol")
        refine op_mod_int (by decide) ?_
        obtain ⟨f0, f1⟩ := @fmod_lt (k : Int) 9 (by decide)
        obtain ⟨g, hg, hg1, hg2⟩ := get_map PV.str (l := signL) (i := ((k : Int).fmod 9).toNat) (by show _ < 9; omega)
        refine op_item_tup f0 (by omega) (p := .str g) hg2 ?_
        repeat (walk_at "sol")
        exact ⟨by simp, tk "sign" g, rfl, .inr (.inr ⟨g, hg, rfl⟩), rfl⟩
    rintro _ σ' ⟨o, rfl, ho, h⟩
    subst σ'
    repeat (walk_at "sol")
    refine ev_list ?_
    repeat (walk_at "sol")
    refine ev_list ?_
    repeat (walk_at "sol")
    refine ev_def H.gName ?_ rfl rfl rfl rfl (by simp)
    repeat (walk_at "sol")
    refine (fn_name (n := 8) (by omega) H hw3 W3).mono ?_
    rintro _ σ' ⟨x, w4, rfl, hx, W4, h⟩
    subst σ'
    rw [upd_upd]
    have hw4 : (upd σ a w4).lookup a = some w4 := lookup_upd hw
    repeat (walk_at "sol")
    refine ev_tuple ?_
    repeat (walk_at "sol")
    refine ⟨by simp, ?_⟩
    repeat (walk_at "sol")
    refine ⟨by simp, ?_⟩
    refine op_add_list (by simp at hSl ⊢; omega) ?_
    have e1 : (PV.list ((B ++ brk Fs).map (fun p => pair p.1 p.2) ++ [pair o.1 o.2, pair "name" x, PV.tup [PV.str "sign", PV.str ";"]])) = pairs (B ++ brk Fs ++ [o, tk "name" x, tk "sign" ";"]) := by simp [pairs, pair]
    rw [e1]
    repeat (walk_at "sol")
    refine ⟨by simp, ?_⟩
    repeat (walk_at "sol")
    exact ⟨_, _, _, _, _, w4, rfl, .other hB hFs hFl ho hx, W4, rfl⟩
  | false =>
  refine ⟨fun h => (by cases h), fun _ => ?_⟩
  repeat (walk_at "sol")
  refine x_swapped (a := "place") (b := "own") ?_ rfl rfl rfl rfl rfl
  refine ev_tuple (es_cons (ev_sub ?_) rfl)
  refine ev_tuple ?_
  repeat (walk_at "sol")
  refine ⟨by simp, ?_⟩
  refine ev_def H.gDraw ?_ rfl rfl rfl rfl (by simp)
  repeat (walk_at "sol")
  refine (fn_draw (n := 8) (k := 5) (by omega) H hw2 W2 (by omega)).mono ?_
  rintro _ σ' ⟨z, w3, rfl, hz, W3, h⟩
  subst σ'
  rw [upd_upd]
  have hw3 : (upd σ a w3).lookup a = some w3 := lookup_upd hw
  repeat (walk_at "sol")
  obtain ⟨pl, hpl, hp1, hp2⟩ := get_map PV.str (l := placesL) (i := z) (by show z < 5; omega)
  refine op_item_tup (by omega) (by omega) (p := .str pl) hp2 ?_
  repeat (walk_at "sol")
  refine ev_def H.gName ?_ rfl rfl rfl rfl (by simp)
  repeat (walk_at "sol")
  refine (fn_name (n := 8) (by omega) H hw3 W3).mono ?_
  rintro _ σ' ⟨x, w4, rfl, hx, W4, h⟩
  subst σ'
  rw [upd_upd]
  have hw4 : (upd σ a w4).lookup a = some w4 := lookup_upd hw
  repeat (walk_at "sol")
  refine ⟨by simp, _, _, rfl, ?_⟩
  refine x_assign (ev_bin (ev_bin (ev_bin ?_))) rfl rfl rfl
  repeat (walk_at "sol")
  refine EV.mono (K := fun p σ' => p = pairs (if (pl != "") = true then [tk "keyword" pl] else []) ∧ σ' = upd σ a w4) (ev_if ?_) ?_
  · repeat (walk_at "sol")
    refine ⟨fun h => ?_, fun h => ?_⟩
    · refine ev_list ?_
      repeat (walk_at "sol")
      refine ev_tuple ?_
      repeat (walk_at "sol")
      refine ⟨by simp, ?_⟩
      repeat (walk_at "sol")
      exact ⟨by simp, by rw [if_pos h]; rfl, rfl⟩
    · refine ev_list ?_
      repeat (walk_at "sol")
      exact ⟨by simp, by rw [h, if_neg (by decide)]; rfl, rfl⟩
  rintro _ σ' ⟨rfl, h⟩
  subst σ'
  generalize hPd : (if (pl != "") = true then [tk "keyword" pl] else []) = P
  have hPl : P.length ≤ 1 := by rw [← hPd]; split <;> simp
  refine op_add_list (by simp at hSl ⊢; omega) ?_
  refine ev_list ?_
  repeat (walk_at "sol")
  refine ⟨by simp, ?_⟩
  refine op_add_list (by simp at hSl ⊢; omega) ?_
  refine ev_def H.gEnded ?_ rfl rfl rfl rfl (by simp)
  repeat (walk_at "sol")
  refine (fn_ended (n := 8) (by omega) H hw4 W4).mono ?_
  rintro _ σ' ⟨E, w5, rfl, hE, W5, h⟩
  subst σ'
  rw [upd_upd]
  have hEl : E.length ≤ 3 := by
    have : ∀ E ∈ endL, E.length ≤ 3 := by decide
    exact this _ hE
  refine op_add_list (by simp at hSl ⊢; omega) ?_
  have e1 : (PV.list (((((B ++ brk Fs).map (fun p => pair p.1 p.2)) ++ P.map (fun p => pair p.1 p.2)) ++ [pair "name" x]) ++ E.map (fun p => pair p.1 p.2))) = pairs (B ++ brk Fs ++ P ++ [tk "name" x] ++ E) := by simp [pairs, pair]
  rw [e1]
  repeat (walk_at "sol")
  refine EV.mono (K := fun p σ' => p = .bool (isErr (B ++ brk Fs) pl) ∧ σ' = upd σ a w5) (ev_and (ev_cmp ?_ rfl)) ?_
  · repeat (walk_at "sol")
    refine ev_list ?_
    repeat (walk_at "sol")
    refine ev_tuple ?_
    repeat (walk_at "sol")
    refine ⟨by simp, ?_⟩
    repeat (walk_at "sol")
    refine ⟨by simp, op_eq_pairs1 (by omega) (l := B ++ brk Fs) (x := "name") (y := "revert") (bex ?_)⟩
    refine ⟨fun h => ?_, fun h => ?_⟩
    · repeat (walk_at "sol")
      refine ⟨?_, rfl⟩
      unfold isErr; rw [show (B ++ brk Fs == [tk "name" "revert"]) = true from h, Bool.true_and]
    · refine ⟨?_, rfl⟩
      unfold isErr; rw [show (B ++ brk Fs == [tk "name" "revert"]) = false from h, Bool.false_and]
  rintro _ σ' ⟨rfl, h⟩
  subst σ'
  repeat (walk_at "sol")
  refine ev_list ?_
  repeat (walk_at "sol")
  refine op_not ?_
  repeat (walk_at "sol")
  refine ev_if (tb_not (tb_plain ?_))
  repeat (walk_at "sol")
  subst hPd
  have hC := CaseR.decl (E := E) hB hFs hFl hpl hx hE
  cases he : isErr (B ++ brk Fs) pl with
  | true =>
    rw [he] at hC
    refine ⟨fun h => (by cases h), fun _ => ?_⟩
    repeat (walk_at "sol")
    refine ⟨by simp, ?_⟩
    repeat (walk_at "sol")
    exact ⟨_, _, _, _, none, w5, rfl, hC, W5, rfl⟩
  | false =>
    rw [he] at hC
    refine ⟨fun _ => ?_, fun h => (by cases h)⟩
    refine ev_tuple ?_
    repeat (walk_at "sol")
    refine op_item_tup (by decide) (by decide) (p := .str x) rfl ?_
    repeat (walk_at "sol")
    refine ⟨by simp, ?_⟩
    repeat (walk_at "sol")
    refine ⟨by simp, ?_⟩
    repeat (walk_at "sol")
    exact ⟨_, _, _, _, some (bn, pl, x), w5, rfl, hC, W5, rfl⟩
end

section
noncomputable abbrev Tks := List (Str × Str)

theorem name_facts : ∀ x ∈ nameL, isEl? (tk "name" x) = some false ∧ isB (tk "name" x) "[" = false ∧ isB (tk "name" x) "]" = false ∧ isB (tk "name" x) ";" = false ∧ isB (tk "name" x) "." = false ∧ isB (tk "name" x) "payable" = false ∧
    isB (tk "name" x) "mapping" = false ∧ isB (tk "name" x) "address" = false ∧ x.length ≤ 6 ∧ (∀ w ∈ placeL, isB (tk "name" x) w = false) ∧ isB (tk "name" x) "revert" = (x == "revert") := by decide +kernel

/-- a token that neither opens nor closes -/
noncomputable def Calm (t : Str × Str) : Bool := !(t.1 == "end") && (!(isB t "[") && (!(isB t "]") && !(isB t ";")))
theorem calm_name {x : Str} (h : x ∈ nameL) : Calm (tk "name" x) = true := by
  obtain ⟨_, h1, h2, h3, _⟩ := name_facts x h
  unfold Calm
  rw [h1, h2, h3]; rfl
theorem eobL_calm {t : Str × Str} {r : Tks} {d : Int} (h : Calm t = true) : eobL (t :: r) d = (eobL r d).map (· + 1) := by
  unfold Calm at h
  simp only [Bool.and_eq_true, Bool.not_eq_true'] at h
  obtain ⟨h0, h1, h2, h3⟩ := h
  rw [eobL, h0, h1, h2, h3]; simp
theorem eobL_open {r : Tks} {d : Int} : eobL (tk "sign" "[" :: r) d = (eobL r (d + 1)).map (· + 1) := by
  rw [eobL, if_neg (by decide), if_pos (by decide)]
theorem eobL_close {r : Tks} {d : Int} (h : d ≠ 1) : eobL (tk "sign" "]" :: r) d = (eobL r (d - 1)).map (· + 1) := by
  have e : (d - 1 == 0) = false := by rw [beq_eq_false_iff_ne]; omega
  rw [eobL, if_neg (by decide), if_neg (by decide), if_pos (by decide), e, if_neg (by decide)]
theorem eobL_close1 {r : Tks} : eobL (tk "sign" "]" :: r) 1 = some 1 := by
  rw [eobL, if_neg (by decide), if_neg (by decide), if_pos (by decide), if_pos (by decide)]
theorem map_add (o : Option Nat) (a b : Nat) : (o.map (· + a)).map (· + b) = o.map (· + (a + b)) := by
  cases o with
  | none => rfl
  | some j => simp; omega

theorem eobL_fil {k : Nat} {F : Tks} (h : Fil k F) : ∀ {r : Tks} {d : Int}, 1 ≤ d → eobL (F ++ r) d = (eobL r d).map (· + F.length) := by
  induction h with
  | nm hx => intro r d hd; exact eobL_calm (calm_name hx)
  | dot hx hy =>
    intro r d hd
    show eobL (_ :: _ :: _ :: r) d = _
    rw [eobL_calm (calm_name hx), eobL_calm (by decide), eobL_calm (calm_name hy), map_add, map_add]; rfl
  | txt => intro r d hd; exact eobL_calm (by decide)
  | num => intro r d hd; exact eobL_calm (by decide)
  | @br k x F hx hF ih =>
    intro r d hd
    show eobL (tk "name" x :: tk "sign" "[" :: (F ++ [tk "sign" "]"] ++ r)) d = _
    rw [eobL_calm (calm_name hx), eobL_open, List.append_assoc, ih (by omega)]
    show Option.map _ (Option.map _ (Option.map _ (eobL (tk "sign" "]" :: r) (d + 1)))) = _
    rw [eobL_close (by omega), map_add, map_add, map_add, show d + 1 - 1 = d by omega]
    congr 1; funext z; simp; omega
  | @par k F hF ih =>
    intro r d hd
    show eobL (tk "sign" "(" :: (F ++ [tk "sign" ")", tk "sign" "+", tk "number" "1"] ++ r)) d = _
    rw [eobL_calm (by decide), List.append_assoc, ih hd]
    show Option.map _ (Option.map _ (eobL (tk "sign" ")" :: tk "sign" "+" :: tk "number" "1" :: r) d)) = _
    rw [eobL_calm (by decide), eobL_calm (by decide), eobL_calm (by decide), map_add, map_add, map_add, map_add]
    congr 1; funext z; simp; omega

theorem eobL_br {F : Tks} (h : F = [] ∨ Fil 2 F) {r : Tks} : eobL (tk "sign" "[" :: (F ++ [tk "sign" "]"]) ++ r) 0 = some (F.length + 2) := by
  show eobL (tk "sign" "[" :: (F ++ [tk "sign" "]"] ++ r)) 0 = _
  rw [eobL_open, List.append_assoc]
  rcases h with rfl | h
  · show Option.map _ (eobL (tk "sign" "]" :: r) 1) = _
    rw [eobL_close1]; rfl
  · rw [eobL_fil h (by decide)]
    show Option.map _ (Option.map _ (eobL (tk "sign" "]" :: r) 1)) = _
    rw [eobL_close1]
    simp; omega

/-- skipping -/
theorem skip_calm {t u : Str × Str} {r : Tks} {d : Int} {m : Nat} (h : Calm t = true) (hs : SkipR (u :: r) d m) : SkipR (t :: u :: r) d (m + 1) := by
  unfold Calm at h
  simp only [Bool.and_eq_true, Bool.not_eq_true'] at h
  obtain ⟨_, h1, h2, _⟩ := h
  refine .step (by rw [h2]; rfl) ?_
  unfold delta
  rw [h1, if_neg (by decide), h2, if_neg (by decide), Int.add_zero]
  exact hs
theorem skip_open {u : Str × Str} {r : Tks} {d : Int} {m : Nat} (hs : SkipR (u :: r) (d + 1) m) : SkipR (tk "sign" "[" :: u :: r) d (m + 1) := by
  refine .step (by rw [show isB (tk "sign" "[") "]" = false by decide]; rfl) ?_
  rw [show delta (tk "sign" "[") = 1 by decide]
  exact hs
theorem skip_close {u : Str × Str} {r : Tks} {d : Int} {m : Nat} (hd : d ≠ 0) (hs : SkipR (u :: r) (d - 1) m) : SkipR (tk "sign" "]" :: u :: r) d (m + 1) := by
  refine .step (by rw [beq_eq_false_iff_ne.mpr hd, Bool.and_false]) ?_
  rw [show delta (tk "sign" "]") = -1 by decide]
  exact hs
theorem skip_fil {k : Nat} {F : Tks} (h : Fil k F) : ∀ {u : Str × Str} {r : Tks} {d : Int} {m : Nat}, 0 ≤ d → SkipR (u :: r) d m → SkipR (F ++ u :: r) d (F.length + m) := by
  induction h with
  | nm hx => intro u r d m hd hs; have := skip_calm (calm_name hx) hs; rw [Nat.add_comm]; exact this
  | dot hx hy =>
    intro u r d m hd hs
    have := skip_calm (calm_name hx) (skip_calm (t := tk "sign" ".") (by decide) (skip_calm (calm_name hy) hs))
    rw [Nat.add_comm]; exact this
  | txt => intro u r d m hd hs; have := skip_calm (t := tk "text" "\"];\"") (by decide) hs; rw [Nat.add_comm]; exact this
  | num => intro u r d m hd hs; have := skip_calm (t := tk "number" "12") (by decide) hs; rw [Nat.add_comm]; exact this
  | @br k x F hx hF ih =>
    intro u r d m hd hs
    have h1 := skip_close (d := d + 1) (by omega) (by rw [show d + 1 - 1 = d by omega]; exact hs)
    have h2 := ih (by omega) h1
    obtain ⟨v, r', e⟩ : ∃ v r', F ++ tk "sign" "]" :: u :: r = v :: r' := by
      cases F with
      | nil => exact ⟨_, _, rfl⟩
      | cons a b => exact ⟨_, _, rfl⟩
    rw [e] at h2
    have h3 := skip_calm (calm_name hx) (skip_open h2)
    show SkipR (tk "name" x :: tk "sign" "[" :: (F ++ [tk "sign" "]"] ++ u :: r)) d _
    rw [List.append_assoc]
    show SkipR (tk "name" x :: tk "sign" "[" :: (F ++ tk "sign" "]" :: u :: r)) d _
    rw [e]
    have en : (tk "name" x :: tk "sign" "[" :: (F ++ [tk "sign" "]"])).length + m = F.length + (m + 1) + 1 + 1 := by simp; omega
    rw [en]; exact h3
  | @par k F hF ih =>
    intro u r d m hd hs
    have h1 := skip_calm (t := tk "sign" ")") (by decide) (skip_calm (t := tk "sign" "+") (by decide) (skip_calm (t := tk "number" "1") (by decide) hs))
    have h2 := ih hd h1
    obtain ⟨v, r', e⟩ : ∃ v r', F ++ tk "sign" ")" :: tk "sign" "+" :: tk "number" "1" :: u :: r = v :: r' := by
      cases F with
      | nil => exact ⟨_, _, rfl⟩
      | cons a b => exact ⟨_, _, rfl⟩
    rw [e] at h2
    have h3 := skip_calm (t := tk "sign" "(") (by decide) h2
    show SkipR (tk "sign" "(" :: (F ++ [tk "sign" ")", tk "sign" "+", tk "number" "1"] ++ u :: r)) d _
    rw [List.append_assoc]
    show SkipR (tk "sign" "(" :: (F ++ tk "sign" ")" :: tk "sign" "+" :: tk "number" "1" :: u :: r)) d _
    rw [e]
    have en : (tk "sign" "(" :: (F ++ [tk "sign" ")", tk "sign" "+", tk "number" "1"])).length + m = F.length + (m + 1 + 1 + 1) + 1 := by simp; omega
    rw [en]; exact h3
theorem fil_head {k : Nat} {F : Tks} (h : Fil k F) : ∃ t r, F = t :: r ∧ isB t "]" = false := by
  cases h with
  | nm hx => exact ⟨_, _, rfl, (name_facts _ hx).2.2.1⟩
  | dot hx hy => exact ⟨_, _, rfl, (name_facts _ hx).2.2.1⟩
  | txt => exact ⟨_, _, rfl, by decide⟩
  | num => exact ⟨_, _, rfl, by decide⟩
  | br hx _ => exact ⟨_, _, rfl, (name_facts _ hx).2.2.1⟩
  | par _ => exact ⟨_, _, rfl, by decide⟩
theorem fillOk {F : Tks} (h : F = [] ∨ Fil 2 F) : FillOk F := by
  rcases h with rfl | h
  · exact .inl rfl
  · refine .inr ⟨fil_head h, ?_, fun r => ?_⟩
    · have := h.len; omega
    · have := skip_fil h (u := tk "sign" "]") (r := r) (d := 0) (m := 0) (by decide) (.stop (by decide))
      exact this

/-- rows of brackets -/
theorem brR_brk : ∀ {Fs : List Tks} {u : Str × Str} {r : Tks}, FsOk Fs → isB u "[" = false → BrR (brk Fs ++ u :: r) (some (brk Fs).length)
  | [], u, r, _, hu => .stop hu
  | F :: Fs, u, r, h, hu => by
    have hF := h F (.head _)
    have ih := brR_brk (fun G hG => h G (.tail _ hG) : FsOk Fs) hu (u := u) (r := r)
    have e : brk (F :: Fs) ++ u :: r = tk "sign" "[" :: (F ++ [tk "sign" "]"]) ++ (brk Fs ++ u :: r) := by rw [brk_cons, List.append_assoc]
    rw [e]
    have hd : ((tk "sign" "[" :: (F ++ [tk "sign" "]"]) ++ (brk Fs ++ u :: r)) : Tks).drop (F.length + 2) = brk Fs ++ u :: r := by
      have hl : (tk "sign" "[" :: (F ++ [tk "sign" "]"])).length = F.length + 2 := by simp
      rw [← hl, List.drop_left]
    have := BrR.go (t := tk "sign" "[") (r := F ++ [tk "sign" "]"] ++ (brk Fs ++ u :: r)) (by decide) (eobL_br hF) (by rw [show (tk "sign" "[" :: (F ++ [tk "sign" "]"] ++ (brk Fs ++ u :: r)) : Tks).drop (F.length + 2) = brk Fs ++ u :: r from hd]; exact ih)
    have hl : (brk (F :: Fs)).length = F.length + 2 + (brk Fs).length := by rw [brk_cons]; simp; omega
    rw [hl]
    exact this

theorem spans_brk : ∀ {Fs : List Tks} {b : Nat} {P : Tks} {r : Tks}, FsOk Fs → P.length = b → ∀ p ∈ spansOf b Fs, ∃ (i : Nat) (j : Nat), p.1 = (i : Int) ∧ p.2 = ((i + j : Nat) : Int) ∧ i < (P ++ brk Fs ++ r).length ∧ eobL ((P ++ brk Fs ++ r).drop i) 0 = some j
  | [], _, _, _, _, _, _, h => by cases h
  | F :: Fs, b, P, r, hFs, hP, p, h => by
    have hF := hFs F (.head _)
    rw [spansOf] at h
    rcases List.mem_cons.mp h with rfl | h
    · refine ⟨b, F.length + 2, rfl, by rw [Nat.add_assoc], by rw [brk_cons]; simp; omega, ?_⟩
      rw [List.append_assoc, ← hP, List.drop_left, brk_cons, List.append_assoc]
      exact eobL_br hF
    · have e : P ++ brk (F :: Fs) ++ r = (P ++ (tk "sign" "[" :: (F ++ [tk "sign" "]"]))) ++ brk Fs ++ r := by rw [brk_cons]; simp
      rw [e]
      exact spans_brk (fun G hG => hFs G (.tail _ hG)) (by simp; omega) p h
theorem spansOf_length : ∀ (Fs : List Tks) (b : Nat), (spansOf b Fs).length = Fs.length
  | [], _ => rfl
  | F :: Fs, b => by rw [spansOf, List.length_cons, spansOf_length Fs]; rfl

/-- what may follow a type -/
noncomputable def Next (u : Str × Str) : Prop := isB u "payable" = false ∧ isB u "." = false
theorem dotsL_dots : ∀ (ys : List Str) {u : Str × Str} {r : Tks}, isB u "." = false → dotsL (dots ys ++ u :: r) = 2 * ys.length
  | [], u, r, h => by
    cases r with
    | nil => rfl
    | cons v r => show dotsL (u :: v :: r) = 0; rw [dotsL, h]; rfl
  | y :: ys, u, r, h => by
    show dotsL (tk "sign" "." :: tk "name" y :: (dots ys ++ u :: r)) = _
    rw [dotsL, if_pos (by rfl), dotsL_dots ys h, List.length_cons]; omega
theorem okWord_facts {w nm : Str} (h : okWord w nm = true) : isEl? (tk "keyword" w) = some true ∧ elem? w = some nm ∧ isB (tk "keyword" w) "mapping" = false ∧ isB (tk "keyword" w) "revert" = false := by
  unfold okWord at h
  simp only [Bool.and_eq_true, Bool.not_eq_true'] at h
  obtain ⟨h1, h2, h3, h4⟩ := h
  have h1 := eq_of_beq h1
  have hB : ∀ y : Str, isB (tk "keyword" w) y = (w == y) := fun y => by
    unfold isB
    rw [show wordL.any (· == (tk "keyword" w).1) = true from (by decide +kernel : wordL.any (· == ("keyword" : Str)) = true), Bool.and_true]
  refine ⟨?_, h1, by rw [hB]; exact h3, by rw [hB]; exact h4⟩
  unfold isEl?
  rw [hB, beq_self_eq_true, if_neg (by decide)]
  show (match elem? w with | none => none | some r => some (!(r == ""))) = some true
  rw [h1]
  show some (!(nm == "")) = some true
  rw [h2]; rfl
theorem headR_plain {B : Tks} {nm : Str} (h : Plain9 B nm) {u : Str × Str} {r : Tks} (hu : Next u) : HeadR (B ++ u :: r) (some B.length) := by
  cases h with
  | pay => exact .pay (by decide +kernel) (by decide) (by decide)
  | path hx hy hl =>
    rename_i x0 ys
    have := HeadR.nm (t := tk "name" x0) (r := dots ys ++ u :: r) (name_facts x0 hx).1 rfl
    rw [dotsL_dots ys hu.2] at this
    rw [List.length_cons, dots_length, Nat.add_comm]; exact this
  | word hw => exact .el (okWord_facts hw).1 (fun _ => ⟨u, r, rfl, hu.1⟩)
theorem sumL_le : ∀ {ys : List Str}, (∀ y ∈ ys, y ∈ nameL) → sumL ys ≤ 7 * ys.length
  | [], _ => by simp [sumL]
  | y :: ys, h => by
    have h1 := (name_facts y (h y (.head _))).2.2.2.2.2.2.2.2.1
    have h2 := sumL_le (fun z hz => h z (.tail _ hz) : ∀ z ∈ ys, z ∈ nameL)
    have : sumL (y :: ys) = y.length + 1 + sumL ys := by simp [sumL]
    rw [this, List.length_cons]; omega
theorem namedR_plain {B : Tks} {nm : Str} (h : Plain9 B nm) {u v : Str × Str} {r : Tks} (hu : Next u) : NamedR (B ++ u :: v :: r) B.length nm := by
  cases h with
  | pay => exact .pay (by decide +kernel) (by decide +kernel) (by decide)
  | path hx hy hl =>
    rename_i x0 ys
    have h1 := (name_facts x0 hx).2.2.2.2.2.2.2.2.1
    have h2 := sumL_le hy
    have := NamedR.path (x0 := x0) (ys := ys) (u := u) (r := v :: r) (name_facts x0 hx).1 hu.2 (by omega)
    rw [List.length_cons, dots_length, Nat.add_comm]; exact this
  | word hw =>
    obtain ⟨h1, h2, _⟩ := okWord_facts hw
    cases e : (nm == ("address" : Str)) with
    | true => have e := eq_of_beq e; subst e; exact .nopay h1 h2 hu.1
    | false => exact .el h1 h2 e
theorem plain_head {B : Tks} {nm : Str} (h : Plain9 B nm) : ∃ t r, B = t :: r ∧ isB t "mapping" = false := by
  cases h with
  | pay => exact ⟨_, _, rfl, by decide⟩
  | path hx _ _ => exact ⟨_, _, rfl, (name_facts _ hx).2.2.2.2.2.2.1⟩
  | word hw => exact ⟨_, _, rfl, (okWord_facts hw).2.2.1⟩
end

section
noncomputable abbrev endT : Str × Str := tk "end" ""
theorem ends_app (l : Tks) : Ends (l ++ [endT]) := ⟨l, endT, rfl, rfl⟩
theorem ends_cons {t : Str × Str} {l : Tks} (h : Ends l) : Ends (t :: l) := by
  obtain ⟨l', u, rfl, hu⟩ := h
  exact ⟨t :: l', u, rfl, hu⟩
theorem ends_pre (p : Tks) {l : Tks} (h : Ends l) : Ends (p ++ l) := by
  obtain ⟨l', u, rfl, hu⟩ := h
  exact ⟨p ++ l', u, by rw [List.append_assoc], hu⟩
theorem next_brk {Fs : List Tks} {u : Str × Str} {r : Tks} (h : Fs = [] → Next u) : ∃ t r', brk Fs ++ u :: r = t :: r' ∧ Next t := by
  cases Fs with
  | nil => exact ⟨u, r, rfl, h rfl⟩
  | cons F Fs => exact ⟨tk "sign" "[", _, rfl, by decide, by decide⟩
theorem shape_eot {B : Tks} {nm : Str} {Fs : List Tks} {u : Str × Str} {r : Tks} (hB : Plain9 B nm) (hFs : FsOk Fs) (hu : isB u "[" = false) (hn : Fs = [] → Next u) (he : Ends (u :: r)) :
    EotR (B ++ brk Fs ++ u :: r) (some (B ++ brk Fs).length) := by
  obtain ⟨t, r', e, ht⟩ := next_brk hn (r := r)
  refine .inr ⟨B.length, some (brk Fs).length, ?_, ?_, ?_, ?_⟩
  · rw [List.append_assoc, e]; exact headR_plain hB ht
  · rw [List.append_assoc, List.drop_left]; exact ends_pre _ he
  · rw [List.append_assoc, List.drop_left]; exact brR_brk hFs hu
  · rw [List.length_append]; rfl

structure ReadR (l : Tks) (e : Int) (nm place own : Str) (k : Nat) : Prop where
  ex : ∃ (j : Nat) (Fs : List Tks) (t0 : Str × Str) (r0 : Tks) (b : Bool) (v w : Str × Str) (r : Tks), l = t0 :: r0 ∧ isB t0 "mapping" = false ∧ NamedR l j nm ∧
    l.drop j = brk Fs ++ (if b then [v] else []) ++ (("name" : Str), own) :: w :: r ∧ (∀ F ∈ Fs, FillOk F) ∧ Fs.length ≤ 20 ∧ isB (("name" : Str), own) "[" = false ∧ isB v "[" = false ∧
    ((b = false ∧ place = "" ∧ ∀ x ∈ placeL, isB (("name" : Str), own) x = false) ∨ (b = true ∧ ∃ x ∈ placeL, isB v x = true ∧ place = x)) ∧ k = Fs.length ∧ e = ((j + (brk Fs).length : Nat) : Int)

noncomputable def SpanOk (l : Tks) (p : Int × Int) : Prop := ∃ (i : Nat) (o : Option Nat), p.1 = (i : Int) ∧ p.2 = (match o with | some j => ((i + j : Nat) : Int) | none => -1) ∧ i < l.length ∧ eobL (l.drop i) 0 = o
structure Facts (row : Tks) (b : Bool) (e : Int) (sp : List (Int × Int)) (due : Option (Str × Str × Str)) : Prop where
  beg : BegR (row ++ [endT]) b
  eot : ∃ o, EotR (row ++ [endT]) o ∧ e = at_ 0 o
  spans : ∀ p ∈ sp, SpanOk (row ++ [endT]) p
  read : ∀ nm place own, due = some (nm, place, own) → ReadR (row ++ [endT]) e nm place own sp.length

theorem first_facts : ∀ f ∈ firstL, isEl? f = some false ∧ isB f "mapping" = false ∧ (f.1 == ("name" : Str)) = false ∧ ((f.1 == ("sign" : Str) && f.2 == ("[" : Str)) = true → f = tk "sign" "[") := by decide +kernel
theorem end_places : ∀ y ∈ placeL, isB (tk "keyword" y) "[" = false ∧ Next (tk "keyword" y) ∧ placeL.any (fun x => isB (tk "keyword" y) x) = true ∧ isB (tk "keyword" y) y = true := by unfold Next; decide +kernel
theorem sign_facts : ∀ g ∈ signL, isB (tk "sign" g) "[" = false ∧ Next (tk "sign" g) ∧ placeL.any (fun x => isB (tk "sign" g) x) = false := by unfold Next; decide +kernel
theorem places_split : ∀ y ∈ placesL, (y = "" ∧ (y != "") = false) ∨ (y ∈ placeL ∧ (y != "") = true ∧ (y == "") = false) := by decide +kernel

theorem spanOk_shape {Fs : List Tks} {B r : Tks} (hFs : FsOk Fs) : ∀ p ∈ spansOf B.length Fs, SpanOk (B ++ brk Fs ++ r) p := fun p hp => by
  obtain ⟨i, j, h1, h2, h3, h4⟩ := spans_brk hFs rfl p hp (P := B) (r := r)
  exact ⟨i, some j, h1, h2, h3, h4⟩

theorem begB_no {t u : Str × Str} {j : Nat} (h : (u.1 == ("name" : Str)) = false) : begB t u j = placeL.any (fun x => isB u x) := by
  unfold begB
  rw [h, Bool.and_false, Bool.and_false, if_neg (by decide), Bool.false_or]
theorem shape_revert {B : Tks} {nm : Str} {Fs : List Tks} (hB : Plain9 B nm) {t : Str × Str} {r0 : Tks} (h : B = t :: r0) : (isB t "revert" && ((B ++ brk Fs).length == 1)) = (B ++ brk Fs == [tk "name" "revert"]) := by
  rw [Bool.eq_iff_iff, beq_iff_eq, Bool.and_eq_true, beq_iff_eq]
  constructor
  · rintro ⟨h1, h2⟩
    rw [h, List.cons_append, List.length_cons] at h2
    have h3 : r0 ++ brk Fs = [] := List.eq_nil_of_length_eq_zero (by omega)
    rw [h, List.cons_append, h3]
    cases hB with
    | pay => cases h; exact absurd h1 (by decide)
    | path hx _ _ =>
      cases h
      rw [(name_facts _ hx).2.2.2.2.2.2.2.2.2.2] at h1
      rw [eq_of_beq h1]
    | word hw => cases h; rw [(okWord_facts hw).2.2.2] at h1; cases h1
  · intro e
    rw [e]
    rw [h, List.cons_append] at e
    injection e with e1 e2
    rw [e1]
    exact ⟨by decide, rfl⟩

theorem case_facts {row : Tks} {b : Bool} {e : Int} {sp : List (Int × Int)} {due : Option (Str × Str × Str)} (h : CaseR row b e sp due) : Facts row b e sp due := by
  cases h with
  | @first f x hf hx =>
    obtain ⟨h1, h2, h3, h4⟩ := first_facts f hf
    have hE : EotR ([f, tk "name" x, tk "sign" ";"] ++ [endT]) none := .inl ⟨.no h1 h3, rfl⟩
    refine ⟨.no h2 hE, ⟨none, hE, rfl⟩, ?_, fun _ _ _ h => (by cases h)⟩
    intro p hp
    by_cases hc : (f.1 == ("sign" : Str) && f.2 == ("[" : Str)) = true
    · rw [if_pos hc] at hp
      simp only [List.mem_singleton] at hp
      subst hp
      refine ⟨0, none, rfl, rfl, by simp, ?_⟩
      rw [h4 hc]
      show eobL (tk "sign" "[" :: tk "name" x :: tk "sign" ";" :: [endT]) 0 = none
      rw [eobL_open, eobL_calm (calm_name hx)]
      rfl
    · rw [if_neg hc] at hp; cases hp
  | @opened x F R hx hF hR =>
    obtain ⟨h1, _, _, _, _, _, h7, _⟩ := name_facts x hx
    have hb : eobL (tk "sign" "[" :: (F ++ R ++ [endT])) 0 = none := by
      rw [eobL_open, List.append_assoc, eobL_fil hF (by decide)]
      rcases hR with rfl | ⟨y, hy, rfl⟩ <;> rfl
    have hE : EotR ([tk "name" x, tk "sign" "["] ++ F ++ R ++ [endT]) none := by
      refine .inr ⟨1, none, ?_, ?_, ?_, rfl⟩
      · have := HeadR.nm (t := tk "name" x) (r := tk "sign" "[" :: (F ++ R ++ [endT])) h1 rfl
        have hd : dotsL (tk "sign" "[" :: (F ++ R ++ [endT])) = 0 := by
          cases hq : F ++ R ++ [endT] with
          | nil => rfl
          | cons u r => rw [dotsL, show isB (tk "sign" "[") "." = false by decide]; rfl
        rw [hd] at this
        have e : ([tk "name" x, tk "sign" "["] ++ F ++ R ++ [endT] : Tks) = tk "name" x :: tk "sign" "[" :: (F ++ R ++ [endT]) := by simp
        rw [e]; exact this
      · have e : (([tk "name" x, tk "sign" "["] ++ F ++ R ++ [endT] : Tks)).drop 1 = (tk "sign" "[" :: (F ++ R)) ++ [endT] := by simp
        rw [e]; exact ends_app _
      · have e : (([tk "name" x, tk "sign" "["] ++ F ++ R ++ [endT] : Tks)).drop 1 = tk "sign" "[" :: (F ++ R ++ [endT]) := by simp
        rw [e]; exact .bad (by decide) hb
    refine ⟨?_, ⟨none, hE, rfl⟩, ?_, fun _ _ _ h => (by cases h)⟩
    · exact BegR.no h7 hE
    · intro p hp
      simp only [List.mem_singleton] at hp
      subst hp
      refine ⟨1, none, rfl, rfl, by simp, ?_⟩
      have e : (([tk "name" x, tk "sign" "["] ++ F ++ R ++ [endT] : Tks)).drop 1 = tk "sign" "[" :: (F ++ R ++ [endT]) := by simp
      rw [e]; exact hb
  | @mapping B nm x y hB hx hy =>
    have e : ([tk "keyword" "mapping", tk "sign" "("] ++ B.take 1 ++ [tk "sign" "=>", tk "name" x] ++ [tk "sign" ")", tk "name" y, tk "sign" ";"] ++ [endT] : Tks) =
        tk "keyword" "mapping" :: (tk "sign" "(" :: (B.take 1 ++ [tk "sign" "=>", tk "name" x] ++ [tk "sign" ")", tk "name" y, tk "sign" ";"] ++ [endT])) := by simp
    refine ⟨?_, ⟨none, ?_, rfl⟩, fun _ h => (by cases h), fun _ _ _ h => (by cases h)⟩
    · rw [e]; exact .map (by decide)
    · rw [e]; exact .inl ⟨.no (by decide +kernel) (by decide), rfl⟩
  | @err x hx =>
    obtain ⟨_, h2, _, _, h5, _⟩ := name_facts x hx
    have hE : EotR ([tk "name" "revert", tk "name" x, tk "sign" "(", tk "sign" ")", tk "sign" ";"] ++ [endT]) (some 1) := by
      refine .inr ⟨1, some 0, ?_, ?_, ?_, rfl⟩
      · have := HeadR.nm (t := tk "name" "revert") (r := [tk "name" x, tk "sign" "(", tk "sign" ")", tk "sign" ";", endT]) (by decide +kernel) rfl
        have hd : dotsL [tk "name" x, tk "sign" "(", tk "sign" ")", tk "sign" ";", endT] = 0 := by rw [dotsL, h5]; rfl
        rw [hd] at this
        exact this
      · exact ends_app [tk "name" x, tk "sign" "(", tk "sign" ")", tk "sign" ";"]
      · exact .stop h2
    refine ⟨?_, ⟨some 1, hE, rfl⟩, fun _ h => (by cases h), fun _ _ _ h => (by cases h)⟩
    exact BegR.yes (t := tk "name" "revert") (u := tk "name" x) (by decide) hE rfl
  | @other B nm Fs o x hB hFs hl ho hx =>
    obtain ⟨t, r0, ht, hm⟩ := plain_head hB
    have f : isB o "[" = false ∧ (Fs = [] → Next o) ∧ (o.1 == ("name" : Str)) = false ∧ placeL.any (fun x => isB o x) = false := by
      rcases ho with rfl | ⟨rfl, h⟩ | ⟨g, hg, rfl⟩
      · exact ⟨by decide, fun _ => ⟨by decide, by decide⟩, by decide, by decide +kernel⟩
      · exact ⟨by decide, fun e => absurd e h, by decide, by decide +kernel⟩
      · obtain ⟨a1, a2, a3⟩ := sign_facts g hg
        exact ⟨a1, fun _ => a2, rfl, a3⟩
    have e1 : (B ++ brk Fs ++ [o, tk "name" x, tk "sign" ";"] ++ [endT] : Tks) = B ++ brk Fs ++ o :: [tk "name" x, tk "sign" ";", endT] := by simp
    have hE := shape_eot (r := [tk "name" x, tk "sign" ";", endT]) hB hFs f.1 f.2.1 (ends_app [o, tk "name" x, tk "sign" ";"])
    rw [← e1] at hE
    refine ⟨?_, ⟨_, hE, by simp [at_]⟩, ?_, fun _ _ _ h => (by cases h)⟩
    · have e2 : ((B ++ brk Fs ++ [o, tk "name" x, tk "sign" ";"] ++ [endT] : Tks)).drop (B ++ brk Fs).length = o :: [tk "name" x, tk "sign" ";", endT] := by rw [e1, List.drop_left]
      have e3 : ∃ r1, (B ++ brk Fs ++ [o, tk "name" x, tk "sign" ";"] ++ [endT] : Tks) = t :: r1 := ⟨r0 ++ brk Fs ++ [o, tk "name" x, tk "sign" ";"] ++ [endT], by rw [ht]; rfl⟩
      obtain ⟨r1, e3⟩ := e3
      rw [e3] at hE e2 ⊢
      have := BegR.yes hm hE e2
      rw [begB_no f.2.2.1, f.2.2.2] at this
      exact this
    · rw [List.append_assoc (B ++ brk Fs)]; exact spanOk_shape hFs
  | @decl B nm Fs place x E hB hFs hl hp hx hE' =>
    obtain ⟨t, r0, ht, hm⟩ := plain_head hB
    obtain ⟨h1, h2, h3, h4, h5, h6, h7, h8, h9, h10, h11⟩ := name_facts x hx
    have hrev := shape_revert (Fs := Fs) hB ht
    obtain ⟨w, r', hw⟩ : ∃ w r', E ++ [endT] = w :: r' := by
      cases E with
      | nil => exact ⟨_, _, rfl⟩
      | cons a b => exact ⟨_, _, rfl⟩
    rcases places_split place hp with ⟨hpl, hne⟩ | ⟨hpl, hne, heq⟩
    · subst hpl
      rw [hne, if_neg (by decide)]
      have e1 : (B ++ brk Fs ++ [] ++ [tk "name" x] ++ E ++ [endT] : Tks) = B ++ brk Fs ++ tk "name" x :: (E ++ [endT]) := by simp
      have hE := shape_eot (r := E ++ [endT]) hB hFs h2 (fun _ => ⟨h6, h5⟩) (ends_app (tk "name" x :: E))
      rw [← e1] at hE
      have e2 : ((B ++ brk Fs ++ [] ++ [tk "name" x] ++ E ++ [endT] : Tks)).drop (B ++ brk Fs).length = tk "name" x :: (E ++ [endT]) := by rw [e1, List.drop_left]
      have e3 : ∃ r1, (B ++ brk Fs ++ [] ++ [tk "name" x] ++ E ++ [endT] : Tks) = t :: r1 := ⟨r0 ++ brk Fs ++ [] ++ [tk "name" x] ++ E ++ [endT], by rw [ht]; rfl⟩
      obtain ⟨r1, e3⟩ := e3
      refine ⟨?_, ⟨_, hE, by simp [at_]⟩, ?_, ?_⟩
      · rw [e3] at hE e2 ⊢
        have := BegR.yes hm hE e2
        have hb : begB t (tk "name" x) (B ++ brk Fs).length = !isErr (B ++ brk Fs) "" := by
          unfold begB isErr
          rw [show ((tk "name" x).1 == ("name" : Str)) = true from beq_self_eq_true _, Bool.and_true, hrev, beq_self_eq_true (a := ("" : Str)), Bool.and_true, Bool.true_or]
          cases (B ++ brk Fs == [tk "name" "revert"]) <;> rfl
        rw [hb] at this
        exact this
      · rw [show (B ++ brk Fs ++ [] ++ [tk "name" x] ++ E ++ [endT] : Tks) = B ++ brk Fs ++ ([] ++ [tk "name" x] ++ E ++ [endT]) by simp]; exact spanOk_shape hFs
      · intro nm' place' own' hd
        split at hd
        · cases hd
        · cases hd
          refine ⟨B.length, Fs, t, r1, false, tk "name" x, w, r', e3, hm, ?_, ?_, fun F hF => fillOk (hFs F hF), by omega, h2, h2, .inl ⟨rfl, rfl, h10⟩, spansOf_length _ _, by rw [List.length_append]⟩
          · obtain ⟨u, r2, e4, hu⟩ := next_brk (Fs := Fs) (u := tk "name" x) (r := E ++ [endT]) (fun _ => ⟨h6, h5⟩)
            have e5 : (B ++ brk Fs ++ [] ++ [tk "name" x] ++ E ++ [endT] : Tks) = B ++ u :: r2 := by rw [e1, List.append_assoc, e4]
            obtain ⟨v, r3, e6⟩ : ∃ v r3, r2 = v :: r3 := by
              cases r2 with
              | nil =>
                have := congrArg List.length e4
                rw [hw, List.length_append] at this
                simp only [List.length_cons, List.length_nil] at this
                omega
              | cons v r3 => exact ⟨_, _, rfl⟩
            rw [e5, e6]
            exact namedR_plain hB hu
          · rw [e1, List.append_assoc, List.drop_left, hw]; simp
    · obtain ⟨q1, q2, q3, q4⟩ := end_places place hpl
      rw [if_pos hne]
      have e1 : (B ++ brk Fs ++ [tk "keyword" place] ++ [tk "name" x] ++ E ++ [endT] : Tks) = B ++ brk Fs ++ tk "keyword" place :: (tk "name" x :: (E ++ [endT])) := by simp
      have hE := shape_eot (r := tk "name" x :: (E ++ [endT])) hB hFs q1 (fun _ => q2) (ends_app (tk "keyword" place :: tk "name" x :: E))
      rw [← e1] at hE
      have e2 : ((B ++ brk Fs ++ [tk "keyword" place] ++ [tk "name" x] ++ E ++ [endT] : Tks)).drop (B ++ brk Fs).length = tk "keyword" place :: (tk "name" x :: (E ++ [endT])) := by rw [e1, List.drop_left]
      have e3 : ∃ r1, (B ++ brk Fs ++ [tk "keyword" place] ++ [tk "name" x] ++ E ++ [endT] : Tks) = t :: r1 := ⟨r0 ++ brk Fs ++ [tk "keyword" place] ++ [tk "name" x] ++ E ++ [endT], by rw [ht]; rfl⟩
      obtain ⟨r1, e3⟩ := e3
      have hne2 : isErr (B ++ brk Fs) place = false := by unfold isErr; rw [heq, Bool.and_false]
      refine ⟨?_, ⟨_, hE, by simp [at_]⟩, ?_, ?_⟩
      · rw [e3] at hE e2 ⊢
        have := BegR.yes hm hE e2
        rw [begB_no (rfl : ((tk "keyword" place).1 == ("name" : Str)) = false), q3] at this
        rw [hne2]
        exact this
      · rw [show (B ++ brk Fs ++ [tk "keyword" place] ++ [tk "name" x] ++ E ++ [endT] : Tks) = B ++ brk Fs ++ ([tk "keyword" place] ++ [tk "name" x] ++ E ++ [endT]) by simp]; exact spanOk_shape hFs
      · intro nm' place' own' hd
        rw [hne2] at hd
        cases hd
        refine ⟨B.length, Fs, t, r1, true, tk "keyword" place, w, r', e3, hm, ?_, ?_, fun F hF => fillOk (hFs F hF), by omega, h2, q1, .inr ⟨rfl, place, hpl, q4, rfl⟩, spansOf_length _ _, by rw [List.length_append]⟩
        · obtain ⟨u, r2, e4, hu⟩ := next_brk (Fs := Fs) (u := tk "keyword" place) (r := tk "name" x :: (E ++ [endT])) (fun _ => q2)
          have e5 : (B ++ brk Fs ++ [tk "keyword" place] ++ [tk "name" x] ++ E ++ [endT] : Tks) = B ++ u :: r2 := by rw [e1, List.append_assoc, e4]
          obtain ⟨v, r3, e6⟩ : ∃ v r3, r2 = v :: r3 := by
            cases r2 with
            | nil =>
              have := congrArg List.length e4
              rw [List.length_append] at this
              simp only [List.length_cons, List.length_nil] at this
              omega
            | cons v r3 => exact ⟨_, _, rfl⟩
          rw [e5, e6]
          exact namedR_plain hB hu
        · rw [e1, List.append_assoc, List.drop_left, hw]; simp
end

section
variable {C : Cx} {n : Nat} {env : Env} {ρ : List (Str × PV)} {σ : Sig} {K : PV → Sig → Prop}
variable {T : Ad} {c d : Addr} {ps : List PV} {ks : List (Str × Str)} {spot : Nat} {depth : Int}

variable {a : Addr} {w : Cell}
theorem ev_slice_ref {la : Addr} {vs : List Value} {ps : List PV} (hL : C.h₀.IsList la vs.toArray) (rl : RepL (fun _ _ => False) ps vs) {a u : Expr} {p pos : Pos} {j : Nat}
    (h : EV C n env ρ σ a fun v σ1 => v = .ref la ∧ EV C n env ρ σ1 u fun k σ2 => k = .int j ∧ ps.length ≤ 1000000 ∧ K (.list (ps.take j)) σ2) :
    EV C n env ρ σ (.Subscript a (.Slice none (some u) none p) pos) K :=
  fun A W s Q E r I l hk => sub_slice_go (T := "list") list_getitem_lookup (h A W s _ E r I l fun v1 s1 p1 σ1 W1 h1 I1 st1 r1 => wpAny_Slice (wpAny_evalPart_none (wpAny_evalPart_some (by
    obtain ⟨rfl, h1⟩ := h1
    refine h1 A W1 s1 _ E r I1 (l.step0 st1) fun v2 s2 p2 σ2 W2 h2 I2 st2 r2 => ?_
    obtain ⟨rfl, hz, hK⟩ := h2
    simp only [Rep] at r1; subst r1
    obtain ⟨t, rfl⟩ := r2
    have hl := rl.length
    rw [evalPart_none]
    have hL : s2.heap.IsList la vs.toArray := by
      obtain ⟨o, ho, h1, h2⟩ := hL
      exact ⟨o, I2.keep0 _ _ ho, h1, h2⟩
    refine wpAny_pure ⟨(hL.push _).typeIs, wpAny_getItem_list_slice (hL.push _) (Heap.IsSliceOf.new ..) .none (.int j t) .none (by simp) ?_ (by simp only [List.size_toArray, hl, sizeLine_eq]; omega)⟩
    rw [Heap.size_push, slicePick_upto']
    have I3 := I2.push { cls := .type "slice", data := .fields #[Value.none, Value.int j t, Value.none] } s2.toks
    have rl2 : RepL W2 ps vs := rl.mono (fun _ _ h => h.elim)
    have z := op_new (C := C) (K := fun p σ' => p = .list (ps.take j) ∧ σ' = σ2) (Q := Q) I3 (rl2.take j) ⟨rfl, rfl⟩ (fun v s' r σ' W' hr I' st' rr => by
      obtain ⟨rfl, rfl⟩ := hr
      exact hk _ _ _ _ _ hK I' ((st1.trans st2).trans ((Step.push _ _).trans st')) rr) s2.toks
    simpa using z))))
theorem repL_ints {W : Ice} {vs : List Value} {xs : List Int} (h : IntsAre vs xs) : RepL W (xs.map .int) vs := by
  induction h with
  | nil => rfl
  | cons n t _ ih => exact .cons ⟨t, rfl⟩ ih
noncomputable def modP : PV → PV
  | .int i => .int (i.fmod 2147483647)
  | _ => .none
theorem fn_well (hn : 2 ≤ n) (H : Tab C T) {la : Addr} {vs : List Value} {xs : List Int} (hx : xs.length ≤ 63) (hL : C.h₀.IsList la vs.toArray) (hI : IntsAre vs xs) :
    FN C n T.gWell [.ref la] σ fun p σ' => ∃ (a : Addr) (w : Cell), p = .ref a ∧ a ∉ foots σ ∧ IsWell w ∧ σ' = (a, w) :: σ := by
  refine FN.le ?_ hn
  refine lit H.gWell.fn fun pa bo sc hp hb hs F => ?_
  conv at hp => rhs; whnf
  conv at hb => rhs; whnf
  conv at hs => rhs; whnf
  subst hp hb hs
  refine fn_enter1 (x1 := "script") F (fun _ _ _ _ _ _ _ _ _ => rfl) (allLoc_of rfl) (noCell_of rfl) fun L q cd => ?_
  refine x_return (ev_list_cellN ?_)
  walk_at "sol"
  refine ev_comp (cl := []) modP (fun _ => true) ?_ (fun _ => rfl) rfl rfl (by intro x hx hl; simp at hx; rcases hx with rfl | rfl <;> first | rfl | cases hl) (noCell_of rfl)
  refine ie_list (ev_slice_ref (j := 63) hL (repL_ints hI) ?_) plainly_name
  repeat (walk_at "sol")
  refine ⟨rfl, ?_⟩
  repeat (walk_at "sol")
  refine ⟨rfl, by simp; omega, _, rfl, by simp; omega, ?_, ?_⟩
  · intro p hp L D qs hD
    have hp := List.mem_of_mem_take hp
    obtain ⟨v, _, rfl⟩ := List.mem_map.mp hp
    refine ⟨_, as_name rfl rfl, rfl, fun _ => ?_⟩
    repeat (walk_at "sol")
    exact op_mod_int (by decide) ⟨rfl, rfl⟩
  repeat (walk_at "sol")
  refine ⟨by simp, fun a ha => ?_⟩
  have e : ((((xs.map PV.int).take 63).filter (fun _ => true)).map modP) = ((xs.take 63).map fun i => i.fmod 2147483647).map PV.int := by
    rw [List.filter_eq_self.mpr (fun _ _ => rfl), ← List.map_take, List.map_map, List.map_map]; rfl
  rw [e]
  repeat (walk_at "sol")
  refine ⟨a, _, rfl, ha, ⟨(xs.take 63).map fun i => i.fmod 2147483647, 0, 3, rfl, by simp, by simp; omega, ?_, by decide, by decide⟩, rfl⟩
  intro g hg
  obtain ⟨v, _, rfl⟩ := List.mem_map.mp hg
  exact fmod_lt (by decide)

theorem upd_one {w w' : Cell} : upd [(a, w)] a w' = [(a, w')] := upd_head (by simp [foots])
noncomputable def tokP (T : Ad) : PV → PV
  | .tup [.int i, .tup [.str k, .str x]] => tkPV T (k, x) (1 + i)
  | _ => .none
theorem enum_get {L : Tks} {i : Nat} {t : Str × Str} (h : L[i]? = some t) : (((enumP (L.map fun p => pair p.1 p.2)).filter (fun _ => true)).map (tokP T))[i]? = some (tkPV T t (1 + (i : Int))) := by
  rw [List.filter_eq_self.mpr (fun _ _ => rfl)]
  unfold enumP
  rw [List.getElem?_map, List.getElem?_mapIdx, List.getElem?_map, h]; rfl
theorem enum_len {L : Tks} : (((enumP (L.map fun p => pair p.1 p.2)).filter (fun _ => true)).map (tokP T)).length = L.length := by
  rw [List.filter_eq_self.mpr (fun _ _ => rfl)]
  simp [enumP]
theorem tokL_enum {L : Tks} : TokL T (((enumP (L.map fun p => pair p.1 p.2)).filter (fun _ => true)).map (tokP T) ++ [tkPV T endT 99]) (L ++ [endT]) := by
  refine ⟨by rw [List.length_append, List.length_append, enum_len]; rfl, fun i t h => ?_⟩
  by_cases hi : i < L.length
  · rw [List.getElem?_append_left hi] at h
    exact ⟨_, by rw [List.getElem?_append_left (by rw [enum_len]; exact hi)]; exact enum_get h⟩
  · have hi : L.length ≤ i := by omega
    rw [List.getElem?_append_right hi] at h
    rw [List.getElem?_append_right (by rw [enum_len]; exact hi), enum_len]
    have h0 : i - L.length < 1 := (List.getElem?_eq_some_iff.mp h).1
    have h0 : i - L.length = 0 := by omega
    rw [h0] at h ⊢
    cases h
    exact ⟨99, rfl⟩
theorem ends_drop {l : Tks} (he : Ends l) {i : Nat} (h : i < l.length) : Ends (l.drop i) := by
  obtain ⟨l', t, rfl, ht⟩ := he
  rw [List.length_append] at h
  simp only [List.length_cons, List.length_nil] at h
  exact ⟨l'.drop i, t, by rw [List.drop_append_of_le_length (by omega)], ht⟩
theorem enum_mem {L : Tks} {p : PV} (h : p ∈ enumP (L.map fun p => pair p.1 p.2)) : ∃ (i : Nat) (t : Str × Str), p = .tup [.int i, .tup [.str t.1, .str t.2]] := by
  unfold enumP at h
  obtain ⟨i, hi, rfl⟩ := List.mem_mapIdx.mp h
  rw [List.getElem_map]
  exact ⟨i, _, rfl⟩

set_option maxHeartbeats 4000000 in
theorem law_body (H : Tab C T) {la : Addr} {vs : List Value} {xs : List Int} (hx : xs.length ≤ 63) (hL : C.h₀.IsList la vs.toArray) (hI : IntsAre vs xs) {bo : List Stmt} {sc : Scope} (hb : bo = fBody (stAt 46)) (hs : sc = fScope (stAt 46)) (L f : Addr) (q : Str) (cd : Value) :
    XS C 13 (mkEnv sc L f q cd) [("script", .ref la)] [] bo (BK fun p _ => p = .bool true) := by
  conv at hb => rhs; whnf
  conv at hs => rhs; whnf
  subst hb hs
  repeat (walk_at "sol")
  refine ev_def H.gWell ?_ rfl rfl rfl rfl (by simp)
  repeat (walk_at "sol")
  refine (fn_well (n := 13) (by omega) H hx hL hI).mono ?_
  rintro _ σ' ⟨a, w0, rfl, ha, W0, h⟩
  subst σ'
  have lk : ∀ w : Cell, List.lookup a [(a, w)] = some w := fun w => lookup_cons_eq
  repeat (walk_at "sol")
  refine ev_list ?_
  repeat (walk_at "sol")
  refine ev_list ?_
  repeat (walk_at "sol")
  refine ev_tuple ?_
  repeat (walk_at "sol")
  refine ⟨by simp, ?_⟩
  repeat (walk_at "sol")
  refine ⟨by simp, ?_⟩
  repeat (walk_at "sol")
  refine ev_list ?_
  repeat (walk_at "sol")
  refine ev_tuple ?_
  repeat (walk_at "sol")
  refine ⟨by simp, ?_⟩
  repeat (walk_at "sol")
  refine ⟨by simp, ?_⟩
  repeat (walk_at "sol")
  refine ev_list ?_
  repeat (walk_at "sol")
  refine ev_def H.gName ?_ rfl rfl rfl rfl (by simp)
  repeat (walk_at "sol")
  refine (fn_name (n := 13) (by omega) H (lk _) W0).mono ?_
  rintro _ σ' ⟨x, w1, rfl, hx0, W1, h⟩
  subst σ'
  rw [upd_one]
  repeat (walk_at "sol")
  refine ⟨by simp, ?_⟩
  repeat (walk_at "sol")
  refine ⟨by simp, ?_⟩
  refine ev_def H.gDraw ?_ rfl rfl rfl rfl (by simp)
  repeat (walk_at "sol")
  refine (fn_draw (n := 13) (k := 3) (by omega) H (lk _) W1 (by omega)).mono ?_
  rintro _ σ' ⟨r, w2, rfl, hr, W2, h⟩
  subst σ'
  rw [upd_one]
  repeat (walk_at "sol")
  obtain ⟨A, hA, hA1, hA2⟩ := get_map pairs (l := [[tk "sign" "("], [tk "sign" ","], [tk "name" x]]) (i := r) (by show r < 3; omega)
  have hAl : A.length = 1 := by
    simp only [List.mem_cons, List.not_mem_nil, or_false] at hA
    rcases hA with rfl | rfl | rfl <;> rfl
  refine op_item_list (by omega) (by omega) (p := pairs A) hA2 ?_
  refine ev_def H.gDraw ?_ rfl rfl rfl rfl (by simp)
  repeat (walk_at "sol")
  refine (fn_draw (n := 13) (k := 4) (by omega) H (lk _) W2 (by omega)).mono ?_
  rintro _ σ' ⟨m, w3, rfl, hm, W3, h⟩
  subst σ'
  rw [upd_one]
  repeat (walk_at "sol")
  refine op_mul_list (by omega) (by omega) (by simp; omega) ?_
  have e1 : PV.list (List.replicate (m : Int).toNat (A.map fun p => pair p.1 p.2)).flatten = pairs (List.replicate m A).flatten := by
    rw [Int.toNat_natCast]; unfold pairs; rw [List.map_flatten, List.map_replicate]
  rw [e1]
  have hAH : (List.replicate m A).flatten.length ≤ 3 := by
    rw [List.length_flatten, List.map_replicate, hAl]; simp; omega
  generalize (List.replicate m A).flatten = AH at hAH
  repeat (walk_at "sol")
  refine ev_def H.gDraw ?_ rfl rfl rfl rfl (by simp)
  repeat (walk_at "sol")
  refine cv_len_list (by rw [List.length_map]; omega) ?_
  rw [List.length_map]
  repeat (walk_at "sol")
  refine (fn_draw (n := 13) (k := (AH.length : Int) + 1) (by omega) H (lk _) W3 (by omega)).mono ?_
  rintro _ σ' ⟨g, w4, rfl, hg, W4, h⟩
  subst σ'
  rw [upd_one]
  repeat (walk_at "sol")
  refine x_unpack ?_ rfl rfl
  refine ev_def H.gCase ?_ rfl rfl rfl rfl (by simp)
  repeat (walk_at "sol")
  refine (fn_case (n := 13) (by omega) H (lk _) W4).mono ?_
  rintro _ σ' ⟨row, b, e, sp, due, w5, rfl, hC, W5, h⟩
  subst σ'
  rw [upd_one]
  have hrl := hC.len
  have F := case_facts hC
  refine ⟨_, as_tuple_list (ass_cons (as_name rfl rfl) (ass_cons (as_name rfl rfl) (ass_cons (as_name rfl rfl) (ass_cons (as_name rfl rfl) (ass_cons (as_name rfl rfl) ass_nil))))) rfl rfl, ?_⟩
  refine x_assign_comp (cl := []) (tokP T) (fun _ => true) ?_ rfl rfl rfl (fun _ => rfl) rfl rfl (by intro x hx hl; simp at hx; rcases hx with rfl | rfl | rfl | rfl | rfl <;> first | rfl | cases hl) (noCell_of rfl)
  refine ie_enum ?_ H.no_enumerate rfl rfl rfl rfl rfl
  repeat (walk_at "sol")
  refine op_add_list (by simp; omega) ?_
  rw [← List.map_append]
  refine ⟨_, rfl, by simp [enumP]; omega, ?_, ?_⟩
  · intro p hp L' D qs hD
    obtain ⟨i, t, rfl⟩ := enum_mem hp
    refine ⟨_, as_tuple (ass_cons (as_name rfl rfl) (ass_cons (as_tuple (ass_cons (as_name rfl rfl) (ass_cons (as_name rfl rfl) ass_nil)) rfl rfl) ass_nil)) rfl rfl, rfl, fun _ => ?_⟩
    refine ev_class H.cTok ?_ rfl rfl rfl rfl (by simp)
    repeat (walk_at "sol")
    exact cv_Token (t := t) (by omega) H ⟨rfl, rfl⟩
  generalize hTS : (((enumP ((AH ++ row).map fun p => pair p.1 p.2)).filter (fun _ => true)).map (tokP T)) = TS
  have hTl : TS.length = AH.length + row.length := by rw [← hTS, enum_len, List.length_append]
  have hTok : TokL T (TS ++ [tkPV T endT 99]) (AH ++ row ++ [endT]) := by rw [← hTS]; exact tokL_enum
  clear hTS
  repeat (walk_at "sol")
  refine ev_class H.cCur ?_ rfl rfl rfl rfl (by simp)
  repeat (walk_at "sol")
  refine ev_list ?_
  repeat (walk_at "sol")
  refine ev_class H.cTok ?_ rfl rfl rfl rfl (by simp)
  repeat (walk_at "sol")
  refine cv_Token (t := endT) (by omega) H ?_
  repeat (walk_at "sol")
  refine ⟨by simp, ?_⟩
  refine op_add_list (by simp; omega) ?_
  repeat (walk_at "sol")
  refine cv_Cursor (by omega) H hTok (by simp; omega) fun c d hc G0 => ?_
  generalize TS ++ [tkPV T endT 99] = ps at hTok G0
  have G : ∀ sp, IsCur T (AH ++ row ++ [endT]) c d ps sp 0 [(c, curC T d ps sp 0), (a, w5)] := fun sp => ⟨lookup_cons_eq, G0.tk, G0.sz⟩
  have hup : ∀ x y, upd [(c, x), (a, w5)] c y = [(c, y), (a, w5)] := fun x y => upd_head hc
  clear G0
  have hg2 : g ≤ AH.length := by omega
  have hKl : (AH ++ row ++ [endT]).length = AH.length + row.length + 1 := by simp; omega
  repeat (walk_at "sol")
  refine x_for (fun i (ρ' : List (Str × PV)) (σ' : Sig) => ρ' = ([("cursor", .ref c), ("due", duePV due), ("spans", .list (sp.map spPV)), ("end", .int e), ("is_due", .bool b), ("gone", .int g), ("ahead", pairs AH)] : List (Str × PV)) ∧ σ' = [(c, curC T d ps i 0), (a, w5)] ∧ i ≤ g) ?_ (fun _ => rfl)
  refine ie_range (y := "") ?_ H.no_range rfl rfl rfl rfl rfl
  repeat (walk_at "sol")
  refine ⟨g, rfl, by omega, ⟨_, Sub.cons rfl (Sub.cons rfl (Sub.cons rfl (Sub.cons rfl (Sub.cons rfl (Sub.cons rfl (Sub.cons rfl .nil)))))), rfl, rfl, Nat.zero_le _⟩, ?_, ?_⟩
  · rintro i q' _ σ' hq ⟨rfl, h, hi⟩
    subst σ'
    have hi : i < g := by
      have := (List.getElem?_eq_some_iff.mp hq).1
      simpa using this
    have G' := G i
    obtain ⟨x', y', z', e'⟩ : ∃ x y z, (AH ++ row ++ [endT]).drop i = x :: y :: z := by
      have h1 : i < (AH ++ row ++ [endT]).length := by omega
      have h2 : i + 1 < (AH ++ row ++ [endT]).length := by omega
      rw [List.drop_eq_getElem_cons h1, List.drop_eq_getElem_cons h2]
      exact ⟨_, _, _, rfl⟩
    refine ⟨_, as_name rfl rfl, ?_⟩
    refine x_expr ?_ rfl rfl
    walk_at "cur"
    repeat (walk_at "sol")
    refine (fn_take (n := 13) (by omega) H G' e').mono ?_
    rintro _ σ' ⟨_, h⟩
    subst σ'
    rw [hup]
    repeat (walk_at "sol")
    exact ⟨_, Sub.cons rfl (Sub.cons rfl (Sub.cons rfl (Sub.cons rfl (Sub.cons rfl (Sub.cons rfl (Sub.cons rfl .nil)))))), rfl, rfl, by omega⟩
  rintro ρ1 σ' ⟨rfl, h, _⟩
  subst σ'
  rw [List.length_map, List.length_range]
  have G1 := G g
  repeat (walk_at "sol")
  refine cv_len_list (by rw [List.length_map]; omega) ?_
  rw [List.length_map]
  repeat (walk_at "sol")
  obtain ⟨far, hfar⟩ : ∃ far : Nat, AH.length = g + far := ⟨AH.length - g, by omega⟩
  rw [show ((AH.length : Int) - (g : Int)) = (far : Int) by omega]
  have hd : (AH ++ row ++ [endT]).drop (g + far) = row ++ [endT] := by rw [← hfar, List.append_assoc, List.drop_left]
  have he := ends_app row
  obtain ⟨o, hE, heo⟩ := F.eot
  refine ta_or (tb_cmp (ev_def H.fBegins ?_ rfl rfl rfl rfl (by simp)) rfl)
  repeat (walk_at "sol")
  refine (fn_begins (n := 13) (by omega) H G1 hd he F.beg).mono ?_
  rintro _ σ' ⟨rfl, h⟩
  subst σ'
  repeat (walk_at "sol")
  rw [beq_self_eq_true]
  refine ⟨fun _ => ?_, fun h => (by cases h)⟩
  refine ta_or (tb_cmp (ev_def H.fEot ?_ rfl rfl rfl rfl (by simp)) rfl)
  repeat (walk_at "sol")
  refine (fn_eot (n := 13) (by omega) H G1 hd he hE).mono ?_
  rintro _ σ' ⟨rfl, h⟩
  subst σ'
  refine EV.mono (K := fun p σ' => p = .int (at_ far o) ∧ σ' = [(c, curC T d ps g 0), (a, w5)]) (ev_if ?_) ?_
  · repeat (walk_at "sol")
    refine ⟨fun h => ?_, fun h => ?_⟩
    · repeat (walk_at "sol")
      refine ⟨?_, rfl⟩
      have h := of_decide_eq_true h
      cases o with
      | none => rw [heo] at h; exact absurd h (by decide)
      | some j =>
        have : e = (j : Int) := by rw [heo]; show ((0 + j : Nat) : Int) = _; rw [Nat.zero_add]
        rw [this]; rfl
    · repeat (walk_at "sol")
      refine ⟨?_, rfl⟩
      have h := of_decide_eq_false h
      cases o with
      | none => rfl
      | some j =>
        have : e = (j : Int) := by rw [heo]; show ((0 + j : Nat) : Int) = _; rw [Nat.zero_add]
        omega
  rintro _ σ' ⟨rfl, h⟩
  subst σ'
  repeat (walk_at "sol")
  rw [bne_self_eq_false]
  refine ⟨fun _ => ta_or_nil ⟨fun h => (by cases h), fun _ => ?_⟩, fun h => (by cases h)⟩
  repeat (walk_at "sol")
  refine x_for (fun i (ρ' : List (Str × PV)) (σ' : Sig) => ρ' = ([("far", .int far), ("cursor", .ref c), ("due", duePV due), ("spans", .list (sp.map spPV)), ("end", .int e), ("gone", .int g)] : List (Str × PV)) ∧ σ' = [(c, curC T d ps g 0), (a, w5)]) ?_ (fun _ => rfl)
  refine ie_list ?_ plainly_tuple
  repeat (walk_at "sol")
  refine ⟨_, rfl, ⟨_, Sub.cons rfl (Sub.cons rfl (Sub.cons rfl (Sub.cons rfl (Sub.cons rfl (Sub.cons rfl .nil))))), rfl, rfl⟩, ?_, ?_⟩
  · rintro i q' _ σ' hq ⟨rfl, h⟩
    subst σ'
    rw [List.getElem?_map] at hq
    obtain ⟨pp, hpp, rfl⟩ := Option.map_eq_some_iff.mp hq
    obtain ⟨i', o', hp1, hp2, hil, hob⟩ := F.spans pp (List.mem_of_getElem? hpp)
    obtain ⟨y1, y2⟩ := pp
    simp only at hp1 hp2
    subst hp1
    refine ⟨_, as_tuple (ass_cons (as_name rfl rfl) (ass_cons (as_name rfl rfl) ass_nil)) rfl rfl, ?_⟩
    refine x_if (tb_cmp (ev_def H.fEob ?_ rfl rfl rfl rfl (by simp)) rfl)
    repeat (walk_at "sol")
    refine (fn_eob (n := 13) (k := far + i') (by omega) H G1 (l := (row ++ [endT]).drop i') (by rw [← Nat.add_assoc, ← List.drop_drop, hd]) (ends_drop he hil)).mono ?_
    rintro _ σ' ⟨rfl, h⟩
    subst σ'
    rw [hob]
    refine EV.mono (K := fun p σ' => p = .int (at_ (far + i') o') ∧ σ' = [(c, curC T d ps g 0), (a, w5)]) (ev_if ?_) ?_
    · repeat (walk_at "sol")
      refine ⟨fun h => ?_, fun h => ?_⟩
      · repeat (walk_at "sol")
        refine ⟨?_, rfl⟩
        have h : (0 : Int) ≤ y2 := of_decide_eq_true h
        cases o' with
        | none => have hy : y2 = -1 := hp2; omega
        | some j => show PV.int ((far : Int) + y2) = _; rw [hp2]; show PV.int ((far : Int) + ((i' + j : Nat) : Int)) = PV.int ((far + i' + j : Nat) : Int); congr 1; omega
      · repeat (walk_at "sol")
        refine ⟨?_, rfl⟩
        have h : ¬ (0 : Int) ≤ y2 := of_decide_eq_false h
        cases o' with
        | none => rfl
        | some j => have hy : y2 = ((i' + j : Nat) : Int) := hp2; omega
    rintro _ σ' ⟨rfl, h⟩
    subst σ'
    repeat (walk_at "sol")
    rw [bne_self_eq_false]
    refine ⟨fun h => (by cases h), fun _ => ?_⟩
    repeat (walk_at "sol")
    exact ⟨_, Sub.cons rfl (Sub.cons rfl (Sub.cons rfl (Sub.cons rfl (Sub.cons rfl (Sub.cons rfl .nil))))), rfl, rfl⟩
  rintro ρ1 σ' ⟨rfl, h⟩
  subst σ'
  repeat (walk_at "sol")
  rw [bne_self_eq_false]
  refine ⟨fun h => (by cases h), fun _ => ?_⟩
  repeat (walk_at "sol")
  refine ev_or (ev_cmp ?_ rfl)
  repeat (walk_at "sol")
  cases due with
  | none =>
    refine ⟨fun h => (by cases h), fun _ => ?_⟩
    repeat (walk_at "sol")
    rfl
  | some dd =>
    obtain ⟨nm, place, own⟩ := dd
    obtain ⟨j, Fs, t0, r0, bb, v, w', r', hl, hmp, hN, hj, hF, hz, hown, hv, hbb, hk, hee⟩ := (F.read nm place own rfl).ex
    subst hee
    refine ⟨fun _ => ?_, fun h => (by cases h)⟩
    refine ev_def H.gRead ?_ rfl rfl rfl rfl (by simp)
    repeat (walk_at "sol")
    refine (fn_isRead (n := 13) (by omega) H G1 hd hl hmp hN hj hF hz hown hv hbb (by rw [List.length_map]; exact hk) (by omega)).mono ?_
    rintro _ σ' rfl
    repeat (walk_at "sol")
    rfl
end

section
section
variable {prog : Program} {w : World} {K : Frag} {h₀ : Heap} {mg mb : Str → Option Value} {g₀ : Array GenState} {os₀ : OsState}
theorem fnAt_of (X : K.In h₀) {f : Addr} {cls : Value} {dd : Option Addr} {sl : Array (Option Value)} {name qual : Str} {params : Arguments} {body : List Stmt} {scope : Scope} {kV doc pm cdv ct : Value} {an : Option Addr}
    (ho : K.lookup f = some ⟨cls, dd, .func (fnOf name qual params body scope .none kV doc pm an cdv ct), sl⟩) (hcd : codeIn K cdv qual = true) : FnAt ⟨prog, w, K, h₀, mg, mb, g₀, os₀⟩ f params body scope [] :=
  ⟨⟨_, name, qual, .none, kV, doc, pm, an, cdv, ct, X _ _ ho, rfl, codeRec_of X hcd, fun _ => rfl, fun h => absurd rfl h⟩⟩
theorem fnAt_dfl (X : K.In h₀) {f : Addr} {cls : Value} {dd : Option Addr} {sl : Array (Option Value)} {name qual : Str} {params : Arguments} {body : List Stmt} {scope : Scope} {kV doc pm cdv ct : Value} {an : Option Addr} {D : Addr} {t : Tok} {n : Nat} {cls' : Value} {dd' : Option Addr} {sl' : Array (Option Value)}
    (ho : K.lookup f = some ⟨cls, dd, .func (fnOf name qual params body scope (.ref D) kV doc pm an cdv ct), sl⟩) (hcd : codeIn K cdv qual = true) (hD : K.lookup D = some ⟨cls', dd', .seq #[.int 0 t] n, sl'⟩) : FnAt ⟨prog, w, K, h₀, mg, mb, g₀, os₀⟩ f params body scope [.int 0 t] :=
  ⟨⟨_, name, qual, .ref D, kV, doc, pm, an, cdv, ct, X _ _ ho, rfl, codeRec_of X hcd, fun h => (by cases h), fun _ => ⟨D, _, n, rfl, X _ _ hD, rfl⟩⟩⟩
theorem datStr (X : K.In h₀) (G : h₀.Ns mainGlobals mg) {x y : Str} {t : Tok} (e : nsIn K mainGlobals x = some (some (.str y t))) : DatAt ⟨prog, w, K, h₀, mg, mb, g₀, os₀⟩ x (.str y) := ⟨_, mg_of X G e, t, rfl⟩
theorem datInt (X : K.In h₀) (G : h₀.Ns mainGlobals mg) {x : Str} {i : Int} {t : Tok} (e : nsIn K mainGlobals x = some (some (.int i t))) : DatAt ⟨prog, w, K, h₀, mg, mb, g₀, os₀⟩ x (.int i) := ⟨_, mg_of X G e, t, rfl⟩
theorem datTup (X : K.In h₀) (G : h₀.Ns mainGlobals mg) {x : Str} {a : Addr} {vs : List Value} {n : Nat} {ps : List PV} (e : nsIn K mainGlobals x = some (some (.ref a))) (ho : K.lookup a = some (tpO vs n)) (r : RepL (ice0 ⟨prog, w, K, h₀, mg, mb, g₀, os₀⟩) ps vs) : DatAt ⟨prog, w, K, h₀, mg, mb, g₀, os₀⟩ x (.tup ps) :=
  ⟨_, mg_of X G e, a, vs, n, rfl, X _ _ ho, r⟩
theorem repL_str {W : Ice} {x : Str} {t : Tok} {ps : List PV} {vs : List Value} (r : RepL W ps vs) : RepL W (.str x :: ps) (.str x t :: vs) := .cons ⟨t, rfl⟩ r
theorem repL_pair (X : K.In h₀) {x y : Str} {t u : Tok} {a : Addr} {n : Nat} {ps : List PV} {vs : List Value} (ho : K.lookup a = some (tpO [.str x t, .str y u] n)) (r : RepL (ice0 ⟨prog, w, K, h₀, mg, mb, g₀, os₀⟩) ps vs) : RepL (ice0 ⟨prog, w, K, h₀, mg, mb, g₀, os₀⟩) (.tup [.str x, .str y] :: ps) (.ref a :: vs) :=
  .cons ⟨a, _, n, rfl, X _ _ ho, repL_str (repL_str rfl)⟩ r
theorem defAt_of (X : K.In h₀) (G : h₀.Ns mainGlobals mg) {x : Str} {a : Addr} {s : Stmt} (e : nsIn K mainGlobals x = some (some (.ref a))) (k : keepIn K (.ref a) = true) (F : FnAt ⟨prog, w, K, h₀, mg, mb, g₀, os₀⟩ a (fPar s) (fBody s) (fScope s) []) : DefAt ⟨prog, w, K, h₀, mg, mb, g₀, os₀⟩ a x s := ⟨mg_of X G e, k, F⟩
theorem plain_of {c : Addr} (h1 : findIn K (.ref c) "__getattribute__" = some (some (.builtin "object.__getattribute__"))) (h2 : findIn K (.ref c) "__getattr__" = some none) (h3 : findIn K (.ref c) "__setattr__" = some (some (.builtin "object.__setattr__")))
    (h4 : plainOver K c = true) (h5 : hasDictIn K c = true) : Plain ⟨prog, w, K, h₀, mg, mb, g₀, os₀⟩ c := ⟨h1, h2, h3, h4, h5⟩
theorem cls_of {c i : Addr} (h1 : makesIn K c = true) (h2 : findIn K (.ref c) "__init__" = some (some (.ref i))) (h3 : typeIn K (.ref i) = some (.type "function")) (h4 : keepIn K (.ref c) = true) : Cls ⟨prog, w, K, h₀, mg, mb, g₀, os₀⟩ c i := ⟨h1, h2, h3, h4⟩
theorem clsAt_of (X : K.In h₀) (G : h₀.Ns mainGlobals mg) {x : Str} {c i : Addr} {s : Stmt} (e : nsIn K mainGlobals x = some (some (.ref c))) (P : Plain ⟨prog, w, K, h₀, mg, mb, g₀, os₀⟩ c) (D : Cls ⟨prog, w, K, h₀, mg, mb, g₀, os₀⟩ c i) (F : FnAt ⟨prog, w, K, h₀, mg, mb, g₀, os₀⟩ i (fPar s) (fBody s) (fScope s) []) : ClsAt ⟨prog, w, K, h₀, mg, mb, g₀, os₀⟩ c i x s := ⟨mg_of X G e, P, D, F⟩
theorem field_of {c : Addr} {x : Str} (h1 : findIn K (.ref c) x = some none) (h2 : takerIn K c x = some none) : Field ⟨prog, w, K, h₀, mg, mb, g₀, os₀⟩ c x := ⟨h1, h2⟩
theorem meth_of {c f : Addr} {x : Str} {s : Stmt} {dfl : List Value} (h1 : findIn K (.ref c) x = some (some (.ref f))) (h2 : typeIn K (.ref f) = some (.type "function")) (h3 : keepIn K (.ref f) = true) (F : FnAt ⟨prog, w, K, h₀, mg, mb, g₀, os₀⟩ f (fPar s) (fBody s) (fScope s) dfl) : MethAt ⟨prog, w, K, h₀, mg, mb, g₀, os₀⟩ c f x s dfl := ⟨⟨h1, h2, h3⟩, F⟩
end
theorem fields4 {C : Cx} {c : Addr} {a b d e : Str} (h1 : Field C c a) (h2 : Field C c b) (h3 : Field C c d) (h4 : Field C c e) : ∀ x ∈ [a, b, d, e], Field C c x := by
  intro x hx
  simp only [List.mem_cons, List.not_mem_nil, or_false] at hx
  rcases hx with rfl | rfl | rfl | rfl <;> assumption
theorem fields6 {C : Cx} {c : Addr} {a b d e f g : Str} (h1 : Field C c a) (h2 : Field C c b) (h3 : Field C c d) (h4 : Field C c e) (h5 : Field C c f) (h6 : Field C c g) : ∀ x ∈ [a, b, d, e, f, g], Field C c x := by
  intro x hx
  simp only [List.mem_cons, List.not_mem_nil, or_false] at hx
  rcases hx with rfl | rfl | rfl | rfl | rfl | rfl <;> assumption
theorem tab_mk {C : Cx} {aTok aSyn aCur iTok iSyn iCur mPeek mTake mLine mAt mBehind mAccept mExpect mEnter mLeave fNum fEle fIsEl fPath fNamed fTypeAt fType fPlace fEob fEot fBegins gWell gDraw gName gFill gPlain gShape gEnded gCase gLen gRead aE : Addr} {tP : Tok}
    (cTok : ClsAt C aTok iTok "Token" (inCls (stAt 7) 0))
    (cSyn : ClsAt C aSyn iSyn "Syn" (inCls (stAt 13) 0))
    (cCur : ClsAt C aCur iCur "Cursor" (inCls (stAt 32) 0))
    (hTok : ∀ x ∈ tokNs, Field C aTok x)
    (hSyn : ∀ x ∈ synNs, Field C aSyn x)
    (hCur : ∀ x ∈ curNs, Field C aCur x)
    (hmPeek : MethAt C aCur mPeek "peek" (inCls (stAt 32) 1) [.int 0 tP])
    (hmTake : MethAt C aCur mTake "take" (inCls (stAt 32) 2) [])
    (hmLine : MethAt C aCur mLine "line" (inCls (stAt 32) 3) [])
    (hmAt : MethAt C aCur mAt "at" (inCls (stAt 32) 4) [])
    (hmBehind : MethAt C aCur mBehind "is_behind" (inCls (stAt 32) 5) [])
    (hmAccept : MethAt C aCur mAccept "accept" (inCls (stAt 32) 6) [])
    (hmExpect : MethAt C aCur mExpect "expect" (inCls (stAt 32) 7) [])
    (hmEnter : MethAt C aCur mEnter "enter" (inCls (stAt 32) 10) [])
    (hmLeave : MethAt C aCur mLeave "leave" (inCls (stAt 32) 11) [])
    (hE : MethAt C aCur aE "expect_name" (inCls (stAt 32) 8) [])
    (hfNum : DefAt C fNum "number_in" (stAt 8))
    (hfEle : DefAt C fEle "elementary" (stAt 9))
    (hfIsEl : DefAt C fIsEl "is_elementary" (stAt 18))
    (hfPath : DefAt C fPath "read_path" (stAt 19))
    (hfNamed : DefAt C fNamed "read_named" (stAt 20))
    (hfTypeAt : DefAt C fTypeAt "type_at" (stAt 23))
    (hfType : DefAt C fType "read_type" (stAt 24))
    (hfPlace : DefAt C fPlace "read_place" (stAt 25))
    (hfEob : DefAt C fEob "end_of_brackets" (stAt 26))
    (hfEot : DefAt C fEot "end_of_type" (stAt 27))
    (hfBegins : DefAt C fBegins "begins_local" (stAt 28))
    (hgWell : DefAt C gWell "_law_well" (stAt 36))
    (hgDraw : DefAt C gDraw "_law_draw" (stAt 37))
    (hgName : DefAt C gName "_law_name" (stAt 38))
    (hgFill : DefAt C gFill "_law_filling" (stAt 39))
    (hgPlain : DefAt C gPlain "_law_plain" (stAt 40))
    (hgShape : DefAt C gShape "_law_shape" (stAt 41))
    (hgEnded : DefAt C gEnded "_law_ended" (stAt 42))
    (hgCase : DefAt C gCase "_law_case" (stAt 43))
    (hgLen : DefAt C gLen "_law_length" (stAt 44))
    (hgRead : DefAt C gRead "_law_is_read" (stAt 45))
    (no_len : C.mg "len" = none)
    (no_min : C.mg "min" = none)
    (no_int : C.mg "int" = none)
    (no_str : C.mg "str" = none)
    (no_range : C.mg "range" = none)
    (no_enumerate : C.mg "enumerate" = none)
    (hdDigits : DatAt C "DIGITS" (.str "0123456789"))
    (hdHeight : DatAt C "MOST_HEIGHT" (.int 120))
    (hdPlaces : DatAt C "PLACES" (.tup (placeL.map .str)))
    (hdDeepest : DatAt C "DEEPEST" (.int 25))
    (hdWords : DatAt C "WORDS" (.tup (wordL.map .str)))
    (hdNested : DatAt C "MOST_NESTED" (.int 80))
    (hdSigns : DatAt C "_law_signs" (.tup (signL.map .str)))
    (hdFirsts : DatAt C "_law_firsts" (.tup (firstL.map fun p => .tup [.str p.1, .str p.2]))) : ∃ T, Tab C T :=
  ⟨⟨aTok, aSyn, aCur, iTok, iSyn, iCur, mPeek, mTake, mLine, mAt, mBehind, mAccept, mExpect, mEnter, mLeave, fNum, fEle, fIsEl, fPath, fNamed, fTypeAt, fType, fPlace, fEob, fEot, fBegins, gWell, gDraw, gName, gFill, gPlain, gShape, gEnded, gCase, gLen, gRead, tP⟩,
   { cTok := cTok, cSyn := cSyn, cCur := cCur, fTok := hTok, fSyn := hSyn, fCur := hCur, mPeek := hmPeek, mTake := hmTake, mLine := hmLine, mAt := hmAt, mBehind := hmBehind, mAccept := hmAccept, mExpect := hmExpect, mEnter := hmEnter, mLeave := hmLeave, mExpName := ⟨aE, hE⟩, fNum := hfNum, fEle := hfEle, fIsEl := hfIsEl, fPath := hfPath, fNamed := hfNamed, fTypeAt := hfTypeAt, fType := hfType, fPlace := hfPlace, fEob := hfEob, fEot := hfEot, fBegins := hfBegins, gWell := hgWell, gDraw := hgDraw, gName := hgName, gFill := hgFill, gPlain := hgPlain, gShape := hgShape, gEnded := hgEnded, gCase := hgCase, gLen := hgLen, gRead := hgRead, no_len := no_len, no_min := no_min, no_int := no_int, no_str := no_str, no_range := no_range, no_enumerate := no_enumerate, dDigits := hdDigits, dHeight := hdHeight, dPlaces := hdPlaces, dDeepest := hdDeepest, dWords := hdWords, dNested := hdNested, dSigns := hdSigns, dFirsts := hdFirsts }⟩
end

section
section
variable {prog : Program} {w : World} {h₀ : Heap} {mg mb : Str → Option Value} {g₀ : Array GenState} {os₀ : OsState}
theorem fn_k {K : Frag} (X : K.In h₀) {f : Addr} {o : Obj} {name qual : Str} {params : Arguments} {body : List Stmt} {scope : Scope} {kV doc pm cdv ct : Value} {an : Option Addr}
    (ho : K.lookup f = some o) (hd : o.data = .func (fnOf name qual params body scope .none kV doc pm an cdv ct)) (hcd : codeIn K cdv qual = true) : FnAt ⟨prog, w, K, h₀, mg, mb, g₀, os₀⟩ f params body scope [] :=
  ⟨⟨o, name, qual, .none, kV, doc, pm, an, cdv, ct, X _ _ ho, hd, codeRec_of X hcd, fun _ => rfl, fun h => absurd rfl h⟩⟩
theorem fn_kd {K : Frag} (X : K.In h₀) {f : Addr} {o oD : Obj} {name qual : Str} {params : Arguments} {body : List Stmt} {scope : Scope} {kV doc pm cdv ct : Value} {an : Option Addr} {D : Addr} {t : Tok} {n : Nat}
    (ho : K.lookup f = some o) (hd : o.data = .func (fnOf name qual params body scope (.ref D) kV doc pm an cdv ct)) (hcd : codeIn K cdv qual = true) (hD : K.lookup D = some oD) (hs : oD.data = .seq #[.int 0 t] n) : FnAt ⟨prog, w, K, h₀, mg, mb, g₀, os₀⟩ f params body scope [.int 0 t] :=
  ⟨⟨o, name, qual, .ref D, kV, doc, pm, an, cdv, ct, X _ _ ho, hd, codeRec_of X hcd, fun h => (by cases h), fun _ => ⟨D, _, n, rfl, X _ _ hD, hs⟩⟩⟩
end
theorem my_tab {prog : Program} {w : World} {h₀ : Heap} {mg mb : Str → Option Value} {g₀ : Array GenState} {os₀ : OsState} (X : (myK w.params).In h₀) (G : h₀.Ns mainGlobals mg) :
    ∃ T, Tab ⟨prog, w, myK w.params, h₀, mg, mb, g₀, os₀⟩ T := by
  refine tab_mk
    (clsAt_of (c := 89) (i := 86) X G (by kernel_rfl) (plain_of (by kernel_rfl) (by kernel_rfl) (by kernel_rfl) (by kernel_rfl) (by kernel_rfl)) (cls_of (by kernel_rfl) (by kernel_rfl) (by kernel_rfl) (by kernel_rfl)) (fn_k (o := o86) (cdv := .ref 85) (qual := "Token.__init__") X (by kernel_rfl) rfl (by kernel_rfl)))
    (clsAt_of (c := 123) (i := 120) X G (by kernel_rfl) (plain_of (by kernel_rfl) (by kernel_rfl) (by kernel_rfl) (by kernel_rfl) (by kernel_rfl)) (cls_of (by kernel_rfl) (by kernel_rfl) (by kernel_rfl) (by kernel_rfl)) (fn_k (o := o120) (cdv := .ref 119) (qual := "Syn.__init__") X (by kernel_rfl) rfl (by kernel_rfl)))
    (clsAt_of (c := 311) (i := 223) X G (by kernel_rfl) (plain_of (by kernel_rfl) (by kernel_rfl) (by kernel_rfl) (by kernel_rfl) (by kernel_rfl)) (cls_of (by kernel_rfl) (by kernel_rfl) (by kernel_rfl) (by kernel_rfl)) (fn_k (o := o223) (cdv := .ref 222) (qual := "Cursor.__init__") X (by kernel_rfl) rfl (by kernel_rfl)))
    (fields4 (field_of (by kernel_rfl) (by kernel_rfl)) (field_of (by kernel_rfl) (by kernel_rfl)) (field_of (by kernel_rfl) (by kernel_rfl)) (field_of (by kernel_rfl) (by kernel_rfl)))
    (fields6 (field_of (by kernel_rfl) (by kernel_rfl)) (field_of (by kernel_rfl) (by kernel_rfl)) (field_of (by kernel_rfl) (by kernel_rfl)) (field_of (by kernel_rfl) (by kernel_rfl)) (field_of (by kernel_rfl) (by kernel_rfl)) (field_of (by kernel_rfl) (by kernel_rfl)))
    (fields4 (field_of (by kernel_rfl) (by kernel_rfl)) (field_of (by kernel_rfl) (by kernel_rfl)) (field_of (by kernel_rfl) (by kernel_rfl)) (field_of (by kernel_rfl) (by kernel_rfl)))
    (meth_of (f := 231) (by kernel_rfl) (by kernel_rfl) (by kernel_rfl) (fn_kd (o := o231) (oD := o224) (cdv := .ref 230) (qual := "Cursor.peek") X (by kernel_rfl) rfl (by kernel_rfl) (by kernel_rfl) rfl))
    (meth_of (f := 238) (by kernel_rfl) (by kernel_rfl) (by kernel_rfl) (fn_k (o := o238) (cdv := .ref 237) (qual := "Cursor.take") X (by kernel_rfl) rfl (by kernel_rfl)))
    (meth_of (f := 245) (by kernel_rfl) (by kernel_rfl) (by kernel_rfl) (fn_k (o := o245) (cdv := .ref 244) (qual := "Cursor.line") X (by kernel_rfl) rfl (by kernel_rfl)))
    (meth_of (f := 252) (by kernel_rfl) (by kernel_rfl) (by kernel_rfl) (fn_k (o := o252) (cdv := .ref 251) (qual := "Cursor.at") X (by kernel_rfl) rfl (by kernel_rfl)))
    (meth_of (f := 259) (by kernel_rfl) (by kernel_rfl) (by kernel_rfl) (fn_k (o := o259) (cdv := .ref 258) (qual := "Cursor.is_behind") X (by kernel_rfl) rfl (by kernel_rfl)))
    (meth_of (f := 266) (by kernel_rfl) (by kernel_rfl) (by kernel_rfl) (fn_k (o := o266) (cdv := .ref 265) (qual := "Cursor.accept") X (by kernel_rfl) rfl (by kernel_rfl)))
    (meth_of (f := 273) (by kernel_rfl) (by kernel_rfl) (by kernel_rfl) (fn_k (o := o273) (cdv := .ref 272) (qual := "Cursor.expect") X (by kernel_rfl) rfl (by kernel_rfl)))
    (meth_of (f := 294) (by kernel_rfl) (by kernel_rfl) (by kernel_rfl) (fn_k (o := o294) (cdv := .ref 293) (qual := "Cursor.enter") X (by kernel_rfl) rfl (by kernel_rfl)))
    (meth_of (f := 301) (by kernel_rfl) (by kernel_rfl) (by kernel_rfl) (fn_k (o := o301) (cdv := .ref 300) (qual := "Cursor.leave") X (by kernel_rfl) rfl (by kernel_rfl)))
    (meth_of (f := 280) (by kernel_rfl) (by kernel_rfl) (by kernel_rfl) (fn_k (o := o280) (cdv := .ref 279) (qual := "Cursor.expect_name") X (by kernel_rfl) rfl (by kernel_rfl)))
    (defAt_of (a := 98) X G (by kernel_rfl) (by kernel_rfl) (fn_k (o := o98) (cdv := .ref 97) (qual := "number_in") X (by kernel_rfl) rfl (by kernel_rfl)))
    (defAt_of (a := 105) X G (by kernel_rfl) (by kernel_rfl) (fn_k (o := o105) (cdv := .ref 104) (qual := "elementary") X (by kernel_rfl) rfl (by kernel_rfl)))
    (defAt_of (a := 140) X G (by kernel_rfl) (by kernel_rfl) (fn_k (o := o140) (cdv := .ref 139) (qual := "is_elementary") X (by kernel_rfl) rfl (by kernel_rfl)))
    (defAt_of (a := 147) X G (by kernel_rfl) (by kernel_rfl) (fn_k (o := o147) (cdv := .ref 146) (qual := "read_path") X (by kernel_rfl) rfl (by kernel_rfl)))
    (defAt_of (a := 154) X G (by kernel_rfl) (by kernel_rfl) (fn_k (o := o154) (cdv := .ref 153) (qual := "read_named") X (by kernel_rfl) rfl (by kernel_rfl)))
    (defAt_of (a := 175) X G (by kernel_rfl) (by kernel_rfl) (fn_k (o := o175) (cdv := .ref 174) (qual := "type_at") X (by kernel_rfl) rfl (by kernel_rfl)))
    (defAt_of (a := 182) X G (by kernel_rfl) (by kernel_rfl) (fn_k (o := o182) (cdv := .ref 181) (qual := "read_type") X (by kernel_rfl) rfl (by kernel_rfl)))
    (defAt_of (a := 189) X G (by kernel_rfl) (by kernel_rfl) (fn_k (o := o189) (cdv := .ref 188) (qual := "read_place") X (by kernel_rfl) rfl (by kernel_rfl)))
    (defAt_of (a := 196) X G (by kernel_rfl) (by kernel_rfl) (fn_k (o := o196) (cdv := .ref 195) (qual := "end_of_brackets") X (by kernel_rfl) rfl (by kernel_rfl)))
    (defAt_of (a := 203) X G (by kernel_rfl) (by kernel_rfl) (fn_k (o := o203) (cdv := .ref 202) (qual := "end_of_type") X (by kernel_rfl) rfl (by kernel_rfl)))
    (defAt_of (a := 208) X G (by kernel_rfl) (by kernel_rfl) (fn_k (o := o208) (cdv := .ref 207) (qual := "begins_local") X (by kernel_rfl) rfl (by kernel_rfl)))
    (defAt_of (a := 333) X G (by kernel_rfl) (by kernel_rfl) (fn_k (o := o333) (cdv := .ref 332) (qual := "_law_well") X (by kernel_rfl) rfl (by kernel_rfl)))
    (defAt_of (a := 340) X G (by kernel_rfl) (by kernel_rfl) (fn_k (o := o340) (cdv := .ref 339) (qual := "_law_draw") X (by kernel_rfl) rfl (by kernel_rfl)))
    (defAt_of (a := 347) X G (by kernel_rfl) (by kernel_rfl) (fn_k (o := o347) (cdv := .ref 346) (qual := "_law_name") X (by kernel_rfl) rfl (by kernel_rfl)))
    (defAt_of (a := 354) X G (by kernel_rfl) (by kernel_rfl) (fn_k (o := o354) (cdv := .ref 353) (qual := "_law_filling") X (by kernel_rfl) rfl (by kernel_rfl)))
    (defAt_of (a := 359) X G (by kernel_rfl) (by kernel_rfl) (fn_k (o := o359) (cdv := .ref 358) (qual := "_law_plain") X (by kernel_rfl) rfl (by kernel_rfl)))
    (defAt_of (a := 366) X G (by kernel_rfl) (by kernel_rfl) (fn_k (o := o366) (cdv := .ref 365) (qual := "_law_shape") X (by kernel_rfl) rfl (by kernel_rfl)))
    (defAt_of (a := 373) X G (by kernel_rfl) (by kernel_rfl) (fn_k (o := o373) (cdv := .ref 372) (qual := "_law_ended") X (by kernel_rfl) rfl (by kernel_rfl)))
    (defAt_of (a := 380) X G (by kernel_rfl) (by kernel_rfl) (fn_k (o := o380) (cdv := .ref 379) (qual := "_law_case") X (by kernel_rfl) rfl (by kernel_rfl)))
    (defAt_of (a := 387) X G (by kernel_rfl) (by kernel_rfl) (fn_k (o := o387) (cdv := .ref 386) (qual := "_law_length") X (by kernel_rfl) rfl (by kernel_rfl)))
    (defAt_of (a := 394) X G (by kernel_rfl) (by kernel_rfl) (fn_k (o := o394) (cdv := .ref 393) (qual := "_law_is_read") X (by kernel_rfl) rfl (by kernel_rfl)))
    (mg_none_of X G (by kernel_rfl))
    (mg_none_of X G (by kernel_rfl))
    (mg_none_of X G (by kernel_rfl))
    (mg_none_of X G (by kernel_rfl))
    (mg_none_of X G (by kernel_rfl))
    (mg_none_of X G (by kernel_rfl))
    (datStr (t := 269) X G (by kernel_rfl))
    (datInt (t := 322) X G (by kernel_rfl))
    (datTup (a := 133) (vs := [.str "storage" 391, .str "memory" 392, .str "calldata" 393]) (n := 0) X G (by kernel_rfl) (by kernel_rfl) (repL_str (repL_str (repL_str rfl))))
    (datInt (t := 395) X G (by kernel_rfl))
    (datTup (a := 209) (vs := [.str "name" 498, .str "keyword" 499, .str "sign" 500]) (n := 0) X G (by kernel_rfl) (by kernel_rfl) (repL_str (repL_str (repL_str rfl))))
    (datInt (t := 502) X G (by kernel_rfl))
    (datTup (a := 316) (vs := [.str "=" 634, .str "(" 635, .str ")" 636, .str "+=" 637, .str "++" 638, .str ";" 639, .str "?" 640, .str "," 641, .str "=>" 642]) (n := 0) X G (by kernel_rfl) (by kernel_rfl) (repL_str (repL_str (repL_str (repL_str (repL_str (repL_str (repL_str (repL_str (repL_str rfl))))))))))
    (datTup (a := 328) (vs := [.ref 317, .ref 318, .ref 319, .ref 320, .ref 321, .ref 322, .ref 323, .ref 324, .ref 325, .ref 326, .ref 327]) (n := 0) X G (by kernel_rfl) (by kernel_rfl) (repL_pair (a := 317) (t := 644) (u := 645) (n := 0) X (by kernel_rfl) (repL_pair (a := 318) (t := 646) (u := 647) (n := 0) X (by kernel_rfl) (repL_pair (a := 319) (t := 648) (u := 649) (n := 0) X (by kernel_rfl) (repL_pair (a := 320) (t := 650) (u := 651) (n := 0) X (by kernel_rfl) (repL_pair (a := 321) (t := 652) (u := 653) (n := 0) X (by kernel_rfl) (repL_pair (a := 322) (t := 654) (u := 655) (n := 0) X (by kernel_rfl) (repL_pair (a := 323) (t := 656) (u := 657) (n := 0) X (by kernel_rfl) (repL_pair (a := 324) (t := 658) (u := 659) (n := 0) X (by kernel_rfl) (repL_pair (a := 325) (t := 660) (u := 661) (n := 0) X (by kernel_rfl) (repL_pair (a := 326) (t := 662) (u := 663) (n := 0) X (by kernel_rfl) (repL_pair (a := 327) (t := 664) (u := 665) (n := 0) X (by kernel_rfl) rfl))))))))))))
end

section
theorem finish {C : Cx} (ok : C.Ok) (HT : ∃ T, Tab C T) {xs : List Int} (hx : xs.length ≤ 63) {A : Around} (hA1 : A.depth + 4 * 13 < recursionLimit) (hA2 : A.units + 12 * 13 < cLine) (hA3 : A.handled = none)
    {L f : Addr} {cd : Value} {name : Str} {vs : List Value} {la : Addr} {y : Str} (hy : y = "script") {s : Shared} (F : Fr C.h₀ L s.heap (fun x => List.lookup x [(y, Value.ref la)].reverse)) (hL : C.h₀.IsList la vs.toArray) (hI : IntsAre vs xs)
    (hg : s.gens = C.g₀) (ho : s.os = C.os₀) {sc : Scope} {bo : List Stmt} (hb : bo = fBody (stAt 46)) (hs : sc = fScope (stAt 46)) {Q : Flow → Shared → Prop} {E : Value → Shared → Prop}
    (hQ : ∀ s' : Shared, (∀ b o, C.h₀.get? b = some o → s'.heap.get? b = some o) → s'.gens = C.g₀ → s'.os = C.os₀ → Q (.ret (.bool true)) s') : wpAny (model C.prog C.w) A (execs bo (envOf name sc L f cd)) Q E s := by
  obtain ⟨T, H⟩ := HT
  subst hy
  have B := law_body H hx hL hI hb hs L f (name ++ ".<locals>.") cd
  have I : Inv C (ice0 C) [] s := ⟨ok, F.keep, fun _ _ h => h, fun _ h => (by cases h), List.nodup_nil, fun _ _ _ h => (by cases h), hg, ho⟩
  have l : Loc (envOf name sc L f cd) [("script", .ref la)] (ice0 C) [] s := by
    refine ⟨⟨_, F.ns, fun x p e => ?_⟩, fun h => (by cases h), fun o h => ?_⟩
    · simp only [List.reverse_cons, List.reverse_nil, List.nil_append]
      rw [List.lookup_cons] at e ⊢
      split at e
      · cases e; exact ⟨_, rfl, rfl⟩
      · cases e
    · have h1 : L < C.h₀.objs.size := Heap.lt_size h
      exact absurd h1 (Nat.not_lt.mpr F.above)
  refine B A (ice0 C) s Q E ⟨hA1, hA2, hA3⟩ I l fun fl s' pf ρ' σ' W' hK I' st' l' hf => ?_
  rcases hK with ⟨p, rfl, rfl⟩ | ⟨_, h⟩
  · obtain ⟨v, rfl, rv⟩ := hf
    simp only [Rep] at rv; subst rv
    exact hQ s' I'.keep0 I'.gens I'.os
  · cases h
theorem finish2 {prog : Program} {w : World} {K : Frag} {h₀ : Heap} {mg mb : Str → Option Value} {g₀ : Array GenState} {os₀ : OsState} (X : K.In h₀) (G : h₀.Ns mainGlobals mg) (Bn : h₀.Ns builtinsNs mb)
    (hbu : ∀ x : Str, x ≠ "__name__" → mb x = bootBuiltins x) (hlim : h₀.NoLimit) (HT : ∃ T, Tab ⟨prog, w, K, h₀, mg, mb, g₀, os₀⟩ T) {xs : List Int} (hx : xs.length ≤ 63) {A : Around} (hA1 : A.depth + 4 * 13 < recursionLimit) (hA2 : A.units + 12 * 13 < cLine) (hA3 : A.handled = none)
    {L f : Addr} {cd : Value} {name : Str} {vs : List Value} {la : Addr} {y : Str} (hy : y = "script") {s : Shared} {h₁ : Heap} (F : Fr h₀ L h₁ (fun x => List.lookup x [(y, Value.ref la)].reverse)) (hL : h₀.IsList la vs.toArray) (hI : IntsAre vs xs)
    (hh : s.heap = h₁) (hg : s.gens = g₀) (ho : s.os = os₀) {sc : Scope} {bo : List Stmt} (hb : bo = fBody (stAt 46)) (hs : sc = fScope (stAt 46)) {Q : Flow → Shared → Prop} {E : Value → Shared → Prop}
    (hQ : ∀ s' : Shared, (∀ b o, h₀.get? b = some o → s'.heap.get? b = some o) → s'.gens = g₀ → s'.os = os₀ → Q (.ret (.bool true)) s') : wpAny (model prog w) A (execs bo (envOf name sc L f cd)) Q E s :=
  finish (C := ⟨prog, w, K, h₀, mg, mb, g₀, os₀⟩) ⟨X, G, Bn, hbu, hlim⟩ HT hx hA1 hA2 hA3 hy (hh ▸ F) hL hI hg ho hb hs hQ
end
end Sol

set_option maxRecDepth 100000 in
set_option maxHeartbeats 8000000 in
theorem PySem.Challenge.cw_sa0310_01_holds : PySem.Challenge.rw_sa0310_01.Holds := by
  w_on
  refine holds_law Sol.said fun said => ?_
  refine holds_open (q := Sol.qv) (loose := []) (Xt := fun s => xlAt Sol.qv [] s && recOk (RowW.records PySem.Challenge.rw_sa0310_01.row.toRowW) s) (XP := XL Sol.qv [])
    (Yf := Hook.obs (kHook Sol.myK Sol.myAt Sol.myAt_eq)) (Ya := Hook.val (kHook Sol.myK Sol.myAt Sol.myAt_eq)) (YP := Hook.says (kHook Sol.myK Sol.myAt Sol.myAt_eq)) (N := 5684) Sol.left
    (Hook.of (kHook Sol.myK Sol.myAt Sol.myAt_eq)) (Hook.keeps (kHook Sol.myK Sol.myAt Sol.myAt_eq)) (fun s e => xl_of s (Bool.and_eq_true_iff.mp e).1) XL.keeps (by rfl) (by rfl) (by rfl) (fun s e => recFacts_of (Bool.and_eq_true_iff.mp e).2) (by rfl) (by first | assumption | decide +kernel) (by decide +kernel) ⟨rfl, rfl, rfl, rfl, rfl, by decide +kernel⟩ ?hw ?hc
  all_goals clear said
  (case hw => w_witness2)
  intro w s₀ s₁ mg mb G Y fa o pm cd doc dV kV ho hd hcd hD hmg hg args vals as hpre hlay hrd hwl hlo
  have KX := kIn_of Y
  have X := (Ground.X G).1
  have V := (Ground.X G).2
  refine Ground.open G ?_
  intro T B D TE TW
  try (refine guard_noD D (by decide +kernel) ?_; clear D)
  have TA := at_of_top T
  try (obtain ⟨_, _, he, B0⟩ := based_of_top T rfl hmg ho hd; have he' : cd = _ := he; subst he'; clear he)
  clear hmg
  wrow_args hpre hlay hrd hwl hlo
  all_goals (
    first | refine callC_kw (enter_call ?_) | refine enter_call ?_
    w_top on
    try refine codeAny_mono ?_ (fun _ _ g => GoodW.toG g)
    w_call any ho hd hcd hD T F
    clear hd TA)
  rename_i b1 b2 xs hsp hlay0 hL1 hr1 hl2 q4 q3 la vs q0 hL ra w1 r0 hI hr hc1 hc2 h1 N0
  refine Sol.finish2 (prog := PySem.Challenge.rw_sa0310_01.row.prog) (w := w) (mb := mb) (g₀ := s₁.gens) (os₀ := s₁.os) (xs := xs) (vs := vs) (la := la) KX T.g T.b T.builtins T.nolimit (Sol.my_tab KX T.g) (by omega) ?hA1 ?hA2 ?hA3 rfl F hL hI ?hh ?hg ?ho ?hb ?hs ?hQ
  case hA1 => exact Nat.le_of_ble_eq_true rfl
  case hA2 => exact Nat.le_of_ble_eq_true rfl
  case hA3 => rfl
  case hh => rfl
  case hg => rfl
  case ho => rfl
  case hb => rfl
  case hs => rfl
  case hQ =>
    intro s' hk hg' ho'
    refine ⟨.inl ⟨.bool true, .bool true, [], rfl, fun _ => rfl, ReadsW.bool true, ?_, fun _ => ⟨List.nodup_nil, fun _ hm => (nomatch hm)⟩⟩, hk, ho', hg'.trans hg⟩
    first | rfl | wrow_post
