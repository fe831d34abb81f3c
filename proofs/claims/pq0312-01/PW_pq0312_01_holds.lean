import PyProof.Rows.All
import Wide.All
import OpenK.AllK
import Wide.FinOn
import Lean
import PySem.Challenge.RW_pq0312_01
set_option maxRecDepth 100000
set_option maxHeartbeats 4000000
open PySem PySem.W PySem.Calls PyProof.Rows
set_option Elab.async false
set_option linter.unusedVariables false
namespace Mine
noncomputable section
noncomputable def nth : List Stmt → Nat → Stmt
  | [], _ => default
  | s :: _, 0 => s
  | _ :: r, n + 1 => nth r n
noncomputable def stAt (i : Nat) : Stmt := nth PySem.Challenge.pw_pq0312_01.main.body i
noncomputable def classBody : Stmt → List Stmt
  | .ClassDef (body := b) .. => b
  | _ => []
noncomputable def memAt (i j : Nat) : Stmt := nth (classBody (stAt i)) j
noncomputable def fnData (s : Stmt) (qual : Str) (dV kV doc pm cdv ct : Value) : FuncData := match s with
  | .FunctionDef (name := name) (args := args) (body := body) (scope := scope) .. => { name, qualname := qual, params := args, body := .stmts body, scope, globals := mainGlobals, closure := [], defaults := dV, kwdefaults := kV, doc, pyModule := pm, annotations := none, code := cdv, closureTuple := ct, builtins := builtinsNs }
  | _ => default
noncomputable def o3 (P : Params) : Obj := ⟨(.type "dict"), none, (.dict ⟨(⟨PyData.keyHash P (Str.ofString "__name__"), (.str (Str.ofString "__name__") (nat_lit 165)), (.str (Str.ofString "law_pq0312_01") (nat_lit 1412))⟩ :: ⟨PyData.keyHash P (Str.ofString "__doc__"), (.str (Str.ofString "__doc__") (nat_lit 166)), .none⟩ :: ⟨PyData.keyHash P (Str.ofString "__package__"), (.str (Str.ofString "__package__") (nat_lit 167)), .none⟩ :: ⟨PyData.keyHash P (Str.ofString "__loader__"), (.str (Str.ofString "__loader__") (nat_lit 168)), (.builtin "__main__.__loader__#opaque")⟩ :: ⟨PyData.keyHash P (Str.ofString "__spec__"), (.str (Str.ofString "__spec__") (nat_lit 169)), .none⟩ :: ⟨PyData.keyHash P (Str.ofString "__annotations__"), (.str (Str.ofString "__annotations__") (nat_lit 170)), (.ref (nat_lit 6))⟩ :: ⟨PyData.keyHash P (Str.ofString "__builtins__"), (.str (Str.ofString "__builtins__") (nat_lit 171)), (.ref (nat_lit 4))⟩ :: ⟨PyData.keyHash P (Str.ofString "__file__"), (.str (Str.ofString "__file__") (nat_lit 173)), (.str (Str.ofString "/claim/cut.py") (nat_lit 172))⟩ :: ⟨PyData.keyHash P (Str.ofString "__cached__"), (.str (Str.ofString "__cached__") (nat_lit 174)), .none⟩ :: ⟨PyData.keyHash P (Str.ofString "_wall"), (.str (Str.ofString "_wall") (nat_lit 193)), (.ref (nat_lit 21))⟩ :: ⟨PyData.keyHash P (Str.ofString "downcase"), (.str (Str.ofString "downcase") (nat_lit 202)), (.ref (nat_lit 28))⟩ :: ⟨PyData.keyHash P (Str.ofString "upcase"), (.str (Str.ofString "upcase") (nat_lit 209)), (.ref (nat_lit 35))⟩ :: ⟨PyData.keyHash P (Str.ofString "fold"), (.str (Str.ofString "fold") (nat_lit 216)), (.ref (nat_lit 42))⟩ :: ⟨PyData.keyHash P (Str.ofString "is_upper"), (.str (Str.ofString "is_upper") (nat_lit 223)), (.ref (nat_lit 49))⟩ :: ⟨PyData.keyHash P (Str.ofString "is_lower"), (.str (Str.ofString "is_lower") (nat_lit 230)), (.ref (nat_lit 56))⟩ :: ⟨PyData.keyHash P (Str.ofString "LispSignal"), (.str (Str.ofString "LispSignal") (nat_lit 263)), (.ref (nat_lit 73))⟩ :: ⟨PyData.keyHash P (Str.ofString "LINE_FEED_regplaces"), (.str (Str.ofString "LINE_FEED_regplaces") (nat_lit 267)), (.int (10) (nat_lit 266))⟩ :: ⟨PyData.keyHash P (Str.ofString "is_word_at"), (.str (Str.ofString "is_word_at") (nat_lit 277)), (.ref (nat_lit 83))⟩ :: ⟨PyData.keyHash P (Str.ofString "is_symbol_at"), (.str (Str.ofString "is_symbol_at") (nat_lit 287)), (.ref (nat_lit 90))⟩ :: ⟨PyData.keyHash P (Str.ofString "is_bound"), (.str (Str.ofString "is_bound") (nat_lit 296)), (.ref (nat_lit 97))⟩ :: ⟨PyData.keyHash P (Str.ofString "holds_at"), (.str (Str.ofString "holds_at") (nat_lit 307)), (.ref (nat_lit 104))⟩ :: ⟨PyData.keyHash P (Str.ofString "CLASSES"), (.str (Str.ofString "CLASSES") (nat_lit 327)), (.ref (nat_lit 105))⟩ :: ⟨PyData.keyHash P (Str.ofString "CLOSES"), (.str (Str.ofString "CLOSES") (nat_lit 329)), (.int (93) (nat_lit 328))⟩ :: ⟨PyData.keyHash P (Str.ofString "OPENS"), (.str (Str.ofString "OPENS") (nat_lit 331)), (.int (91) (nat_lit 330))⟩ :: ⟨PyData.keyHash P (Str.ofString "COLON"), (.str (Str.ofString "COLON") (nat_lit 333)), (.int (58) (nat_lit 332))⟩ :: ⟨PyData.keyHash P (Str.ofString "MINUS"), (.str (Str.ofString "MINUS") (nat_lit 335)), (.int (45) (nat_lit 334))⟩ :: ⟨PyData.keyHash P (Str.ofString "NOT"), (.str (Str.ofString "NOT") (nat_lit 337)), (.int (94) (nat_lit 336))⟩ :: ⟨PyData.keyHash P (Str.ofString "UNMATCHED"), (.str (Str.ofString "UNMATCHED") (nat_lit 339)), (.str (Str.ofString "Unmatched [ or [^") (nat_lit 338))⟩ :: ⟨PyData.keyHash P (Str.ofString "class_end"), (.str (Str.ofString "class_end") (nat_lit 348)), (.ref (nat_lit 112))⟩ :: ⟨PyData.keyHash P (Str.ofString "read_class"), (.str (Str.ofString "read_class") (nat_lit 354)), (.ref (nat_lit 117))⟩ :: ⟨PyData.keyHash P (Str.ofString "read_part"), (.str (Str.ofString "read_part") (nat_lit 363)), (.ref (nat_lit 124))⟩ :: ⟨PyData.keyHash P (Str.ofString "read_set"), (.str (Str.ofString "read_set") (nat_lit 377)), (.ref (nat_lit 131))⟩ :: ⟨PyData.keyHash P (Str.ofString "is_letter"), (.str (Str.ofString "is_letter") (nat_lit 384)), (.ref (nat_lit 138))⟩ :: ⟨PyData.keyHash P (Str.ofString "is_figure"), (.str (Str.ofString "is_figure") (nat_lit 391)), (.ref (nat_lit 145))⟩ :: ⟨PyData.keyHash P (Str.ofString "is_of_ascii_class"), (.str (Str.ofString "is_of_ascii_class") (nat_lit 399)), (.ref (nat_lit 152))⟩ :: ⟨PyData.keyHash P (Str.ofString "is_of_class"), (.str (Str.ofString "is_of_class") (nat_lit 409)), (.ref (nat_lit 159))⟩ :: ⟨PyData.keyHash P (Str.ofString "is_in_ranges"), (.str (Str.ofString "is_in_ranges") (nat_lit 415)), (.ref (nat_lit 164))⟩ :: ⟨PyData.keyHash P (Str.ofString "LINE_FEED_regmachine"), (.str (Str.ofString "LINE_FEED_regmachine") (nat_lit 419)), (.int (10) (nat_lit 418))⟩ :: ⟨PyData.keyHash P (Str.ofString "MOST_STEPS"), (.str (Str.ofString "MOST_STEPS") (nat_lit 421)), (.int (400000) (nat_lit 420))⟩ :: ⟨PyData.keyHash P (Str.ofString "Choice"), (.str (Str.ofString "Choice") (nat_lit 454)), (.ref (nat_lit 181))⟩ :: ⟨PyData.keyHash P (Str.ofString "Regmachine"), (.str (Str.ofString "Regmachine") (nat_lit 595)), (.ref (nat_lit 269))⟩ :: ⟨PyData.keyHash P (Str.ofString "is_here"), (.str (Str.ofString "is_here") (nat_lit 610)), (.ref (nat_lit 280))⟩ :: ⟨PyData.keyHash P (Str.ofString "search_forward"), (.str (Str.ofString "search_forward") (nat_lit 622)), (.ref (nat_lit 287))⟩ :: ⟨PyData.keyHash P (Str.ofString "search_backward"), (.str (Str.ofString "search_backward") (nat_lit 634)), (.ref (nat_lit 294))⟩ :: ⟨PyData.keyHash P (Str.ofString "re_search_forward"), (.str (Str.ofString "re_search_forward") (nat_lit 650)), (.ref (nat_lit 301))⟩ :: ⟨PyData.keyHash P (Str.ofString "re_search_backward"), (.str (Str.ofString "re_search_backward") (nat_lit 665)), (.ref (nat_lit 308))⟩ :: ⟨PyData.keyHash P (Str.ofString "again"), (.str (Str.ofString "again") (nat_lit 677)), (.ref (nat_lit 315))⟩ :: ⟨PyData.keyHash P (Str.ofString "PLACES"), (.str (Str.ofString "PLACES") (nat_lit 701)), (.ref (nat_lit 316))⟩ :: ⟨PyData.keyHash P (Str.ofString "SYMBOL_PLACES"), (.str (Str.ofString "SYMBOL_PLACES") (nat_lit 708)), (.ref (nat_lit 317))⟩ :: ⟨PyData.keyHash P (Str.ofString "KINDS"), (.str (Str.ofString "KINDS") (nat_lit 710)), (.str (Str.ofString " w_.()'\"\\/$<>@!|") (nat_lit 709))⟩ :: ⟨PyData.keyHash P (Str.ofString "MOST_TIMES"), (.str (Str.ofString "MOST_TIMES") (nat_lit 712)), (.int (65535) (nat_lit 711))⟩ :: ⟨PyData.keyHash P (Str.ofString "MOST_GROUPS"), (.str (Str.ofString "MOST_GROUPS") (nat_lit 714)), (.int (255) (nat_lit 713))⟩ :: ⟨PyData.keyHash P (Str.ofString "bad_regexp"), (.str (Str.ofString "bad_regexp") (nat_lit 721)), (.ref (nat_lit 324))⟩ :: ⟨PyData.keyHash P (Str.ofString "sign_of"), (.str (Str.ofString "sign_of") (nat_lit 728)), (.ref (nat_lit 331))⟩ :: ⟨PyData.keyHash P (Str.ofString "sign_at"), (.str (Str.ofString "sign_at") (nat_lit 736)), (.ref (nat_lit 338))⟩ :: ⟨PyData.keyHash P (Str.ofString "is_escaped"), (.str (Str.ofString "is_escaped") (nat_lit 745)), (.ref (nat_lit 345))⟩ :: ⟨PyData.keyHash P (Str.ofString "joined"), (.str (Str.ofString "joined") (nat_lit 752)), (.ref (nat_lit 352))⟩ :: ⟨PyData.keyHash P (Str.ofString "Frame"), (.str (Str.ofString "Frame") (nat_lit 808)), (.ref (nat_lit 390))⟩ :: ⟨PyData.keyHash P (Str.ofString "Parsing"), (.str (Str.ofString "Parsing") (nat_lit 988)), (.ref (nat_lit 528))⟩ :: ⟨PyData.keyHash P (Str.ofString "parse_regexp"), (.str (Str.ofString "parse_regexp") (nat_lit 996)), (.ref (nat_lit 539))⟩ :: ⟨PyData.keyHash P (Str.ofString "MOST_ROWS"), (.str (Str.ofString "MOST_ROWS") (nat_lit 1000)), (.int (20000) (nat_lit 999))⟩ :: ⟨PyData.keyHash P (Str.ofString "MOST_TASKS"), (.str (Str.ofString "MOST_TASKS") (nat_lit 1002)), (.int (200000) (nat_lit 1001))⟩ :: ⟨PyData.keyHash P (Str.ofString "PLAIN"), (.str (Str.ofString "PLAIN") (nat_lit 1008)), (.ref (nat_lit 540))⟩ :: ⟨PyData.keyHash P (Str.ofString "Regcode"), (.str (Str.ofString "Regcode") (nat_lit 1043)), (.ref (nat_lit 557))⟩ :: ⟨PyData.keyHash P (Str.ofString "Compiling"), (.str (Str.ofString "Compiling") (nat_lit 1173)), (.ref (nat_lit 639))⟩ :: ⟨PyData.keyHash P (Str.ofString "compile_node"), (.str (Str.ofString "compile_node") (nat_lit 1183)), (.ref (nat_lit 650))⟩ :: ⟨PyData.keyHash P (Str.ofString "compile_regexp"), (.str (Str.ofString "compile_regexp") (nat_lit 1193)), (.ref (nat_lit 657))⟩ :: ⟨PyData.keyHash P (Str.ofString "WORD"), (.str (Str.ofString "WORD") (nat_lit 1197)), (.str (Str.ofString "w") (nat_lit 1196))⟩ :: ⟨PyData.keyHash P (Str.ofString "PUNCTUATION"), (.str (Str.ofString "PUNCTUATION") (nat_lit 1199)), (.str (Str.ofString ".") (nat_lit 1198))⟩ :: ⟨PyData.keyHash P (Str.ofString "INHERITS"), (.str (Str.ofString "INHERITS") (nat_lit 1201)), (.str (Str.ofString "@") (nat_lit 1200))⟩ :: ⟨PyData.keyHash P (Str.ofString "Syntax"), (.str (Str.ofString "Syntax") (nat_lit 1263)), (.ref (nat_lit 702))⟩ :: ⟨PyData.keyHash P (Str.ofString "SyntaxTable"), (.str (Str.ofString "SyntaxTable") (nat_lit 1355)), (.ref (nat_lit 773))⟩ :: ⟨PyData.keyHash P (Str.ofString "TextRow"), (.str (Str.ofString "TextRow") (nat_lit 1411)), (.ref (nat_lit 816))⟩ :: ⟨PyData.keyHash P (Str.ofString "_law_draw"), (.str (Str.ofString "_law_draw") (nat_lit 1421)), (.ref (nat_lit 827))⟩ :: ⟨PyData.keyHash P (Str.ofString "_law_codes"), (.str (Str.ofString "_law_codes") (nat_lit 1427)), (.ref (nat_lit 832))⟩ :: ⟨PyData.keyHash P (Str.ofString "_law_mirrored"), (.str (Str.ofString "_law_mirrored") (nat_lit 1435)), (.ref (nat_lit 839))⟩ :: ⟨PyData.keyHash P (Str.ofString "_law_whole"), (.str (Str.ofString "_law_whole") (nat_lit 1442)), (.ref (nat_lit 846))⟩ :: ⟨PyData.keyHash P (Str.ofString "law"), (.str (Str.ofString "law") (nat_lit 1448)), (.ref (nat_lit 851))⟩ :: [])⟩ 78), #[]⟩
noncomputable def o27 (P : Params) : Obj := ⟨(.type "code"), none, (.fields #[(.str (Str.ofString "downcase") (nat_lit 196)), (.str (Str.ofString "downcase") (nat_lit 197)), (.str (Str.ofString "/claim/cut.py") (nat_lit 198)), (.int (5) (nat_lit 0)), (.int (1) (nat_lit 0)), (.int (0) (nat_lit 0)), (.int (0) (nat_lit 0)), (.int (3) (nat_lit 0)), (.ref (nat_lit 22)), (.bool true), (.int (181) (nat_lit 0)), (.ref (nat_lit 23)), .none, (.ref (nat_lit 24)), (.ref (nat_lit 25)), (.ref (nat_lit 26)), (.int (200) (nat_lit 0)), (.int (5) (nat_lit 0)), (.str (Str.ofString "/claim/cut.py") (nat_lit 201))]), #[]⟩
noncomputable def o28 (P : Params) : Obj := ⟨(.type "function"), none, (.func (fnData (stAt 2) (Str.ofString "downcase") .none .none .none (.str (Str.ofString "emacs.casefold") (nat_lit 194)) (.ref (nat_lit 27)) .none)), #[]⟩
noncomputable def o34 (P : Params) : Obj := ⟨(.type "code"), none, (.fields #[(.str (Str.ofString "upcase") (nat_lit 203)), (.str (Str.ofString "upcase") (nat_lit 204)), (.str (Str.ofString "/claim/cut.py") (nat_lit 205)), (.int (9) (nat_lit 0)), (.int (1) (nat_lit 0)), (.int (0) (nat_lit 0)), (.int (0) (nat_lit 0)), (.int (3) (nat_lit 0)), (.ref (nat_lit 29)), (.bool true), (.int (181) (nat_lit 0)), (.ref (nat_lit 30)), .none, (.ref (nat_lit 31)), (.ref (nat_lit 32)), (.ref (nat_lit 33)), (.int (207) (nat_lit 0)), (.int (9) (nat_lit 0)), (.str (Str.ofString "/claim/cut.py") (nat_lit 208))]), #[]⟩
noncomputable def o35 (P : Params) : Obj := ⟨(.type "function"), none, (.func (fnData (stAt 3) (Str.ofString "upcase") .none .none .none (.str (Str.ofString "emacs.casefold") (nat_lit 194)) (.ref (nat_lit 34)) .none)), #[]⟩
noncomputable def o41 (P : Params) : Obj := ⟨(.type "code"), none, (.fields #[(.str (Str.ofString "fold") (nat_lit 210)), (.str (Str.ofString "fold") (nat_lit 211)), (.str (Str.ofString "/claim/cut.py") (nat_lit 212)), (.int (13) (nat_lit 0)), (.int (1) (nat_lit 0)), (.int (0) (nat_lit 0)), (.int (0) (nat_lit 0)), (.int (3) (nat_lit 0)), (.ref (nat_lit 36)), (.bool true), (.int (181) (nat_lit 0)), (.ref (nat_lit 37)), .none, (.ref (nat_lit 38)), (.ref (nat_lit 39)), (.ref (nat_lit 40)), (.int (214) (nat_lit 0)), (.int (13) (nat_lit 0)), (.str (Str.ofString "/claim/cut.py") (nat_lit 215))]), #[]⟩
noncomputable def o42 (P : Params) : Obj := ⟨(.type "function"), none, (.func (fnData (stAt 4) (Str.ofString "fold") .none .none .none (.str (Str.ofString "emacs.casefold") (nat_lit 194)) (.ref (nat_lit 41)) .none)), #[]⟩
noncomputable def o116 (P : Params) : Obj := ⟨(.type "code"), none, (.fields #[(.str (Str.ofString "read_class") (nat_lit 349)), (.str (Str.ofString "read_class") (nat_lit 350)), (.str (Str.ofString "/claim/cut.py") (nat_lit 351)), (.int (70) (nat_lit 0)), (.int (2) (nat_lit 0)), (.int (0) (nat_lit 0)), (.int (0) (nat_lit 0)), (.int (3) (nat_lit 0)), (.ref (nat_lit 113)), (.bool true), (.int (181) (nat_lit 0)), (.ref (nat_lit 114)), .none, .none, .none, (.ref (nat_lit 115)), (.int (352) (nat_lit 0)), (.int (70) (nat_lit 0)), (.str (Str.ofString "/claim/cut.py") (nat_lit 353))]), #[]⟩
noncomputable def o117 (P : Params) : Obj := ⟨(.type "function"), none, (.func (fnData (stAt 24) (Str.ofString "read_class") .none .none .none (.str (Str.ofString "emacs.regsets") (nat_lit 308)) (.ref (nat_lit 116)) .none)), #[]⟩
noncomputable def o123 (P : Params) : Obj := ⟨(.type "code"), none, (.fields #[(.str (Str.ofString "read_part") (nat_lit 355)), (.str (Str.ofString "read_part") (nat_lit 356)), (.str (Str.ofString "/claim/cut.py") (nat_lit 357)), (.int (80) (nat_lit 0)), (.int (2) (nat_lit 0)), (.int (0) (nat_lit 0)), (.int (0) (nat_lit 0)), (.int (3) (nat_lit 0)), (.ref (nat_lit 118)), (.bool true), (.int (181) (nat_lit 0)), (.ref (nat_lit 119)), .none, (.ref (nat_lit 120)), (.ref (nat_lit 121)), (.ref (nat_lit 122)), (.int (361) (nat_lit 0)), (.int (80) (nat_lit 0)), (.str (Str.ofString "/claim/cut.py") (nat_lit 362))]), #[]⟩
noncomputable def o124 (P : Params) : Obj := ⟨(.type "function"), none, (.func (fnData (stAt 25) (Str.ofString "read_part") .none .none .none (.str (Str.ofString "emacs.regsets") (nat_lit 308)) (.ref (nat_lit 123)) .none)), #[]⟩
noncomputable def o130 (P : Params) : Obj := ⟨(.type "code"), none, (.fields #[(.str (Str.ofString "read_set") (nat_lit 364)), (.str (Str.ofString "read_set") (nat_lit 365)), (.str (Str.ofString "/claim/cut.py") (nat_lit 366)), (.int (85) (nat_lit 0)), (.int (2) (nat_lit 0)), (.int (0) (nat_lit 0)), (.int (0) (nat_lit 0)), (.int (3) (nat_lit 0)), (.ref (nat_lit 125)), (.bool true), (.int (181) (nat_lit 0)), (.ref (nat_lit 126)), .none, (.ref (nat_lit 127)), (.ref (nat_lit 128)), (.ref (nat_lit 129)), (.int (375) (nat_lit 0)), (.int (85) (nat_lit 0)), (.str (Str.ofString "/claim/cut.py") (nat_lit 376))]), #[]⟩
noncomputable def o131 (P : Params) : Obj := ⟨(.type "function"), none, (.func (fnData (stAt 26) (Str.ofString "read_set") .none .none .none (.str (Str.ofString "emacs.regsets") (nat_lit 308)) (.ref (nat_lit 130)) .none)), #[]⟩
noncomputable def o163 (P : Params) : Obj := ⟨(.type "code"), none, (.fields #[(.str (Str.ofString "is_in_ranges") (nat_lit 410)), (.str (Str.ofString "is_in_ranges") (nat_lit 411)), (.str (Str.ofString "/claim/cut.py") (nat_lit 412)), (.int (137) (nat_lit 0)), (.int (2) (nat_lit 0)), (.int (0) (nat_lit 0)), (.int (0) (nat_lit 0)), (.int (3) (nat_lit 0)), (.ref (nat_lit 160)), (.bool true), (.int (181) (nat_lit 0)), (.ref (nat_lit 161)), .none, .none, .none, (.ref (nat_lit 162)), (.int (413) (nat_lit 0)), (.int (137) (nat_lit 0)), (.str (Str.ofString "/claim/cut.py") (nat_lit 414))]), #[]⟩
noncomputable def o164 (P : Params) : Obj := ⟨(.type "function"), none, (.func (fnData (stAt 31) (Str.ofString "is_in_ranges") .none .none .none (.str (Str.ofString "emacs.regsets") (nat_lit 308)) (.ref (nat_lit 163)) .none)), #[]⟩
noncomputable def o193 (P : Params) : Obj := ⟨(.type "tuple"), none, (.seq #[(.int (0) (nat_lit 467)), (.int (400000) (nat_lit 420))] 0), #[]⟩
noncomputable def o199 (P : Params) : Obj := ⟨(.type "code"), none, (.fields #[(.str (Str.ofString "__init__") (nat_lit 468)), (.str (Str.ofString "Regmachine.__init__") (nat_lit 469)), (.str (Str.ofString "/claim/cut.py") (nat_lit 470)), (.int (150) (nat_lit 0)), (.int (6) (nat_lit 0)), (.int (0) (nat_lit 0)), (.int (0) (nat_lit 0)), (.int (3) (nat_lit 0)), (.ref (nat_lit 194)), (.bool true), (.int (181) (nat_lit 0)), (.ref (nat_lit 195)), .none, (.ref (nat_lit 196)), (.ref (nat_lit 197)), (.ref (nat_lit 198)), (.int (477) (nat_lit 0)), (.int (150) (nat_lit 0)), (.str (Str.ofString "/claim/cut.py") (nat_lit 478))]), #[]⟩
noncomputable def o200 (P : Params) : Obj := ⟨(.type "function"), none, (.func (fnData (memAt 36 0) (Str.ofString "Regmachine.__init__") (.ref (nat_lit 193)) .none .none (.str (Str.ofString "emacs.regmachine") (nat_lit 416)) (.ref (nat_lit 199)) .none)), #[]⟩
noncomputable def o204 (P : Params) : Obj := ⟨(.type "code"), none, (.fields #[(.str (Str.ofString "match_at") (nat_lit 480)), (.str (Str.ofString "Regmachine.match_at") (nat_lit 481)), (.str (Str.ofString "/claim/cut.py") (nat_lit 482)), (.int (163) (nat_lit 0)), (.int (3) (nat_lit 0)), (.int (0) (nat_lit 0)), (.int (0) (nat_lit 0)), (.int (3) (nat_lit 0)), (.ref (nat_lit 201)), (.bool true), (.int (181) (nat_lit 0)), (.ref (nat_lit 202)), .none, .none, .none, (.ref (nat_lit 203)), (.int (483) (nat_lit 0)), (.int (163) (nat_lit 0)), (.str (Str.ofString "/claim/cut.py") (nat_lit 484))]), #[]⟩
noncomputable def o205 (P : Params) : Obj := ⟨(.type "function"), none, (.func (fnData (memAt 36 1) (Str.ofString "Regmachine.match_at") .none .none .none (.str (Str.ofString "emacs.regmachine") (nat_lit 416)) (.ref (nat_lit 204)) .none)), #[]⟩
noncomputable def o211 (P : Params) : Obj := ⟨(.type "code"), none, (.fields #[(.str (Str.ofString "tried_at") (nat_lit 486)), (.str (Str.ofString "Regmachine.tried_at") (nat_lit 487)), (.str (Str.ofString "/claim/cut.py") (nat_lit 488)), (.int (175) (nat_lit 0)), (.int (3) (nat_lit 0)), (.int (0) (nat_lit 0)), (.int (0) (nat_lit 0)), (.int (3) (nat_lit 0)), (.ref (nat_lit 206)), (.bool true), (.int (181) (nat_lit 0)), (.ref (nat_lit 207)), .none, (.ref (nat_lit 208)), (.ref (nat_lit 209)), (.ref (nat_lit 210)), (.int (492) (nat_lit 0)), (.int (175) (nat_lit 0)), (.str (Str.ofString "/claim/cut.py") (nat_lit 493))]), #[]⟩
noncomputable def o212 (P : Params) : Obj := ⟨(.type "function"), none, (.func (fnData (memAt 36 2) (Str.ofString "Regmachine.tried_at") .none .none .none (.str (Str.ofString "emacs.regmachine") (nat_lit 416)) (.ref (nat_lit 211)) .none)), #[]⟩
noncomputable def o218 (P : Params) : Obj := ⟨(.type "code"), none, (.fields #[(.str (Str.ofString "span") (nat_lit 495)), (.str (Str.ofString "Regmachine.span") (nat_lit 496)), (.str (Str.ofString "/claim/cut.py") (nat_lit 497)), (.int (179) (nat_lit 0)), (.int (2) (nat_lit 0)), (.int (0) (nat_lit 0)), (.int (0) (nat_lit 0)), (.int (3) (nat_lit 0)), (.ref (nat_lit 213)), (.bool true), (.int (181) (nat_lit 0)), (.ref (nat_lit 214)), .none, (.ref (nat_lit 215)), (.ref (nat_lit 216)), (.ref (nat_lit 217)), (.int (502) (nat_lit 0)), (.int (179) (nat_lit 0)), (.str (Str.ofString "/claim/cut.py") (nat_lit 503))]), #[]⟩
noncomputable def o219 (P : Params) : Obj := ⟨(.type "function"), none, (.func (fnData (memAt 36 3) (Str.ofString "Regmachine.span") .none .none .none (.str (Str.ofString "emacs.regmachine") (nat_lit 416)) (.ref (nat_lit 218)) .none)), #[]⟩
noncomputable def o225 (P : Params) : Obj := ⟨(.type "code"), none, (.fields #[(.str (Str.ofString "run") (nat_lit 505)), (.str (Str.ofString "Regmachine.run") (nat_lit 506)), (.str (Str.ofString "/claim/cut.py") (nat_lit 507)), (.int (183) (nat_lit 0)), (.int (2) (nat_lit 0)), (.int (0) (nat_lit 0)), (.int (0) (nat_lit 0)), (.int (3) (nat_lit 0)), (.ref (nat_lit 220)), (.bool true), (.int (181) (nat_lit 0)), (.ref (nat_lit 221)), .none, (.ref (nat_lit 222)), (.ref (nat_lit 223)), (.ref (nat_lit 224)), (.int (514) (nat_lit 0)), (.int (183) (nat_lit 0)), (.str (Str.ofString "/claim/cut.py") (nat_lit 515))]), #[]⟩
noncomputable def o226 (P : Params) : Obj := ⟨(.type "function"), none, (.func (fnData (memAt 36 4) (Str.ofString "Regmachine.run") .none .none .none (.str (Str.ofString "emacs.regmachine") (nat_lit 416)) (.ref (nat_lit 225)) .none)), #[]⟩
noncomputable def o246 (P : Params) : Obj := ⟨(.type "code"), none, (.fields #[(.str (Str.ofString "asked") (nat_lit 538)), (.str (Str.ofString "Regmachine.asked") (nat_lit 539)), (.str (Str.ofString "/claim/cut.py") (nat_lit 540)), (.int (221) (nat_lit 0)), (.int (3) (nat_lit 0)), (.int (0) (nat_lit 0)), (.int (0) (nat_lit 0)), (.int (3) (nat_lit 0)), (.ref (nat_lit 241)), (.bool true), (.int (181) (nat_lit 0)), (.ref (nat_lit 242)), .none, (.ref (nat_lit 243)), (.ref (nat_lit 244)), (.ref (nat_lit 245)), (.int (545) (nat_lit 0)), (.int (221) (nat_lit 0)), (.str (Str.ofString "/claim/cut.py") (nat_lit 546))]), #[]⟩
noncomputable def o247 (P : Params) : Obj := ⟨(.type "function"), none, (.func (fnData (memAt 36 7) (Str.ofString "Regmachine.asked") .none .none .none (.str (Str.ofString "emacs.regmachine") (nat_lit 416)) (.ref (nat_lit 246)) .none)), #[]⟩
noncomputable def o253 (P : Params) : Obj := ⟨(.type "code"), none, (.fields #[(.str (Str.ofString "is_taken") (nat_lit 548)), (.str (Str.ofString "Regmachine.is_taken") (nat_lit 549)), (.str (Str.ofString "/claim/cut.py") (nat_lit 550)), (.int (235) (nat_lit 0)), (.int (3) (nat_lit 0)), (.int (0) (nat_lit 0)), (.int (0) (nat_lit 0)), (.int (3) (nat_lit 0)), (.ref (nat_lit 248)), (.bool true), (.int (181) (nat_lit 0)), (.ref (nat_lit 249)), .none, (.ref (nat_lit 250)), (.ref (nat_lit 251)), (.ref (nat_lit 252)), (.int (555) (nat_lit 0)), (.int (235) (nat_lit 0)), (.str (Str.ofString "/claim/cut.py") (nat_lit 556))]), #[]⟩
noncomputable def o254 (P : Params) : Obj := ⟨(.type "function"), none, (.func (fnData (memAt 36 8) (Str.ofString "Regmachine.is_taken") .none .none .none (.str (Str.ofString "emacs.regmachine") (nat_lit 416)) (.ref (nat_lit 253)) .none)), #[]⟩
noncomputable def o258 (P : Params) : Obj := ⟨(.type "code"), none, (.fields #[(.str (Str.ofString "is_in_set") (nat_lit 558)), (.str (Str.ofString "Regmachine.is_in_set") (nat_lit 559)), (.str (Str.ofString "/claim/cut.py") (nat_lit 560)), (.int (245) (nat_lit 0)), (.int (3) (nat_lit 0)), (.int (0) (nat_lit 0)), (.int (0) (nat_lit 0)), (.int (3) (nat_lit 0)), (.ref (nat_lit 255)), (.bool true), (.int (181) (nat_lit 0)), (.ref (nat_lit 256)), .none, .none, .none, (.ref (nat_lit 257)), (.int (561) (nat_lit 0)), (.int (245) (nat_lit 0)), (.str (Str.ofString "/claim/cut.py") (nat_lit 562))]), #[]⟩
noncomputable def o259 (P : Params) : Obj := ⟨(.type "function"), none, (.func (fnData (memAt 36 9) (Str.ofString "Regmachine.is_in_set") .none .none .none (.str (Str.ofString "emacs.regmachine") (nat_lit 416)) (.ref (nat_lit 258)) .none)), #[]⟩
noncomputable def o268 (P : Params) : Obj := ⟨(.type "dict"), none, (.dict #[⟨PyData.keyHash P (Str.ofString "__module__"), (.str (Str.ofString "__module__") (nat_lit 462)), (.str (Str.ofString "emacs.regmachine") (nat_lit 416))⟩, ⟨PyData.keyHash P (Str.ofString "__firstlineno__"), (.str (Str.ofString "__firstlineno__") (nat_lit 466)), (.int (148) (nat_lit 465))⟩, ⟨PyData.keyHash P (Str.ofString "__init__"), (.str (Str.ofString "__init__") (nat_lit 479)), (.ref (nat_lit 200))⟩, ⟨PyData.keyHash P (Str.ofString "match_at"), (.str (Str.ofString "match_at") (nat_lit 485)), (.ref (nat_lit 205))⟩, ⟨PyData.keyHash P (Str.ofString "tried_at"), (.str (Str.ofString "tried_at") (nat_lit 494)), (.ref (nat_lit 212))⟩, ⟨PyData.keyHash P (Str.ofString "span"), (.str (Str.ofString "span") (nat_lit 504)), (.ref (nat_lit 219))⟩, ⟨PyData.keyHash P (Str.ofString "run"), (.str (Str.ofString "run") (nat_lit 516)), (.ref (nat_lit 226))⟩, ⟨PyData.keyHash P (Str.ofString "go_back"), (.str (Str.ofString "go_back") (nat_lit 527)), (.ref (nat_lit 233))⟩, ⟨PyData.keyHash P (Str.ofString "keep"), (.str (Str.ofString "keep") (nat_lit 537)), (.ref (nat_lit 240))⟩, ⟨PyData.keyHash P (Str.ofString "asked"), (.str (Str.ofString "asked") (nat_lit 547)), (.ref (nat_lit 247))⟩, ⟨PyData.keyHash P (Str.ofString "is_taken"), (.str (Str.ofString "is_taken") (nat_lit 557)), (.ref (nat_lit 254))⟩, ⟨PyData.keyHash P (Str.ofString "is_in_set"), (.str (Str.ofString "is_in_set") (nat_lit 563)), (.ref (nat_lit 259))⟩, ⟨PyData.keyHash P (Str.ofString "repeated"), (.str (Str.ofString "repeated") (nat_lit 576)), (.ref (nat_lit 266))⟩, ⟨PyData.keyHash P (Str.ofString "__static_attributes__"), (.str (Str.ofString "__static_attributes__") (nat_lit 588)), (.ref (nat_lit 267))⟩, ⟨PyData.keyHash P (Str.ofString "__dict__"), (.str (Str.ofString "__dict__") (nat_lit 590)), (.ref (nat_lit 270))⟩, ⟨PyData.keyHash P (Str.ofString "__weakref__"), (.str (Str.ofString "__weakref__") (nat_lit 592)), (.ref (nat_lit 271))⟩, ⟨PyData.keyHash P (Str.ofString "__doc__"), (.str (Str.ofString "__doc__") (nat_lit 593)), .none⟩] 4), #[]⟩
noncomputable def o269 (P : Params) : Obj := ⟨(.type "type"), none, (.cls { name := (Str.ofString "Regmachine"), bases := [(.type "object")], mro := [(.ref (nat_lit 269)), (.type "object")], ns := 268, qualname := (Str.ofString "Regmachine"), hasDict := true, slotNames := [], subclasses := [], abstract := false, collection := none, hasDel := false }), #[none, none, (some (.str (Str.ofString "Regmachine") (nat_lit 455))), (some (.str (Str.ofString "Regmachine") (nat_lit 463))), (some (.builtin "object.__new__")), (some (.bool true))]⟩
noncomputable def o279 (P : Params) : Obj := ⟨(.type "code"), none, (.fields #[(.str (Str.ofString "is_here") (nat_lit 598)), (.str (Str.ofString "is_here") (nat_lit 599)), (.str (Str.ofString "/claim/cut.py") (nat_lit 600)), (.int (263) (nat_lit 0)), (.int (4) (nat_lit 0)), (.int (0) (nat_lit 0)), (.int (0) (nat_lit 0)), (.int (3) (nat_lit 0)), (.ref (nat_lit 274)), (.bool true), (.int (181) (nat_lit 0)), (.ref (nat_lit 275)), .none, (.ref (nat_lit 276)), (.ref (nat_lit 277)), (.ref (nat_lit 278)), (.int (608) (nat_lit 0)), (.int (263) (nat_lit 0)), (.str (Str.ofString "/claim/cut.py") (nat_lit 609))]), #[]⟩
noncomputable def o280 (P : Params) : Obj := ⟨(.type "function"), none, (.func (fnData (stAt 38) (Str.ofString "is_here") .none .none .none (.str (Str.ofString "emacs.searching") (nat_lit 596)) (.ref (nat_lit 279)) .none)), #[]⟩
noncomputable def o286 (P : Params) : Obj := ⟨(.type "code"), none, (.fields #[(.str (Str.ofString "search_forward") (nat_lit 611)), (.str (Str.ofString "search_forward") (nat_lit 612)), (.str (Str.ofString "/claim/cut.py") (nat_lit 613)), (.int (269) (nat_lit 0)), (.int (5) (nat_lit 0)), (.int (0) (nat_lit 0)), (.int (0) (nat_lit 0)), (.int (3) (nat_lit 0)), (.ref (nat_lit 281)), (.bool true), (.int (181) (nat_lit 0)), (.ref (nat_lit 282)), .none, (.ref (nat_lit 283)), (.ref (nat_lit 284)), (.ref (nat_lit 285)), (.int (620) (nat_lit 0)), (.int (269) (nat_lit 0)), (.str (Str.ofString "/claim/cut.py") (nat_lit 621))]), #[]⟩
noncomputable def o287 (P : Params) : Obj := ⟨(.type "function"), none, (.func (fnData (stAt 39) (Str.ofString "search_forward") .none .none .none (.str (Str.ofString "emacs.searching") (nat_lit 596)) (.ref (nat_lit 286)) .none)), #[]⟩
noncomputable def o293 (P : Params) : Obj := ⟨(.type "code"), none, (.fields #[(.str (Str.ofString "search_backward") (nat_lit 623)), (.str (Str.ofString "search_backward") (nat_lit 624)), (.str (Str.ofString "/claim/cut.py") (nat_lit 625)), (.int (274) (nat_lit 0)), (.int (5) (nat_lit 0)), (.int (0) (nat_lit 0)), (.int (0) (nat_lit 0)), (.int (3) (nat_lit 0)), (.ref (nat_lit 288)), (.bool true), (.int (181) (nat_lit 0)), (.ref (nat_lit 289)), .none, (.ref (nat_lit 290)), (.ref (nat_lit 291)), (.ref (nat_lit 292)), (.int (632) (nat_lit 0)), (.int (274) (nat_lit 0)), (.str (Str.ofString "/claim/cut.py") (nat_lit 633))]), #[]⟩
noncomputable def o294 (P : Params) : Obj := ⟨(.type "function"), none, (.func (fnData (stAt 40) (Str.ofString "search_backward") .none .none .none (.str (Str.ofString "emacs.searching") (nat_lit 596)) (.ref (nat_lit 293)) .none)), #[]⟩
noncomputable def o300 (P : Params) : Obj := ⟨(.type "code"), none, (.fields #[(.str (Str.ofString "re_search_forward") (nat_lit 635)), (.str (Str.ofString "re_search_forward") (nat_lit 636)), (.str (Str.ofString "/claim/cut.py") (nat_lit 637)), (.int (279) (nat_lit 0)), (.int (6) (nat_lit 0)), (.int (0) (nat_lit 0)), (.int (0) (nat_lit 0)), (.int (3) (nat_lit 0)), (.ref (nat_lit 295)), (.bool true), (.int (181) (nat_lit 0)), (.ref (nat_lit 296)), .none, (.ref (nat_lit 297)), (.ref (nat_lit 298)), (.ref (nat_lit 299)), (.int (648) (nat_lit 0)), (.int (279) (nat_lit 0)), (.str (Str.ofString "/claim/cut.py") (nat_lit 649))]), #[]⟩
noncomputable def o301 (P : Params) : Obj := ⟨(.type "function"), none, (.func (fnData (stAt 41) (Str.ofString "re_search_forward") .none .none .none (.str (Str.ofString "emacs.searching") (nat_lit 596)) (.ref (nat_lit 300)) .none)), #[]⟩
noncomputable def o307 (P : Params) : Obj := ⟨(.type "code"), none, (.fields #[(.str (Str.ofString "re_search_backward") (nat_lit 651)), (.str (Str.ofString "re_search_backward") (nat_lit 652)), (.str (Str.ofString "/claim/cut.py") (nat_lit 653)), (.int (287) (nat_lit 0)), (.int (6) (nat_lit 0)), (.int (0) (nat_lit 0)), (.int (0) (nat_lit 0)), (.int (3) (nat_lit 0)), (.ref (nat_lit 302)), (.bool true), (.int (181) (nat_lit 0)), (.ref (nat_lit 303)), .none, (.ref (nat_lit 304)), (.ref (nat_lit 305)), (.ref (nat_lit 306)), (.int (663) (nat_lit 0)), (.int (287) (nat_lit 0)), (.str (Str.ofString "/claim/cut.py") (nat_lit 664))]), #[]⟩
noncomputable def o308 (P : Params) : Obj := ⟨(.type "function"), none, (.func (fnData (stAt 42) (Str.ofString "re_search_backward") .none .none .none (.str (Str.ofString "emacs.searching") (nat_lit 596)) (.ref (nat_lit 307)) .none)), #[]⟩
noncomputable def o314 (P : Params) : Obj := ⟨(.type "code"), none, (.fields #[(.str (Str.ofString "again") (nat_lit 666)), (.str (Str.ofString "again") (nat_lit 667)), (.str (Str.ofString "/claim/cut.py") (nat_lit 668)), (.int (294) (nat_lit 0)), (.int (3) (nat_lit 0)), (.int (0) (nat_lit 0)), (.int (0) (nat_lit 0)), (.int (3) (nat_lit 0)), (.ref (nat_lit 309)), (.bool true), (.int (181) (nat_lit 0)), (.ref (nat_lit 310)), .none, (.ref (nat_lit 311)), (.ref (nat_lit 312)), (.ref (nat_lit 313)), (.int (675) (nat_lit 0)), (.int (294) (nat_lit 0)), (.str (Str.ofString "/claim/cut.py") (nat_lit 676))]), #[]⟩
noncomputable def o315 (P : Params) : Obj := ⟨(.type "function"), none, (.func (fnData (stAt 43) (Str.ofString "again") .none .none .none (.str (Str.ofString "emacs.searching") (nat_lit 596)) (.ref (nat_lit 314)) .none)), #[]⟩
noncomputable def o330 (P : Params) : Obj := ⟨(.type "code"), none, (.fields #[(.str (Str.ofString "sign_of") (nat_lit 722)), (.str (Str.ofString "sign_of") (nat_lit 723)), (.str (Str.ofString "/claim/cut.py") (nat_lit 724)), (.int (313) (nat_lit 0)), (.int (1) (nat_lit 0)), (.int (0) (nat_lit 0)), (.int (0) (nat_lit 0)), (.int (3) (nat_lit 0)), (.ref (nat_lit 325)), (.bool true), (.int (181) (nat_lit 0)), (.ref (nat_lit 326)), .none, (.ref (nat_lit 327)), (.ref (nat_lit 328)), (.ref (nat_lit 329)), (.int (726) (nat_lit 0)), (.int (313) (nat_lit 0)), (.str (Str.ofString "/claim/cut.py") (nat_lit 727))]), #[]⟩
noncomputable def o331 (P : Params) : Obj := ⟨(.type "function"), none, (.func (fnData (stAt 51) (Str.ofString "sign_of") .none .none .none (.str (Str.ofString "emacs.regnodes") (nat_lit 678)) (.ref (nat_lit 330)) .none)), #[]⟩
noncomputable def o337 (P : Params) : Obj := ⟨(.type "code"), none, (.fields #[(.str (Str.ofString "sign_at") (nat_lit 729)), (.str (Str.ofString "sign_at") (nat_lit 730)), (.str (Str.ofString "/claim/cut.py") (nat_lit 731)), (.int (315) (nat_lit 0)), (.int (2) (nat_lit 0)), (.int (0) (nat_lit 0)), (.int (0) (nat_lit 0)), (.int (3) (nat_lit 0)), (.ref (nat_lit 332)), (.bool true), (.int (181) (nat_lit 0)), (.ref (nat_lit 333)), .none, (.ref (nat_lit 334)), (.ref (nat_lit 335)), (.ref (nat_lit 336)), (.int (734) (nat_lit 0)), (.int (315) (nat_lit 0)), (.str (Str.ofString "/claim/cut.py") (nat_lit 735))]), #[]⟩
noncomputable def o338 (P : Params) : Obj := ⟨(.type "function"), none, (.func (fnData (stAt 52) (Str.ofString "sign_at") .none .none .none (.str (Str.ofString "emacs.regnodes") (nat_lit 678)) (.ref (nat_lit 337)) .none)), #[]⟩
noncomputable def o351 (P : Params) : Obj := ⟨(.type "code"), none, (.fields #[(.str (Str.ofString "joined") (nat_lit 746)), (.str (Str.ofString "joined") (nat_lit 747)), (.str (Str.ofString "/claim/cut.py") (nat_lit 748)), (.int (319) (nat_lit 0)), (.int (1) (nat_lit 0)), (.int (0) (nat_lit 0)), (.int (0) (nat_lit 0)), (.int (3) (nat_lit 0)), (.ref (nat_lit 346)), (.bool true), (.int (181) (nat_lit 0)), (.ref (nat_lit 347)), .none, (.ref (nat_lit 348)), (.ref (nat_lit 349)), (.ref (nat_lit 350)), (.int (750) (nat_lit 0)), (.int (319) (nat_lit 0)), (.str (Str.ofString "/claim/cut.py") (nat_lit 751))]), #[]⟩
noncomputable def o352 (P : Params) : Obj := ⟨(.type "function"), none, (.func (fnData (stAt 54) (Str.ofString "joined") .none .none .none (.str (Str.ofString "emacs.regnodes") (nat_lit 678)) (.ref (nat_lit 351)) .none)), #[]⟩
noncomputable def o365 (P : Params) : Obj := ⟨(.type "code"), none, (.fields #[(.str (Str.ofString "__init__") (nat_lit 765)), (.str (Str.ofString "Frame.__init__") (nat_lit 766)), (.str (Str.ofString "/claim/cut.py") (nat_lit 767)), (.int (323) (nat_lit 0)), (.int (3) (nat_lit 0)), (.int (0) (nat_lit 0)), (.int (0) (nat_lit 0)), (.int (3) (nat_lit 0)), (.ref (nat_lit 360)), (.bool true), (.int (181) (nat_lit 0)), (.ref (nat_lit 361)), .none, (.ref (nat_lit 362)), (.ref (nat_lit 363)), (.ref (nat_lit 364)), (.int (771) (nat_lit 0)), (.int (323) (nat_lit 0)), (.str (Str.ofString "/claim/cut.py") (nat_lit 772))]), #[]⟩
noncomputable def o366 (P : Params) : Obj := ⟨(.type "function"), none, (.func (fnData (memAt 55 0) (Str.ofString "Frame.__init__") .none .none .none (.str (Str.ofString "emacs.regnodes") (nat_lit 678)) (.ref (nat_lit 365)) .none)), #[]⟩
noncomputable def o372 (P : Params) : Obj := ⟨(.type "code"), none, (.fields #[(.str (Str.ofString "put") (nat_lit 774)), (.str (Str.ofString "Frame.put") (nat_lit 775)), (.str (Str.ofString "/claim/cut.py") (nat_lit 776)), (.int (330) (nat_lit 0)), (.int (2) (nat_lit 0)), (.int (0) (nat_lit 0)), (.int (0) (nat_lit 0)), (.int (3) (nat_lit 0)), (.ref (nat_lit 367)), (.bool true), (.int (181) (nat_lit 0)), (.ref (nat_lit 368)), .none, (.ref (nat_lit 369)), (.ref (nat_lit 370)), (.ref (nat_lit 371)), (.int (779) (nat_lit 0)), (.int (330) (nat_lit 0)), (.str (Str.ofString "/claim/cut.py") (nat_lit 780))]), #[]⟩
noncomputable def o373 (P : Params) : Obj := ⟨(.type "function"), none, (.func (fnData (memAt 55 1) (Str.ofString "Frame.put") .none .none .none (.str (Str.ofString "emacs.regnodes") (nat_lit 678)) (.ref (nat_lit 372)) .none)), #[]⟩
noncomputable def o386 (P : Params) : Obj := ⟨(.type "code"), none, (.fields #[(.str (Str.ofString "node") (nat_lit 789)), (.str (Str.ofString "Frame.node") (nat_lit 790)), (.str (Str.ofString "/claim/cut.py") (nat_lit 791)), (.int (339) (nat_lit 0)), (.int (1) (nat_lit 0)), (.int (0) (nat_lit 0)), (.int (0) (nat_lit 0)), (.int (3) (nat_lit 0)), (.ref (nat_lit 381)), (.bool true), (.int (181) (nat_lit 0)), (.ref (nat_lit 382)), .none, (.ref (nat_lit 383)), (.ref (nat_lit 384)), (.ref (nat_lit 385)), (.int (793) (nat_lit 0)), (.int (339) (nat_lit 0)), (.str (Str.ofString "/claim/cut.py") (nat_lit 794))]), #[]⟩
noncomputable def o387 (P : Params) : Obj := ⟨(.type "function"), none, (.func (fnData (memAt 55 3) (Str.ofString "Frame.node") .none .none .none (.str (Str.ofString "emacs.regnodes") (nat_lit 678)) (.ref (nat_lit 386)) .none)), #[]⟩
noncomputable def o389 (P : Params) : Obj := ⟨(.type "dict"), none, (.dict #[⟨PyData.keyHash P (Str.ofString "__module__"), (.str (Str.ofString "__module__") (nat_lit 760)), (.str (Str.ofString "emacs.regnodes") (nat_lit 678))⟩, ⟨PyData.keyHash P (Str.ofString "__firstlineno__"), (.str (Str.ofString "__firstlineno__") (nat_lit 764)), (.int (321) (nat_lit 763))⟩, ⟨PyData.keyHash P (Str.ofString "__init__"), (.str (Str.ofString "__init__") (nat_lit 773)), (.ref (nat_lit 366))⟩, ⟨PyData.keyHash P (Str.ofString "put"), (.str (Str.ofString "put") (nat_lit 781)), (.ref (nat_lit 373))⟩, ⟨PyData.keyHash P (Str.ofString "part"), (.str (Str.ofString "part") (nat_lit 788)), (.ref (nat_lit 380))⟩, ⟨PyData.keyHash P (Str.ofString "node"), (.str (Str.ofString "node") (nat_lit 795)), (.ref (nat_lit 387))⟩, ⟨PyData.keyHash P (Str.ofString "__static_attributes__"), (.str (Str.ofString "__static_attributes__") (nat_lit 801)), (.ref (nat_lit 388))⟩, ⟨PyData.keyHash P (Str.ofString "__dict__"), (.str (Str.ofString "__dict__") (nat_lit 803)), (.ref (nat_lit 391))⟩, ⟨PyData.keyHash P (Str.ofString "__weakref__"), (.str (Str.ofString "__weakref__") (nat_lit 805)), (.ref (nat_lit 392))⟩, ⟨PyData.keyHash P (Str.ofString "__doc__"), (.str (Str.ofString "__doc__") (nat_lit 806)), .none⟩] 4), #[]⟩
noncomputable def o390 (P : Params) : Obj := ⟨(.type "type"), none, (.cls { name := (Str.ofString "Frame"), bases := [(.type "object")], mro := [(.ref (nat_lit 390)), (.type "object")], ns := 389, qualname := (Str.ofString "Frame"), hasDict := true, slotNames := [], subclasses := [], abstract := false, collection := none, hasDel := false }), #[none, none, (some (.str (Str.ofString "Frame") (nat_lit 753))), (some (.str (Str.ofString "Frame") (nat_lit 761))), (some (.builtin "object.__new__")), (some (.bool true))]⟩
noncomputable def o407 (P : Params) : Obj := ⟨(.type "code"), none, (.fields #[(.str (Str.ofString "__init__") (nat_lit 821)), (.str (Str.ofString "Parsing.__init__") (nat_lit 822)), (.str (Str.ofString "/claim/cut.py") (nat_lit 823)), (.int (345) (nat_lit 0)), (.int (2) (nat_lit 0)), (.int (0) (nat_lit 0)), (.int (0) (nat_lit 0)), (.int (3) (nat_lit 0)), (.ref (nat_lit 402)), (.bool true), (.int (181) (nat_lit 0)), (.ref (nat_lit 403)), .none, (.ref (nat_lit 404)), (.ref (nat_lit 405)), (.ref (nat_lit 406)), (.int (826) (nat_lit 0)), (.int (345) (nat_lit 0)), (.str (Str.ofString "/claim/cut.py") (nat_lit 827))]), #[]⟩
noncomputable def o408 (P : Params) : Obj := ⟨(.type "function"), none, (.func (fnData (memAt 56 0) (Str.ofString "Parsing.__init__") .none .none .none (.str (Str.ofString "emacs.regnodes") (nat_lit 678)) (.ref (nat_lit 407)) .none)), #[]⟩
noncomputable def o414 (P : Params) : Obj := ⟨(.type "code"), none, (.fields #[(.str (Str.ofString "top") (nat_lit 829)), (.str (Str.ofString "Parsing.top") (nat_lit 830)), (.str (Str.ofString "/claim/cut.py") (nat_lit 831)), (.int (351) (nat_lit 0)), (.int (1) (nat_lit 0)), (.int (0) (nat_lit 0)), (.int (0) (nat_lit 0)), (.int (3) (nat_lit 0)), (.ref (nat_lit 409)), (.bool true), (.int (181) (nat_lit 0)), (.ref (nat_lit 410)), .none, (.ref (nat_lit 411)), (.ref (nat_lit 412)), (.ref (nat_lit 413)), (.int (833) (nat_lit 0)), (.int (351) (nat_lit 0)), (.str (Str.ofString "/claim/cut.py") (nat_lit 834))]), #[]⟩
noncomputable def o415 (P : Params) : Obj := ⟨(.type "function"), none, (.func (fnData (memAt 56 1) (Str.ofString "Parsing.top") .none .none .none (.str (Str.ofString "emacs.regnodes") (nat_lit 678)) (.ref (nat_lit 414)) .none)), #[]⟩
noncomputable def o421 (P : Params) : Obj := ⟨(.type "code"), none, (.fields #[(.str (Str.ofString "code") (nat_lit 836)), (.str (Str.ofString "Parsing.code") (nat_lit 837)), (.str (Str.ofString "/claim/cut.py") (nat_lit 838)), (.int (354) (nat_lit 0)), (.int (1) (nat_lit 0)), (.int (0) (nat_lit 0)), (.int (0) (nat_lit 0)), (.int (3) (nat_lit 0)), (.ref (nat_lit 416)), (.bool true), (.int (181) (nat_lit 0)), (.ref (nat_lit 417)), .none, (.ref (nat_lit 418)), (.ref (nat_lit 419)), (.ref (nat_lit 420)), (.int (840) (nat_lit 0)), (.int (354) (nat_lit 0)), (.str (Str.ofString "/claim/cut.py") (nat_lit 841))]), #[]⟩
noncomputable def o422 (P : Params) : Obj := ⟨(.type "function"), none, (.func (fnData (memAt 56 2) (Str.ofString "Parsing.code") .none .none .none (.str (Str.ofString "emacs.regnodes") (nat_lit 678)) (.ref (nat_lit 421)) .none)), #[]⟩
noncomputable def o428 (P : Params) : Obj := ⟨(.type "code"), none, (.fields #[(.str (Str.ofString "whole") (nat_lit 843)), (.str (Str.ofString "Parsing.whole") (nat_lit 844)), (.str (Str.ofString "/claim/cut.py") (nat_lit 845)), (.int (360) (nat_lit 0)), (.int (1) (nat_lit 0)), (.int (0) (nat_lit 0)), (.int (0) (nat_lit 0)), (.int (3) (nat_lit 0)), (.ref (nat_lit 423)), (.bool true), (.int (181) (nat_lit 0)), (.ref (nat_lit 424)), .none, (.ref (nat_lit 425)), (.ref (nat_lit 426)), (.ref (nat_lit 427)), (.int (847) (nat_lit 0)), (.int (360) (nat_lit 0)), (.str (Str.ofString "/claim/cut.py") (nat_lit 848))]), #[]⟩
noncomputable def o429 (P : Params) : Obj := ⟨(.type "function"), none, (.func (fnData (memAt 56 3) (Str.ofString "Parsing.whole") .none .none .none (.str (Str.ofString "emacs.regnodes") (nat_lit 678)) (.ref (nat_lit 428)) .none)), #[]⟩
noncomputable def o435 (P : Params) : Obj := ⟨(.type "code"), none, (.fields #[(.str (Str.ofString "step") (nat_lit 850)), (.str (Str.ofString "Parsing.step") (nat_lit 851)), (.str (Str.ofString "/claim/cut.py") (nat_lit 852)), (.int (367) (nat_lit 0)), (.int (1) (nat_lit 0)), (.int (0) (nat_lit 0)), (.int (0) (nat_lit 0)), (.int (3) (nat_lit 0)), (.ref (nat_lit 430)), (.bool true), (.int (181) (nat_lit 0)), (.ref (nat_lit 431)), .none, (.ref (nat_lit 432)), (.ref (nat_lit 433)), (.ref (nat_lit 434)), (.int (857) (nat_lit 0)), (.int (367) (nat_lit 0)), (.str (Str.ofString "/claim/cut.py") (nat_lit 858))]), #[]⟩
noncomputable def o436 (P : Params) : Obj := ⟨(.type "function"), none, (.func (fnData (memAt 56 4) (Str.ofString "Parsing.step") .none .none .none (.str (Str.ofString "emacs.regnodes") (nat_lit 678)) (.ref (nat_lit 435)) .none)), #[]⟩
noncomputable def o527 (P : Params) : Obj := ⟨(.type "dict"), none, (.dict #[⟨PyData.keyHash P (Str.ofString "__module__"), (.str (Str.ofString "__module__") (nat_lit 816)), (.str (Str.ofString "emacs.regnodes") (nat_lit 678))⟩, ⟨PyData.keyHash P (Str.ofString "__firstlineno__"), (.str (Str.ofString "__firstlineno__") (nat_lit 820)), (.int (343) (nat_lit 819))⟩, ⟨PyData.keyHash P (Str.ofString "__init__"), (.str (Str.ofString "__init__") (nat_lit 828)), (.ref (nat_lit 408))⟩, ⟨PyData.keyHash P (Str.ofString "top"), (.str (Str.ofString "top") (nat_lit 835)), (.ref (nat_lit 415))⟩, ⟨PyData.keyHash P (Str.ofString "code"), (.str (Str.ofString "code") (nat_lit 842)), (.ref (nat_lit 422))⟩, ⟨PyData.keyHash P (Str.ofString "whole"), (.str (Str.ofString "whole") (nat_lit 849)), (.ref (nat_lit 429))⟩, ⟨PyData.keyHash P (Str.ofString "step"), (.str (Str.ofString "step") (nat_lit 859)), (.ref (nat_lit 436))⟩, ⟨PyData.keyHash P (Str.ofString "repeated"), (.str (Str.ofString "repeated") (nat_lit 870)), (.ref (nat_lit 443))⟩, ⟨PyData.keyHash P (Str.ofString "repeat"), (.str (Str.ofString "repeat") (nat_lit 881)), (.ref (nat_lit 450))⟩, ⟨PyData.keyHash P (Str.ofString "escaped"), (.str (Str.ofString "escaped") (nat_lit 890)), (.ref (nat_lit 457))⟩, ⟨PyData.keyHash P (Str.ofString "by_syntax"), (.str (Str.ofString "by_syntax") (nat_lit 899)), (.ref (nat_lit 464))⟩, ⟨PyData.keyHash P (Str.ofString "by_symbol"), (.str (Str.ofString "by_symbol") (nat_lit 907)), (.ref (nat_lit 471))⟩, ⟨PyData.keyHash P (Str.ofString "is_open"), (.str (Str.ofString "is_open") (nat_lit 913)), (.ref (nat_lit 476))⟩, ⟨PyData.keyHash P (Str.ofString "back"), (.str (Str.ofString "back") (nat_lit 921)), (.ref (nat_lit 483))⟩, ⟨PyData.keyHash P (Str.ofString "opened"), (.str (Str.ofString "opened") (nat_lit 931)), (.ref (nat_lit 490))⟩, ⟨PyData.keyHash P (Str.ofString "need_few"), (.str (Str.ofString "need_few") (nat_lit 938)), (.ref (nat_lit 497))⟩, ⟨PyData.keyHash P (Str.ofString "closed"), (.str (Str.ofString "closed") (nat_lit 947)), (.ref (nat_lit 504))⟩, ⟨PyData.keyHash P (Str.ofString "number"), (.str (Str.ofString "number") (nat_lit 956)), (.ref (nat_lit 511))⟩, ⟨PyData.keyHash P (Str.ofString "bounds"), (.str (Str.ofString "bounds") (nat_lit 966)), (.ref (nat_lit 518))⟩, ⟨PyData.keyHash P (Str.ofString "counted"), (.str (Str.ofString "counted") (nat_lit 976)), (.ref (nat_lit 525))⟩, ⟨PyData.keyHash P (Str.ofString "__static_attributes__"), (.str (Str.ofString "__static_attributes__") (nat_lit 981)), (.ref (nat_lit 526))⟩, ⟨PyData.keyHash P (Str.ofString "__dict__"), (.str (Str.ofString "__dict__") (nat_lit 983)), (.ref (nat_lit 529))⟩, ⟨PyData.keyHash P (Str.ofString "__weakref__"), (.str (Str.ofString "__weakref__") (nat_lit 985)), (.ref (nat_lit 530))⟩, ⟨PyData.keyHash P (Str.ofString "__doc__"), (.str (Str.ofString "__doc__") (nat_lit 986)), .none⟩] 4), #[]⟩
noncomputable def o528 (P : Params) : Obj := ⟨(.type "type"), none, (.cls { name := (Str.ofString "Parsing"), bases := [(.type "object")], mro := [(.ref (nat_lit 528)), (.type "object")], ns := 527, qualname := (Str.ofString "Parsing"), hasDict := true, slotNames := [], subclasses := [], abstract := false, collection := none, hasDel := false }), #[none, none, (some (.str (Str.ofString "Parsing") (nat_lit 809))), (some (.str (Str.ofString "Parsing") (nat_lit 817))), (some (.builtin "object.__new__")), (some (.bool true))]⟩
noncomputable def o538 (P : Params) : Obj := ⟨(.type "code"), none, (.fields #[(.str (Str.ofString "parse_regexp") (nat_lit 989)), (.str (Str.ofString "parse_regexp") (nat_lit 990)), (.str (Str.ofString "/claim/cut.py") (nat_lit 991)), (.int (510) (nat_lit 0)), (.int (1) (nat_lit 0)), (.int (0) (nat_lit 0)), (.int (0) (nat_lit 0)), (.int (3) (nat_lit 0)), (.ref (nat_lit 533)), (.bool true), (.int (181) (nat_lit 0)), (.ref (nat_lit 534)), .none, (.ref (nat_lit 535)), (.ref (nat_lit 536)), (.ref (nat_lit 537)), (.int (994) (nat_lit 0)), (.int (510) (nat_lit 0)), (.str (Str.ofString "/claim/cut.py") (nat_lit 995))]), #[]⟩
noncomputable def o539 (P : Params) : Obj := ⟨(.type "function"), none, (.func (fnData (stAt 57) (Str.ofString "parse_regexp") .none .none .none (.str (Str.ofString "emacs.regnodes") (nat_lit 678)) (.ref (nat_lit 538)) .none)), #[]⟩
noncomputable def o540 (P : Params) : Obj := ⟨(.type "tuple"), none, (.seq #[(.str (Str.ofString "any") (nat_lit 1003)), (.str (Str.ofString "set") (nat_lit 1004)), (.str (Str.ofString "syntax") (nat_lit 1005)), (.str (Str.ofString "at") (nat_lit 1006)), (.str (Str.ofString "back") (nat_lit 1007))] 0), #[]⟩
noncomputable def o553 (P : Params) : Obj := ⟨(.type "code"), none, (.fields #[(.str (Str.ofString "__init__") (nat_lit 1021)), (.str (Str.ofString "Regcode.__init__") (nat_lit 1022)), (.str (Str.ofString "/claim/cut.py") (nat_lit 1023)), (.int (519) (nat_lit 0)), (.int (5) (nat_lit 0)), (.int (0) (nat_lit 0)), (.int (0) (nat_lit 0)), (.int (3) (nat_lit 0)), (.ref (nat_lit 548)), (.bool true), (.int (181) (nat_lit 0)), (.ref (nat_lit 549)), .none, (.ref (nat_lit 550)), (.ref (nat_lit 551)), (.ref (nat_lit 552)), (.int (1029) (nat_lit 0)), (.int (519) (nat_lit 0)), (.str (Str.ofString "/claim/cut.py") (nat_lit 1030))]), #[]⟩
noncomputable def o554 (P : Params) : Obj := ⟨(.type "function"), none, (.func (fnData (memAt 62 0) (Str.ofString "Regcode.__init__") .none .none .none (.str (Str.ofString "emacs.regcode") (nat_lit 997)) (.ref (nat_lit 553)) .none)), #[]⟩
noncomputable def o556 (P : Params) : Obj := ⟨(.type "dict"), none, (.dict #[⟨PyData.keyHash P (Str.ofString "__module__"), (.str (Str.ofString "__module__") (nat_lit 1016)), (.str (Str.ofString "emacs.regcode") (nat_lit 997))⟩, ⟨PyData.keyHash P (Str.ofString "__firstlineno__"), (.str (Str.ofString "__firstlineno__") (nat_lit 1020)), (.int (517) (nat_lit 1019))⟩, ⟨PyData.keyHash P (Str.ofString "__init__"), (.str (Str.ofString "__init__") (nat_lit 1031)), (.ref (nat_lit 554))⟩, ⟨PyData.keyHash P (Str.ofString "__static_attributes__"), (.str (Str.ofString "__static_attributes__") (nat_lit 1036)), (.ref (nat_lit 555))⟩, ⟨PyData.keyHash P (Str.ofString "__dict__"), (.str (Str.ofString "__dict__") (nat_lit 1038)), (.ref (nat_lit 558))⟩, ⟨PyData.keyHash P (Str.ofString "__weakref__"), (.str (Str.ofString "__weakref__") (nat_lit 1040)), (.ref (nat_lit 559))⟩, ⟨PyData.keyHash P (Str.ofString "__doc__"), (.str (Str.ofString "__doc__") (nat_lit 1041)), .none⟩] 4), #[]⟩
noncomputable def o557 (P : Params) : Obj := ⟨(.type "type"), none, (.cls { name := (Str.ofString "Regcode"), bases := [(.type "object")], mro := [(.ref (nat_lit 557)), (.type "object")], ns := 556, qualname := (Str.ofString "Regcode"), hasDict := true, slotNames := [], subclasses := [], abstract := false, collection := none, hasDel := false }), #[none, none, (some (.str (Str.ofString "Regcode") (nat_lit 1009))), (some (.str (Str.ofString "Regcode") (nat_lit 1017))), (some (.builtin "object.__new__")), (some (.bool true))]⟩
noncomputable def o574 (P : Params) : Obj := ⟨(.type "code"), none, (.fields #[(.str (Str.ofString "__init__") (nat_lit 1056)), (.str (Str.ofString "Compiling.__init__") (nat_lit 1057)), (.str (Str.ofString "/claim/cut.py") (nat_lit 1058)), (.int (526) (nat_lit 0)), (.int (2) (nat_lit 0)), (.int (0) (nat_lit 0)), (.int (0) (nat_lit 0)), (.int (3) (nat_lit 0)), (.ref (nat_lit 569)), (.bool true), (.int (181) (nat_lit 0)), (.ref (nat_lit 570)), .none, (.ref (nat_lit 571)), (.ref (nat_lit 572)), (.ref (nat_lit 573)), (.int (1061) (nat_lit 0)), (.int (526) (nat_lit 0)), (.str (Str.ofString "/claim/cut.py") (nat_lit 1062))]), #[]⟩
noncomputable def o575 (P : Params) : Obj := ⟨(.type "function"), none, (.func (fnData (memAt 63 0) (Str.ofString "Compiling.__init__") .none .none .none (.str (Str.ofString "emacs.regcode") (nat_lit 997)) (.ref (nat_lit 574)) .none)), #[]⟩
noncomputable def o588 (P : Params) : Obj := ⟨(.type "code"), none, (.fields #[(.str (Str.ofString "wait") (nat_lit 1071)), (.str (Str.ofString "Compiling.wait") (nat_lit 1072)), (.str (Str.ofString "/claim/cut.py") (nat_lit 1073)), (.int (538) (nat_lit 0)), (.int (2) (nat_lit 0)), (.int (0) (nat_lit 0)), (.int (0) (nat_lit 0)), (.int (3) (nat_lit 0)), (.ref (nat_lit 583)), (.bool true), (.int (181) (nat_lit 0)), (.ref (nat_lit 584)), .none, (.ref (nat_lit 585)), (.ref (nat_lit 586)), (.ref (nat_lit 587)), (.int (1077) (nat_lit 0)), (.int (538) (nat_lit 0)), (.str (Str.ofString "/claim/cut.py") (nat_lit 1078))]), #[]⟩
noncomputable def o589 (P : Params) : Obj := ⟨(.type "function"), none, (.func (fnData (memAt 63 2) (Str.ofString "Compiling.wait") .none .none .none (.str (Str.ofString "emacs.regcode") (nat_lit 997)) (.ref (nat_lit 588)) .none)), #[]⟩
noncomputable def o595 (P : Params) : Obj := ⟨(.type "code"), none, (.fields #[(.str (Str.ofString "run") (nat_lit 1080)), (.str (Str.ofString "Compiling.run") (nat_lit 1081)), (.str (Str.ofString "/claim/cut.py") (nat_lit 1082)), (.int (544) (nat_lit 0)), (.int (2) (nat_lit 0)), (.int (0) (nat_lit 0)), (.int (0) (nat_lit 0)), (.int (3) (nat_lit 0)), (.ref (nat_lit 590)), (.bool true), (.int (181) (nat_lit 0)), (.ref (nat_lit 591)), .none, (.ref (nat_lit 592)), (.ref (nat_lit 593)), (.ref (nat_lit 594)), (.int (1088) (nat_lit 0)), (.int (544) (nat_lit 0)), (.str (Str.ofString "/claim/cut.py") (nat_lit 1089))]), #[]⟩
noncomputable def o596 (P : Params) : Obj := ⟨(.type "function"), none, (.func (fnData (memAt 63 3) (Str.ofString "Compiling.run") .none .none .none (.str (Str.ofString "emacs.regcode") (nat_lit 997)) (.ref (nat_lit 595)) .none)), #[]⟩
noncomputable def o600 (P : Params) : Obj := ⟨(.type "code"), none, (.fields #[(.str (Str.ofString "node") (nat_lit 1091)), (.str (Str.ofString "Compiling.node") (nat_lit 1092)), (.str (Str.ofString "/claim/cut.py") (nat_lit 1093)), (.int (559) (nat_lit 0)), (.int (2) (nat_lit 0)), (.int (0) (nat_lit 0)), (.int (0) (nat_lit 0)), (.int (3) (nat_lit 0)), (.ref (nat_lit 597)), (.bool true), (.int (181) (nat_lit 0)), (.ref (nat_lit 598)), .none, .none, .none, (.ref (nat_lit 599)), (.int (1094) (nat_lit 0)), (.int (559) (nat_lit 0)), (.str (Str.ofString "/claim/cut.py") (nat_lit 1095))]), #[]⟩
noncomputable def o601 (P : Params) : Obj := ⟨(.type "function"), none, (.func (fnData (memAt 63 4) (Str.ofString "Compiling.node") .none .none .none (.str (Str.ofString "emacs.regcode") (nat_lit 997)) (.ref (nat_lit 600)) .none)), #[]⟩
noncomputable def o635 (P : Params) : Obj := ⟨(.type "code"), none, (.fields #[(.str (Str.ofString "settled") (nat_lit 1151)), (.str (Str.ofString "Compiling.settled") (nat_lit 1152)), (.str (Str.ofString "/claim/cut.py") (nat_lit 1153)), (.int (606) (nat_lit 0)), (.int (1) (nat_lit 0)), (.int (0) (nat_lit 0)), (.int (0) (nat_lit 0)), (.int (3) (nat_lit 0)), (.ref (nat_lit 630)), (.bool true), (.int (181) (nat_lit 0)), (.ref (nat_lit 631)), .none, (.ref (nat_lit 632)), (.ref (nat_lit 633)), (.ref (nat_lit 634)), (.int (1157) (nat_lit 0)), (.int (606) (nat_lit 0)), (.str (Str.ofString "/claim/cut.py") (nat_lit 1158))]), #[]⟩
noncomputable def o636 (P : Params) : Obj := ⟨(.type "function"), none, (.func (fnData (memAt 63 9) (Str.ofString "Compiling.settled") .none .none .none (.str (Str.ofString "emacs.regcode") (nat_lit 997)) (.ref (nat_lit 635)) .none)), #[]⟩
noncomputable def o638 (P : Params) : Obj := ⟨(.type "dict"), none, (.dict #[⟨PyData.keyHash P (Str.ofString "__module__"), (.str (Str.ofString "__module__") (nat_lit 1051)), (.str (Str.ofString "emacs.regcode") (nat_lit 997))⟩, ⟨PyData.keyHash P (Str.ofString "__firstlineno__"), (.str (Str.ofString "__firstlineno__") (nat_lit 1055)), (.int (524) (nat_lit 1054))⟩, ⟨PyData.keyHash P (Str.ofString "__init__"), (.str (Str.ofString "__init__") (nat_lit 1063)), (.ref (nat_lit 575))⟩, ⟨PyData.keyHash P (Str.ofString "label"), (.str (Str.ofString "label") (nat_lit 1070)), (.ref (nat_lit 582))⟩, ⟨PyData.keyHash P (Str.ofString "wait"), (.str (Str.ofString "wait") (nat_lit 1079)), (.ref (nat_lit 589))⟩, ⟨PyData.keyHash P (Str.ofString "run"), (.str (Str.ofString "run") (nat_lit 1090)), (.ref (nat_lit 596))⟩, ⟨PyData.keyHash P (Str.ofString "node"), (.str (Str.ofString "node") (nat_lit 1096)), (.ref (nat_lit 601))⟩, ⟨PyData.keyHash P (Str.ofString "alternatives"), (.str (Str.ofString "alternatives") (nat_lit 1109)), (.ref (nat_lit 608))⟩, ⟨PyData.keyHash P (Str.ofString "repeated"), (.str (Str.ofString "repeated") (nat_lit 1126)), (.ref (nat_lit 615))⟩, ⟨PyData.keyHash P (Str.ofString "split"), (.str (Str.ofString "split") (nat_lit 1136)), (.ref (nat_lit 622))⟩, ⟨PyData.keyHash P (Str.ofString "loop"), (.str (Str.ofString "loop") (nat_lit 1150)), (.ref (nat_lit 629))⟩, ⟨PyData.keyHash P (Str.ofString "settled"), (.str (Str.ofString "settled") (nat_lit 1159)), (.ref (nat_lit 636))⟩, ⟨PyData.keyHash P (Str.ofString "__static_attributes__"), (.str (Str.ofString "__static_attributes__") (nat_lit 1166)), (.ref (nat_lit 637))⟩, ⟨PyData.keyHash P (Str.ofString "__dict__"), (.str (Str.ofString "__dict__") (nat_lit 1168)), (.ref (nat_lit 640))⟩, ⟨PyData.keyHash P (Str.ofString "__weakref__"), (.str (Str.ofString "__weakref__") (nat_lit 1170)), (.ref (nat_lit 641))⟩, ⟨PyData.keyHash P (Str.ofString "__doc__"), (.str (Str.ofString "__doc__") (nat_lit 1171)), .none⟩] 4), #[]⟩
noncomputable def o639 (P : Params) : Obj := ⟨(.type "type"), none, (.cls { name := (Str.ofString "Compiling"), bases := [(.type "object")], mro := [(.ref (nat_lit 639)), (.type "object")], ns := 638, qualname := (Str.ofString "Compiling"), hasDict := true, slotNames := [], subclasses := [], abstract := false, collection := none, hasDel := false }), #[none, none, (some (.str (Str.ofString "Compiling") (nat_lit 1044))), (some (.str (Str.ofString "Compiling") (nat_lit 1052))), (some (.builtin "object.__new__")), (some (.bool true))]⟩
noncomputable def o649 (P : Params) : Obj := ⟨(.type "code"), none, (.fields #[(.str (Str.ofString "compile_node") (nat_lit 1174)), (.str (Str.ofString "compile_node") (nat_lit 1175)), (.str (Str.ofString "/claim/cut.py") (nat_lit 1176)), (.int (616) (nat_lit 0)), (.int (3) (nat_lit 0)), (.int (0) (nat_lit 0)), (.int (0) (nat_lit 0)), (.int (3) (nat_lit 0)), (.ref (nat_lit 644)), (.bool true), (.int (181) (nat_lit 0)), (.ref (nat_lit 645)), .none, (.ref (nat_lit 646)), (.ref (nat_lit 647)), (.ref (nat_lit 648)), (.int (1181) (nat_lit 0)), (.int (616) (nat_lit 0)), (.str (Str.ofString "/claim/cut.py") (nat_lit 1182))]), #[]⟩
noncomputable def o650 (P : Params) : Obj := ⟨(.type "function"), none, (.func (fnData (stAt 64) (Str.ofString "compile_node") .none .none .none (.str (Str.ofString "emacs.regcode") (nat_lit 997)) (.ref (nat_lit 649)) .none)), #[]⟩
noncomputable def o656 (P : Params) : Obj := ⟨(.type "code"), none, (.fields #[(.str (Str.ofString "compile_regexp") (nat_lit 1184)), (.str (Str.ofString "compile_regexp") (nat_lit 1185)), (.str (Str.ofString "/claim/cut.py") (nat_lit 1186)), (.int (620) (nat_lit 0)), (.int (2) (nat_lit 0)), (.int (0) (nat_lit 0)), (.int (0) (nat_lit 0)), (.int (3) (nat_lit 0)), (.ref (nat_lit 651)), (.bool true), (.int (181) (nat_lit 0)), (.ref (nat_lit 652)), .none, (.ref (nat_lit 653)), (.ref (nat_lit 654)), (.ref (nat_lit 655)), (.int (1191) (nat_lit 0)), (.int (620) (nat_lit 0)), (.str (Str.ofString "/claim/cut.py") (nat_lit 1192))]), #[]⟩
noncomputable def o657 (P : Params) : Obj := ⟨(.type "function"), none, (.func (fnData (stAt 65) (Str.ofString "compile_regexp") .none .none .none (.str (Str.ofString "emacs.regcode") (nat_lit 997)) (.ref (nat_lit 656)) .none)), #[]⟩
noncomputable def o670 (P : Params) : Obj := ⟨(.type "code"), none, (.fields #[(.str (Str.ofString "__init__") (nat_lit 1214)), (.str (Str.ofString "Syntax.__init__") (nat_lit 1215)), (.str (Str.ofString "/claim/cut.py") (nat_lit 1216)), (.int (629) (nat_lit 0)), (.int (4) (nat_lit 0)), (.int (0) (nat_lit 0)), (.int (0) (nat_lit 0)), (.int (3) (nat_lit 0)), (.ref (nat_lit 665)), (.bool true), (.int (181) (nat_lit 0)), (.ref (nat_lit 666)), .none, (.ref (nat_lit 667)), (.ref (nat_lit 668)), (.ref (nat_lit 669)), (.int (1221) (nat_lit 0)), (.int (629) (nat_lit 0)), (.str (Str.ofString "/claim/cut.py") (nat_lit 1222))]), #[]⟩
noncomputable def o671 (P : Params) : Obj := ⟨(.type "function"), none, (.func (fnData (memAt 70 0) (Str.ofString "Syntax.__init__") .none .none .none (.str (Str.ofString "emacs.syntax") (nat_lit 1194)) (.ref (nat_lit 670)) .none)), #[]⟩
noncomputable def o701 (P : Params) : Obj := ⟨(.type "dict"), none, (.dict #[⟨PyData.keyHash P (Str.ofString "__module__"), (.str (Str.ofString "__module__") (nat_lit 1209)), (.str (Str.ofString "emacs.syntax") (nat_lit 1194))⟩, ⟨PyData.keyHash P (Str.ofString "__firstlineno__"), (.str (Str.ofString "__firstlineno__") (nat_lit 1213)), (.int (627) (nat_lit 1212))⟩, ⟨PyData.keyHash P (Str.ofString "__init__"), (.str (Str.ofString "__init__") (nat_lit 1223)), (.ref (nat_lit 671))⟩, ⟨PyData.keyHash P (Str.ofString "has"), (.str (Str.ofString "has") (nat_lit 1231)), (.ref (nat_lit 678))⟩, ⟨PyData.keyHash P (Str.ofString "is_escape"), (.str (Str.ofString "is_escape") (nat_lit 1238)), (.ref (nat_lit 685))⟩, ⟨PyData.keyHash P (Str.ofString "is_word_part"), (.str (Str.ofString "is_word_part") (nat_lit 1245)), (.ref (nat_lit 692))⟩, ⟨PyData.keyHash P (Str.ofString "style"), (.str (Str.ofString "style") (nat_lit 1252)), (.ref (nat_lit 699))⟩, ⟨PyData.keyHash P (Str.ofString "__static_attributes__"), (.str (Str.ofString "__static_attributes__") (nat_lit 1256)), (.ref (nat_lit 700))⟩, ⟨PyData.keyHash P (Str.ofString "__dict__"), (.str (Str.ofString "__dict__") (nat_lit 1258)), (.ref (nat_lit 703))⟩, ⟨PyData.keyHash P (Str.ofString "__weakref__"), (.str (Str.ofString "__weakref__") (nat_lit 1260)), (.ref (nat_lit 704))⟩, ⟨PyData.keyHash P (Str.ofString "__doc__"), (.str (Str.ofString "__doc__") (nat_lit 1261)), .none⟩] 4), #[]⟩
noncomputable def o702 (P : Params) : Obj := ⟨(.type "type"), none, (.cls { name := (Str.ofString "Syntax"), bases := [(.type "object")], mro := [(.ref (nat_lit 702)), (.type "object")], ns := 701, qualname := (Str.ofString "Syntax"), hasDict := true, slotNames := [], subclasses := [], abstract := false, collection := none, hasDel := false }), #[none, none, (some (.str (Str.ofString "Syntax") (nat_lit 1202))), (some (.str (Str.ofString "Syntax") (nat_lit 1210))), (some (.builtin "object.__new__")), (some (.bool true))]⟩
noncomputable def o714 (P : Params) : Obj := ⟨(.type "tuple"), none, (.seq #[.none] 0), #[]⟩
noncomputable def o720 (P : Params) : Obj := ⟨(.type "code"), none, (.fields #[(.str (Str.ofString "__init__") (nat_lit 1276)), (.str (Str.ofString "SyntaxTable.__init__") (nat_lit 1277)), (.str (Str.ofString "/claim/cut.py") (nat_lit 1278)), (.int (647) (nat_lit 0)), (.int (2) (nat_lit 0)), (.int (0) (nat_lit 0)), (.int (0) (nat_lit 0)), (.int (3) (nat_lit 0)), (.ref (nat_lit 715)), (.bool true), (.int (181) (nat_lit 0)), (.ref (nat_lit 716)), .none, (.ref (nat_lit 717)), (.ref (nat_lit 718)), (.ref (nat_lit 719)), (.int (1281) (nat_lit 0)), (.int (647) (nat_lit 0)), (.str (Str.ofString "/claim/cut.py") (nat_lit 1282))]), #[]⟩
noncomputable def o721 (P : Params) : Obj := ⟨(.type "function"), none, (.func (fnData (memAt 71 0) (Str.ofString "SyntaxTable.__init__") (.ref (nat_lit 714)) .none .none (.str (Str.ofString "emacs.syntax") (nat_lit 1194)) (.ref (nat_lit 720)) .none)), #[]⟩
noncomputable def o748 (P : Params) : Obj := ⟨(.type "code"), none, (.fields #[(.str (Str.ofString "own") (nat_lit 1312)), (.str (Str.ofString "SyntaxTable.own") (nat_lit 1313)), (.str (Str.ofString "/claim/cut.py") (nat_lit 1314)), (.int (660) (nat_lit 0)), (.int (2) (nat_lit 0)), (.int (0) (nat_lit 0)), (.int (0) (nat_lit 0)), (.int (3) (nat_lit 0)), (.ref (nat_lit 743)), (.bool true), (.int (181) (nat_lit 0)), (.ref (nat_lit 744)), .none, (.ref (nat_lit 745)), (.ref (nat_lit 746)), (.ref (nat_lit 747)), (.int (1318) (nat_lit 0)), (.int (660) (nat_lit 0)), (.str (Str.ofString "/claim/cut.py") (nat_lit 1319))]), #[]⟩
noncomputable def o749 (P : Params) : Obj := ⟨(.type "function"), none, (.func (fnData (memAt 71 4) (Str.ofString "SyntaxTable.own") .none .none .none (.str (Str.ofString "emacs.syntax") (nat_lit 1194)) (.ref (nat_lit 748)) .none)), #[]⟩
noncomputable def o755 (P : Params) : Obj := ⟨(.type "code"), none, (.fields #[(.str (Str.ofString "at") (nat_lit 1321)), (.str (Str.ofString "SyntaxTable.at") (nat_lit 1322)), (.str (Str.ofString "/claim/cut.py") (nat_lit 1323)), (.int (664) (nat_lit 0)), (.int (2) (nat_lit 0)), (.int (0) (nat_lit 0)), (.int (0) (nat_lit 0)), (.int (3) (nat_lit 0)), (.ref (nat_lit 750)), (.bool true), (.int (181) (nat_lit 0)), (.ref (nat_lit 751)), .none, (.ref (nat_lit 752)), (.ref (nat_lit 753)), (.ref (nat_lit 754)), (.int (1328) (nat_lit 0)), (.int (664) (nat_lit 0)), (.str (Str.ofString "/claim/cut.py") (nat_lit 1329))]), #[]⟩
noncomputable def o756 (P : Params) : Obj := ⟨(.type "function"), none, (.func (fnData (memAt 71 5) (Str.ofString "SyntaxTable.at") .none .none .none (.str (Str.ofString "emacs.syntax") (nat_lit 1194)) (.ref (nat_lit 755)) .none)), #[]⟩
noncomputable def o762 (P : Params) : Obj := ⟨(.type "code"), none, (.fields #[(.str (Str.ofString "kind_of") (nat_lit 1331)), (.str (Str.ofString "SyntaxTable.kind_of") (nat_lit 1332)), (.str (Str.ofString "/claim/cut.py") (nat_lit 1333)), (.int (673) (nat_lit 0)), (.int (2) (nat_lit 0)), (.int (0) (nat_lit 0)), (.int (0) (nat_lit 0)), (.int (3) (nat_lit 0)), (.ref (nat_lit 757)), (.bool true), (.int (181) (nat_lit 0)), (.ref (nat_lit 758)), .none, (.ref (nat_lit 759)), (.ref (nat_lit 760)), (.ref (nat_lit 761)), (.int (1336) (nat_lit 0)), (.int (673) (nat_lit 0)), (.str (Str.ofString "/claim/cut.py") (nat_lit 1337))]), #[]⟩
noncomputable def o763 (P : Params) : Obj := ⟨(.type "function"), none, (.func (fnData (memAt 71 6) (Str.ofString "SyntaxTable.kind_of") .none .none .none (.str (Str.ofString "emacs.syntax") (nat_lit 1194)) (.ref (nat_lit 762)) .none)), #[]⟩
noncomputable def o772 (P : Params) : Obj := ⟨(.type "dict"), none, (.dict #[⟨PyData.keyHash P (Str.ofString "__module__"), (.str (Str.ofString "__module__") (nat_lit 1271)), (.str (Str.ofString "emacs.syntax") (nat_lit 1194))⟩, ⟨PyData.keyHash P (Str.ofString "__firstlineno__"), (.str (Str.ofString "__firstlineno__") (nat_lit 1275)), (.int (645) (nat_lit 1274))⟩, ⟨PyData.keyHash P (Str.ofString "__init__"), (.str (Str.ofString "__init__") (nat_lit 1283)), (.ref (nat_lit 721))⟩, ⟨PyData.keyHash P (Str.ofString "modify"), (.str (Str.ofString "modify") (nat_lit 1292)), (.ref (nat_lit 728))⟩, ⟨PyData.keyHash P (Str.ofString "modify_all"), (.str (Str.ofString "modify_all") (nat_lit 1301)), (.ref (nat_lit 735))⟩, ⟨PyData.keyHash P (Str.ofString "modify_range"), (.str (Str.ofString "modify_range") (nat_lit 1311)), (.ref (nat_lit 742))⟩, ⟨PyData.keyHash P (Str.ofString "own"), (.str (Str.ofString "own") (nat_lit 1320)), (.ref (nat_lit 749))⟩, ⟨PyData.keyHash P (Str.ofString "at"), (.str (Str.ofString "at") (nat_lit 1330)), (.ref (nat_lit 756))⟩, ⟨PyData.keyHash P (Str.ofString "kind_of"), (.str (Str.ofString "kind_of") (nat_lit 1338)), (.ref (nat_lit 763))⟩, ⟨PyData.keyHash P (Str.ofString "copy"), (.str (Str.ofString "copy") (nat_lit 1345)), (.ref (nat_lit 770))⟩, ⟨PyData.keyHash P (Str.ofString "__static_attributes__"), (.str (Str.ofString "__static_attributes__") (nat_lit 1348)), (.ref (nat_lit 771))⟩, ⟨PyData.keyHash P (Str.ofString "__dict__"), (.str (Str.ofString "__dict__") (nat_lit 1350)), (.ref (nat_lit 774))⟩, ⟨PyData.keyHash P (Str.ofString "__weakref__"), (.str (Str.ofString "__weakref__") (nat_lit 1352)), (.ref (nat_lit 775))⟩, ⟨PyData.keyHash P (Str.ofString "__doc__"), (.str (Str.ofString "__doc__") (nat_lit 1353)), .none⟩] 4), #[]⟩
noncomputable def o773 (P : Params) : Obj := ⟨(.type "type"), none, (.cls { name := (Str.ofString "SyntaxTable"), bases := [(.type "object")], mro := [(.ref (nat_lit 773)), (.type "object")], ns := 772, qualname := (Str.ofString "SyntaxTable"), hasDict := true, slotNames := [], subclasses := [], abstract := false, collection := none, hasDel := false }), #[none, none, (some (.str (Str.ofString "SyntaxTable") (nat_lit 1264))), (some (.str (Str.ofString "SyntaxTable") (nat_lit 1272))), (some (.builtin "object.__new__")), (some (.bool true))]⟩
noncomputable def o785 (P : Params) : Obj := ⟨(.type "tuple"), none, (.seq #[(.int (1) (nat_lit 1370))] 0), #[]⟩
noncomputable def o791 (P : Params) : Obj := ⟨(.type "code"), none, (.fields #[(.str (Str.ofString "__init__") (nat_lit 1371)), (.str (Str.ofString "TextRow.__init__") (nat_lit 1372)), (.str (Str.ofString "/claim/cut.py") (nat_lit 1373)), (.int (681) (nat_lit 0)), (.int (3) (nat_lit 0)), (.int (0) (nat_lit 0)), (.int (0) (nat_lit 0)), (.int (3) (nat_lit 0)), (.ref (nat_lit 786)), (.bool true), (.int (181) (nat_lit 0)), (.ref (nat_lit 787)), .none, (.ref (nat_lit 788)), (.ref (nat_lit 789)), (.ref (nat_lit 790)), (.int (1377) (nat_lit 0)), (.int (681) (nat_lit 0)), (.str (Str.ofString "/claim/cut.py") (nat_lit 1378))]), #[]⟩
noncomputable def o792 (P : Params) : Obj := ⟨(.type "function"), none, (.func (fnData (memAt 73 0) (Str.ofString "TextRow.__init__") (.ref (nat_lit 785)) .none .none (.str (Str.ofString "emacs.textrow") (nat_lit 1356)) (.ref (nat_lit 791)) .none)), #[]⟩
noncomputable def o798 (P : Params) : Obj := ⟨(.type "code"), none, (.fields #[(.str (Str.ofString "begin") (nat_lit 1380)), (.str (Str.ofString "TextRow.begin") (nat_lit 1381)), (.str (Str.ofString "/claim/cut.py") (nat_lit 1382)), (.int (685) (nat_lit 0)), (.int (1) (nat_lit 0)), (.int (0) (nat_lit 0)), (.int (0) (nat_lit 0)), (.int (3) (nat_lit 0)), (.ref (nat_lit 793)), (.bool true), (.int (181) (nat_lit 0)), (.ref (nat_lit 794)), .none, (.ref (nat_lit 795)), (.ref (nat_lit 796)), (.ref (nat_lit 797)), (.int (1384) (nat_lit 0)), (.int (685) (nat_lit 0)), (.str (Str.ofString "/claim/cut.py") (nat_lit 1385))]), #[]⟩
noncomputable def o799 (P : Params) : Obj := ⟨(.type "function"), none, (.func (fnData (memAt 73 1) (Str.ofString "TextRow.begin") .none .none .none (.str (Str.ofString "emacs.textrow") (nat_lit 1356)) (.ref (nat_lit 798)) .none)), #[]⟩
noncomputable def o805 (P : Params) : Obj := ⟨(.type "code"), none, (.fields #[(.str (Str.ofString "end") (nat_lit 1387)), (.str (Str.ofString "TextRow.end") (nat_lit 1388)), (.str (Str.ofString "/claim/cut.py") (nat_lit 1389)), (.int (688) (nat_lit 0)), (.int (1) (nat_lit 0)), (.int (0) (nat_lit 0)), (.int (0) (nat_lit 0)), (.int (3) (nat_lit 0)), (.ref (nat_lit 800)), (.bool true), (.int (181) (nat_lit 0)), (.ref (nat_lit 801)), .none, (.ref (nat_lit 802)), (.ref (nat_lit 803)), (.ref (nat_lit 804)), (.int (1391) (nat_lit 0)), (.int (688) (nat_lit 0)), (.str (Str.ofString "/claim/cut.py") (nat_lit 1392))]), #[]⟩
noncomputable def o806 (P : Params) : Obj := ⟨(.type "function"), none, (.func (fnData (memAt 73 2) (Str.ofString "TextRow.end") .none .none .none (.str (Str.ofString "emacs.textrow") (nat_lit 1356)) (.ref (nat_lit 805)) .none)), #[]⟩
noncomputable def o812 (P : Params) : Obj := ⟨(.type "code"), none, (.fields #[(.str (Str.ofString "code_at") (nat_lit 1394)), (.str (Str.ofString "TextRow.code_at") (nat_lit 1395)), (.str (Str.ofString "/claim/cut.py") (nat_lit 1396)), (.int (691) (nat_lit 0)), (.int (2) (nat_lit 0)), (.int (0) (nat_lit 0)), (.int (0) (nat_lit 0)), (.int (3) (nat_lit 0)), (.ref (nat_lit 807)), (.bool true), (.int (181) (nat_lit 0)), (.ref (nat_lit 808)), .none, (.ref (nat_lit 809)), (.ref (nat_lit 810)), (.ref (nat_lit 811)), (.int (1399) (nat_lit 0)), (.int (691) (nat_lit 0)), (.str (Str.ofString "/claim/cut.py") (nat_lit 1400))]), #[]⟩
noncomputable def o813 (P : Params) : Obj := ⟨(.type "function"), none, (.func (fnData (memAt 73 3) (Str.ofString "TextRow.code_at") .none .none .none (.str (Str.ofString "emacs.textrow") (nat_lit 1356)) (.ref (nat_lit 812)) .none)), #[]⟩
noncomputable def o815 (P : Params) : Obj := ⟨(.type "dict"), none, (.dict #[⟨PyData.keyHash P (Str.ofString "__module__"), (.str (Str.ofString "__module__") (nat_lit 1365)), (.str (Str.ofString "emacs.textrow") (nat_lit 1356))⟩, ⟨PyData.keyHash P (Str.ofString "__firstlineno__"), (.str (Str.ofString "__firstlineno__") (nat_lit 1369)), (.int (679) (nat_lit 1368))⟩, ⟨PyData.keyHash P (Str.ofString "__init__"), (.str (Str.ofString "__init__") (nat_lit 1379)), (.ref (nat_lit 792))⟩, ⟨PyData.keyHash P (Str.ofString "begin"), (.str (Str.ofString "begin") (nat_lit 1386)), (.ref (nat_lit 799))⟩, ⟨PyData.keyHash P (Str.ofString "end"), (.str (Str.ofString "end") (nat_lit 1393)), (.ref (nat_lit 806))⟩, ⟨PyData.keyHash P (Str.ofString "code_at"), (.str (Str.ofString "code_at") (nat_lit 1401)), (.ref (nat_lit 813))⟩, ⟨PyData.keyHash P (Str.ofString "__static_attributes__"), (.str (Str.ofString "__static_attributes__") (nat_lit 1404)), (.ref (nat_lit 814))⟩, ⟨PyData.keyHash P (Str.ofString "__dict__"), (.str (Str.ofString "__dict__") (nat_lit 1406)), (.ref (nat_lit 817))⟩, ⟨PyData.keyHash P (Str.ofString "__weakref__"), (.str (Str.ofString "__weakref__") (nat_lit 1408)), (.ref (nat_lit 818))⟩, ⟨PyData.keyHash P (Str.ofString "__doc__"), (.str (Str.ofString "__doc__") (nat_lit 1409)), .none⟩] 4), #[]⟩
noncomputable def o816 (P : Params) : Obj := ⟨(.type "type"), none, (.cls { name := (Str.ofString "TextRow"), bases := [(.type "object")], mro := [(.ref (nat_lit 816)), (.type "object")], ns := 815, qualname := (Str.ofString "TextRow"), hasDict := true, slotNames := [], subclasses := [], abstract := false, collection := none, hasDel := false }), #[none, none, (some (.str (Str.ofString "TextRow") (nat_lit 1358))), (some (.str (Str.ofString "TextRow") (nat_lit 1366))), (some (.builtin "object.__new__")), (some (.bool true))]⟩
noncomputable def o826 (P : Params) : Obj := ⟨(.type "code"), none, (.fields #[(.str (Str.ofString "_law_draw") (nat_lit 1414)), (.str (Str.ofString "_law_draw") (nat_lit 1415)), (.str (Str.ofString "/claim/cut.py") (nat_lit 1416)), (.int (696) (nat_lit 0)), (.int (2) (nat_lit 0)), (.int (0) (nat_lit 0)), (.int (0) (nat_lit 0)), (.int (3) (nat_lit 0)), (.ref (nat_lit 821)), (.bool true), (.int (181) (nat_lit 0)), (.ref (nat_lit 822)), .none, (.ref (nat_lit 823)), (.ref (nat_lit 824)), (.ref (nat_lit 825)), (.int (1419) (nat_lit 0)), (.int (696) (nat_lit 0)), (.str (Str.ofString "/claim/cut.py") (nat_lit 1420))]), #[]⟩
noncomputable def o827 (P : Params) : Obj := ⟨(.type "function"), none, (.func (fnData (stAt 75) (Str.ofString "_law_draw") .none .none .none (.str (Str.ofString "law_pq0312_01") (nat_lit 1412)) (.ref (nat_lit 826)) .none)), #[]⟩
noncomputable def o831 (P : Params) : Obj := ⟨(.type "code"), none, (.fields #[(.str (Str.ofString "_law_codes") (nat_lit 1422)), (.str (Str.ofString "_law_codes") (nat_lit 1423)), (.str (Str.ofString "/claim/cut.py") (nat_lit 1424)), (.int (701) (nat_lit 0)), (.int (1) (nat_lit 0)), (.int (0) (nat_lit 0)), (.int (0) (nat_lit 0)), (.int (3) (nat_lit 0)), (.ref (nat_lit 828)), (.bool true), (.int (181) (nat_lit 0)), (.ref (nat_lit 829)), .none, .none, .none, (.ref (nat_lit 830)), (.int (1425) (nat_lit 0)), (.int (701) (nat_lit 0)), (.str (Str.ofString "/claim/cut.py") (nat_lit 1426))]), #[]⟩
noncomputable def o832 (P : Params) : Obj := ⟨(.type "function"), none, (.func (fnData (stAt 76) (Str.ofString "_law_codes") .none .none .none (.str (Str.ofString "law_pq0312_01") (nat_lit 1412)) (.ref (nat_lit 831)) .none)), #[]⟩
noncomputable def o838 (P : Params) : Obj := ⟨(.type "code"), none, (.fields #[(.str (Str.ofString "_law_mirrored") (nat_lit 1428)), (.str (Str.ofString "_law_mirrored") (nat_lit 1429)), (.str (Str.ofString "/claim/cut.py") (nat_lit 1430)), (.int (703) (nat_lit 0)), (.int (2) (nat_lit 0)), (.int (0) (nat_lit 0)), (.int (0) (nat_lit 0)), (.int (3) (nat_lit 0)), (.ref (nat_lit 833)), (.bool true), (.int (181) (nat_lit 0)), (.ref (nat_lit 834)), .none, (.ref (nat_lit 835)), (.ref (nat_lit 836)), (.ref (nat_lit 837)), (.int (1433) (nat_lit 0)), (.int (703) (nat_lit 0)), (.str (Str.ofString "/claim/cut.py") (nat_lit 1434))]), #[]⟩
noncomputable def o839 (P : Params) : Obj := ⟨(.type "function"), none, (.func (fnData (stAt 77) (Str.ofString "_law_mirrored") .none .none .none (.str (Str.ofString "law_pq0312_01") (nat_lit 1412)) (.ref (nat_lit 838)) .none)), #[]⟩
noncomputable def o845 (P : Params) : Obj := ⟨(.type "code"), none, (.fields #[(.str (Str.ofString "_law_whole") (nat_lit 1436)), (.str (Str.ofString "_law_whole") (nat_lit 1437)), (.str (Str.ofString "/claim/cut.py") (nat_lit 1438)), (.int (705) (nat_lit 0)), (.int (1) (nat_lit 0)), (.int (0) (nat_lit 0)), (.int (0) (nat_lit 0)), (.int (3) (nat_lit 0)), (.ref (nat_lit 840)), (.bool true), (.int (181) (nat_lit 0)), (.ref (nat_lit 841)), .none, (.ref (nat_lit 842)), (.ref (nat_lit 843)), (.ref (nat_lit 844)), (.int (1440) (nat_lit 0)), (.int (705) (nat_lit 0)), (.str (Str.ofString "/claim/cut.py") (nat_lit 1441))]), #[]⟩
noncomputable def o846 (P : Params) : Obj := ⟨(.type "function"), none, (.func (fnData (stAt 78) (Str.ofString "_law_whole") .none .none .none (.str (Str.ofString "law_pq0312_01") (nat_lit 1412)) (.ref (nat_lit 845)) .none)), #[]⟩
noncomputable def o850 (P : Params) : Obj := ⟨(.type "code"), none, (.fields #[(.str (Str.ofString "law") (nat_lit 1443)), (.str (Str.ofString "law") (nat_lit 1444)), (.str (Str.ofString "/claim/cut.py") (nat_lit 1445)), (.int (707) (nat_lit 0)), (.int (1) (nat_lit 0)), (.int (0) (nat_lit 0)), (.int (0) (nat_lit 0)), (.int (3) (nat_lit 0)), (.ref (nat_lit 847)), (.bool true), (.int (181) (nat_lit 0)), (.ref (nat_lit 848)), .none, .none, .none, (.ref (nat_lit 849)), (.int (1446) (nat_lit 0)), (.int (707) (nat_lit 0)), (.str (Str.ofString "/claim/cut.py") (nat_lit 1447))]), #[]⟩
noncomputable def o851 (P : Params) : Obj := ⟨(.type "function"), none, (.func (fnData (stAt 79) (Str.ofString "law") .none .none .none (.str (Str.ofString "law_pq0312_01") (nat_lit 1412)) (.ref (nat_lit 850)) .none)), #[]⟩
noncomputable def K (P : Params) : Frag := ((nat_lit 3, o3 P) :: (nat_lit 27, o27 P) :: (nat_lit 28, o28 P) :: (nat_lit 34, o34 P) :: (nat_lit 35, o35 P) :: (nat_lit 41, o41 P) :: (nat_lit 42, o42 P) :: (nat_lit 116, o116 P) :: (nat_lit 117, o117 P) :: (nat_lit 123, o123 P) :: (nat_lit 124, o124 P) :: (nat_lit 130, o130 P) :: (nat_lit 131, o131 P) :: (nat_lit 163, o163 P) :: (nat_lit 164, o164 P) :: (nat_lit 193, o193 P) :: (nat_lit 199, o199 P) :: (nat_lit 200, o200 P) :: (nat_lit 204, o204 P) :: (nat_lit 205, o205 P) :: (nat_lit 211, o211 P) :: (nat_lit 212, o212 P) :: (nat_lit 218, o218 P) :: (nat_lit 219, o219 P) :: (nat_lit 225, o225 P) :: (nat_lit 226, o226 P) :: (nat_lit 246, o246 P) :: (nat_lit 247, o247 P) :: (nat_lit 253, o253 P) :: (nat_lit 254, o254 P) :: (nat_lit 258, o258 P) :: (nat_lit 259, o259 P) :: (nat_lit 268, o268 P) :: (nat_lit 269, o269 P) :: (nat_lit 279, o279 P) :: (nat_lit 280, o280 P) :: (nat_lit 286, o286 P) :: (nat_lit 287, o287 P) :: (nat_lit 293, o293 P) :: (nat_lit 294, o294 P) :: (nat_lit 300, o300 P) :: (nat_lit 301, o301 P) :: (nat_lit 307, o307 P) :: (nat_lit 308, o308 P) :: (nat_lit 314, o314 P) :: (nat_lit 315, o315 P) :: (nat_lit 330, o330 P) :: (nat_lit 331, o331 P) :: (nat_lit 337, o337 P) :: (nat_lit 338, o338 P) :: (nat_lit 351, o351 P) :: (nat_lit 352, o352 P) :: (nat_lit 365, o365 P) :: (nat_lit 366, o366 P) :: (nat_lit 372, o372 P) :: (nat_lit 373, o373 P) :: (nat_lit 386, o386 P) :: (nat_lit 387, o387 P) :: (nat_lit 389, o389 P) :: (nat_lit 390, o390 P) :: (nat_lit 407, o407 P) :: (nat_lit 408, o408 P) :: (nat_lit 414, o414 P) :: (nat_lit 415, o415 P) :: (nat_lit 421, o421 P) :: (nat_lit 422, o422 P) :: (nat_lit 428, o428 P) :: (nat_lit 429, o429 P) :: (nat_lit 435, o435 P) :: (nat_lit 436, o436 P) :: (nat_lit 527, o527 P) :: (nat_lit 528, o528 P) :: (nat_lit 538, o538 P) :: (nat_lit 539, o539 P) :: (nat_lit 540, o540 P) :: (nat_lit 553, o553 P) :: (nat_lit 554, o554 P) :: (nat_lit 556, o556 P) :: (nat_lit 557, o557 P) :: (nat_lit 574, o574 P) :: (nat_lit 575, o575 P) :: (nat_lit 588, o588 P) :: (nat_lit 589, o589 P) :: (nat_lit 595, o595 P) :: (nat_lit 596, o596 P) :: (nat_lit 600, o600 P) :: (nat_lit 601, o601 P) :: (nat_lit 635, o635 P) :: (nat_lit 636, o636 P) :: (nat_lit 638, o638 P) :: (nat_lit 639, o639 P) :: (nat_lit 649, o649 P) :: (nat_lit 650, o650 P) :: (nat_lit 656, o656 P) :: (nat_lit 657, o657 P) :: (nat_lit 670, o670 P) :: (nat_lit 671, o671 P) :: (nat_lit 701, o701 P) :: (nat_lit 702, o702 P) :: (nat_lit 714, o714 P) :: (nat_lit 720, o720 P) :: (nat_lit 721, o721 P) :: (nat_lit 748, o748 P) :: (nat_lit 749, o749 P) :: (nat_lit 755, o755 P) :: (nat_lit 756, o756 P) :: (nat_lit 762, o762 P) :: (nat_lit 763, o763 P) :: (nat_lit 772, o772 P) :: (nat_lit 773, o773 P) :: (nat_lit 785, o785 P) :: (nat_lit 791, o791 P) :: (nat_lit 792, o792 P) :: (nat_lit 798, o798 P) :: (nat_lit 799, o799 P) :: (nat_lit 805, o805 P) :: (nat_lit 806, o806 P) :: (nat_lit 812, o812 P) :: (nat_lit 813, o813 P) :: (nat_lit 815, o815 P) :: (nat_lit 816, o816 P) :: (nat_lit 826, o826 P) :: (nat_lit 827, o827 P) :: (nat_lit 831, o831 P) :: (nat_lit 832, o832 P) :: (nat_lit 838, o838 P) :: (nat_lit 839, o839 P) :: (nat_lit 845, o845 P) :: (nat_lit 846, o846 P) :: (nat_lit 850, o850 P) :: (nat_lit 851, o851 P) :: [])
noncomputable def Kas : List Addr := (nat_lit 3 :: nat_lit 27 :: nat_lit 28 :: nat_lit 34 :: nat_lit 35 :: nat_lit 41 :: nat_lit 42 :: nat_lit 116 :: nat_lit 117 :: nat_lit 123 :: nat_lit 124 :: nat_lit 130 :: nat_lit 131 :: nat_lit 163 :: nat_lit 164 :: nat_lit 193 :: nat_lit 199 :: nat_lit 200 :: nat_lit 204 :: nat_lit 205 :: nat_lit 211 :: nat_lit 212 :: nat_lit 218 :: nat_lit 219 :: nat_lit 225 :: nat_lit 226 :: nat_lit 246 :: nat_lit 247 :: nat_lit 253 :: nat_lit 254 :: nat_lit 258 :: nat_lit 259 :: nat_lit 268 :: nat_lit 269 :: nat_lit 279 :: nat_lit 280 :: nat_lit 286 :: nat_lit 287 :: nat_lit 293 :: nat_lit 294 :: nat_lit 300 :: nat_lit 301 :: nat_lit 307 :: nat_lit 308 :: nat_lit 314 :: nat_lit 315 :: nat_lit 330 :: nat_lit 331 :: nat_lit 337 :: nat_lit 338 :: nat_lit 351 :: nat_lit 352 :: nat_lit 365 :: nat_lit 366 :: nat_lit 372 :: nat_lit 373 :: nat_lit 386 :: nat_lit 387 :: nat_lit 389 :: nat_lit 390 :: nat_lit 407 :: nat_lit 408 :: nat_lit 414 :: nat_lit 415 :: nat_lit 421 :: nat_lit 422 :: nat_lit 428 :: nat_lit 429 :: nat_lit 435 :: nat_lit 436 :: nat_lit 527 :: nat_lit 528 :: nat_lit 538 :: nat_lit 539 :: nat_lit 540 :: nat_lit 553 :: nat_lit 554 :: nat_lit 556 :: nat_lit 557 :: nat_lit 574 :: nat_lit 575 :: nat_lit 588 :: nat_lit 589 :: nat_lit 595 :: nat_lit 596 :: nat_lit 600 :: nat_lit 601 :: nat_lit 635 :: nat_lit 636 :: nat_lit 638 :: nat_lit 639 :: nat_lit 649 :: nat_lit 650 :: nat_lit 656 :: nat_lit 657 :: nat_lit 670 :: nat_lit 671 :: nat_lit 701 :: nat_lit 702 :: nat_lit 714 :: nat_lit 720 :: nat_lit 721 :: nat_lit 748 :: nat_lit 749 :: nat_lit 755 :: nat_lit 756 :: nat_lit 762 :: nat_lit 763 :: nat_lit 772 :: nat_lit 773 :: nat_lit 785 :: nat_lit 791 :: nat_lit 792 :: nat_lit 798 :: nat_lit 799 :: nat_lit 805 :: nat_lit 806 :: nat_lit 812 :: nat_lit 813 :: nat_lit 815 :: nat_lit 816 :: nat_lit 826 :: nat_lit 827 :: nat_lit 831 :: nat_lit 832 :: nat_lit 838 :: nat_lit 839 :: nat_lit 845 :: nat_lit 846 :: nat_lit 850 :: nat_lit 851 :: [])
end
section
variable {tb : String → Option Builtin} {p : Program} {w : World} {n₀ : Nat} {ann : Option Value}
noncomputable def topRunT (tb : String → Option Builtin) (p : Program) (w : World) (n₀ : Nat) (ann : Option Value) : Nat → SharedT → Thread → Option SharedT
  | 0, _, _ => none
  | n + 1, s, t => match through t with
    | true => some s
    | false => match stepOk n₀ ann t with
      | false => none
      | true => match stepT (denote tb) p w s t with
        | some (s', t') => topRunT tb p w n₀ ann n s' t'
        | none => none
theorem topRunT_of : ∀ {n : Nat} {s s' : SharedT} {t : Thread}, topRunT tb p w n₀ ann n s t = some s' → topRun tb p w n₀ ann n s.abs t = some s'.abs
  | 0, _, _, _, h => by cases h
  | n + 1, s, s', t, h => by
    unfold topRunT at h
    unfold topRun
    cases he : through t with
    | true => rw [he] at h; cases h; rfl
    | false =>
      rw [he] at h
      cases hk : stepOk n₀ ann t with
      | false => rw [hk] at h; cases h
      | true =>
        rw [hk] at h
        cases hs : stepT (denote tb) p w s t with
        | none => rw [hs] at h; cases h
        | some r => obtain ⟨s₂, t₂⟩ := r; rw [hs] at h; rw [stepT_spec hs]; exact topRunT_of h
end

theorem left_one {p q : Program} {loose : List Str} {Xt : Shared → Bool} {α : Type} {Yf : Shared → α} {Ya : World → α} {N : Nat} {g0 : Bool} {H₀ : Params → Heap} {T₀ : Params → BT} {n₀ : Nat} {life : Life} {gs₀ : Array GenState} {d₀ : Drawn} {k₀ : Nat} {m₀ : Nat} {ann : Option Value} {M : Nat}
    (open_ : ∀ w : World, (fencedOpening treeTable p w N).map (fun s => (s.heap, s.gens, s.drawn, s.toks)) = some (H₀ w.params, gs₀, d₀, k₀))
    (size : ∀ w : World, ((H₀ w.params).isNs mainGlobals && gs₀.size == 0, (H₀ w.params).objs.size, (H₀ w.params).nsMap mainGlobals "__annotations__") = (true, m₀, ann))
    (abs : ∀ P, H₀ P = absHeap (T₀ P) n₀ life)
    (le : Nat.ble M N = true)
    (run : ∀ (w : World) (os : OsState), (topRunT treeTable p w m₀ ann M ⟨T₀ w.params, n₀, life, gs₀, d₀, k₀, os⟩ (topStub p)).map (fun s => ((staticsOk (importedModules p.main.body) (H₀ w.params) s.abs.heap && namesBound p s.abs.heap && gensDone s.abs && laidKept (H₀ w.params) s.abs.heap),
        openSeen q loose (importedModules p.main.body) Xt g0 s.abs, Yf s.abs)) = some (true, openGood q loose, Ya w)) : LeftO p q loose Xt Yf Ya N g0 := fun w => by
  obtain ⟨⟨h, gs, d, k, os⟩, e, e'⟩ := Option.map_eq_some_iff.mp (open_ w)
  obtain ⟨rfl, rfl, rfl, rfl⟩ : h = H₀ w.params ∧ gs = gs₀ ∧ d = d₀ ∧ k = k₀ := by simpa using e'
  obtain ⟨z1, z2, z3⟩ : _ ∧ _ ∧ _ := by simpa only [Prod.mk.injEq] using size w
  obtain ⟨s₁, r, l⟩ := Option.map_eq_some_iff.mp (run w os)
  obtain ⟨l1, l2, l3⟩ : _ ∧ _ ∧ _ := by simpa only [Prod.mk.injEq] using l
  have r := topRun_mono (N - M) _ _ _ _ (topRunT_of r)
  rw [show M + (N - M) = N by have := Nat.le_of_ble_eq_true le; omega] at r
  have r : topRun treeTable p w m₀ ann N ⟨H₀ w.params, gs, d, k, os⟩ (topStub p) = some s₁.abs := by rw [abs]; exact r
  have t : topFrom treeTable p w N ⟨H₀ w.params, gs, d, k, os⟩ = some s₁.abs := by
    unfold topFrom
    dsimp only
    rw [z1, z2, z3, r]
    show (match staticsOk (importedModules p.main.body) (H₀ w.params) s₁.abs.heap && namesBound p s₁.abs.heap && gensDone s₁.abs && laidKept (H₀ w.params) s₁.abs.heap with | true => _ | false => _) = _
    rw [l1]
  unfold openEnds
  rw [e]
  show (Option.map _ (topFrom treeTable p w N _)) = _
  rw [t]
  dsimp only [Option.map]
  rw [l2, l3]

noncomputable section
noncomputable def pw : Program := PySem.Challenge.pw_pq0312_01
noncomputable def lq : Program := { PySem.Challenge.pw_pq0312_01 with main := { PySem.Challenge.pw_pq0312_01.main with body := [stAt 40, stAt 79] } }
noncomputable def loose : List Str := [Str.ofString "_wall", Str.ofString "downcase", Str.ofString "upcase", Str.ofString "fold", Str.ofString "is_upper", Str.ofString "is_lower", Str.ofString "LispSignal", Str.ofString "LINE_FEED_regplaces", Str.ofString "is_word_at", Str.ofString "is_symbol_at", Str.ofString "is_bound", Str.ofString "holds_at", Str.ofString "CLASSES", Str.ofString "CLOSES", Str.ofString "OPENS", Str.ofString "COLON", Str.ofString "MINUS", Str.ofString "NOT", Str.ofString "UNMATCHED", Str.ofString "class_end", Str.ofString "read_class", Str.ofString "read_part", Str.ofString "read_set", Str.ofString "is_letter", Str.ofString "is_figure", Str.ofString "is_of_ascii_class", Str.ofString "is_of_class", Str.ofString "is_in_ranges", Str.ofString "LINE_FEED_regmachine", Str.ofString "MOST_STEPS", Str.ofString "Choice", Str.ofString "Regmachine", Str.ofString "is_here", Str.ofString "search_forward", Str.ofString "re_search_forward", Str.ofString "re_search_backward", Str.ofString "again", Str.ofString "PLACES", Str.ofString "SYMBOL_PLACES", Str.ofString "KINDS"] ++ [Str.ofString "MOST_TIMES", Str.ofString "MOST_GROUPS", Str.ofString "bad_regexp", Str.ofString "sign_of", Str.ofString "sign_at", Str.ofString "is_escaped", Str.ofString "joined", Str.ofString "Frame", Str.ofString "Parsing", Str.ofString "parse_regexp", Str.ofString "MOST_ROWS", Str.ofString "MOST_TASKS", Str.ofString "PLAIN", Str.ofString "Regcode", Str.ofString "Compiling", Str.ofString "compile_node", Str.ofString "compile_regexp", Str.ofString "WORD", Str.ofString "PUNCTUATION", Str.ofString "INHERITS", Str.ofString "Syntax", Str.ofString "SyntaxTable", Str.ofString "TextRow", Str.ofString "_law_draw", Str.ofString "_law_codes", Str.ofString "_law_mirrored", Str.ofString "_law_whole"]
noncomputable def bootTree (P : Params) : BT := (.node (boot_o_0 P) (.node (boot_o_1 P) (.node (boot_o_3 P) (.node (boot_o_7 P) .nil .nil) .nil) (.node (boot_o_5 P) (.node (boot_o_9 P) .nil .nil) .nil)) (.node (boot_o_2 P) (.node (boot_o_4 P) (.node (boot_o_8 P) .nil .nil) .nil) (.node (boot_o_6 P) (.node (boot_o_10 P) .nil .nil) .nil)))
noncomputable def hookObsG (as : List Addr) (s : Shared) : List (Option Obj) × List (Option Obj) := (as.map s.heap.get?, [nat_lit 848].map s.heap.get?)
noncomputable abbrev hookObs : Shared → List (Option Obj) × List (Option Obj) := hookObsG Kas
noncomputable def hookVal (w : World) : List (Option Obj) × List (Option Obj) := ((K w.params).map fun p => some p.2, [nat_lit 848].map fun _ => some (tabObj #[]))
noncomputable def lookRun (p q : Program) (lo : List Str) (as : List Addr) (w : World) (os : OsState) :=
  (topRunT treeTable p w 11 (some (.ref 6)) 5700 ⟨bootTree w.params, 11, {}, Array.mk [], boot_drawn, boot_toks, os⟩ (topStub p)).map (fun s => ((staticsOk (importedModules p.main.body) (boot_heap w.params) s.abs.heap && namesBound p s.abs.heap && gensDone s.abs && laidKept (boot_heap w.params) s.abs.heap),
        openSeen q lo (importedModules p.main.body) (fun s => xlAt q [] s && recOk [] s) true s.abs, hookObsG as s.abs))
noncomputable def lookGood (q : Program) (lo : List Str) (hv : World → List (Option Obj) × List (Option Obj)) (w : World) := (true, openGood q lo, hv w)
end
noncomputable section
noncomputable def lwF (p : Program) (n : Str) (ab : List Str) : OpenLaw := { prog := p, name := n, about := ab, foot := 5, most := some 63, bound := none, writes := false }
noncomputable def r1 (p : Program) : Bool := sreFenced p.main && ((moduleNames p.main.body).isEmpty || lookedIntoSs (moduleNames p.main.body) p.main.body)
noncomputable def r2 (p : Program) : Bool := namesResolve p
noncomputable def r3 (p : Program) : Bool := p.boundNames.all (fun n => !worldNames.contains n)
noncomputable def r4 (p : Program) : Bool := noRoadLSs { strict := !(importedModules p.main.body).all cThrough.contains, foot := none, bare := (["vars", "dir", "locals"] : List Str).filter (readsOut p p.main.body) } p.main.body
noncomputable def r5 (p : Program) : Bool := namesMeet p p.main.body fun _ n => attrL n
noncomputable def partR (r : OpenRow) : Bool := r.loose.isEmpty && r.makers.isEmpty &&
  (r.records.isEmpty || r.raises.all fun ct => ct.1 != .builtin "AttributeError" && ct.1 != .builtin "TypeError") &&
  (r.raises.all fun ct => match ct.1 with | .builtin n => !r.prog.boundNames.contains (Str.ofString n) && !ofTheWorld.contains n | .own _ => true) &&
  decide (r.records.map (·.1)).Nodup && (r.records.all fun x => !x.1.opensWith "__" && !builtinNamed x.1 && r.prog.boundNames.contains x.1 && x.2.all fun f => !f.1.opensWith "__") &&
  r.toRowW.solid && r.pre.litsOk && r.post.litsOk && r.raises.all (·.2.litsOk) &&
  r.mutates.all (fun i => match r.args[i]? with
    | some sh => !sh.arms.any WShape.isObj
    | none => false) &&
  r.within.all (fun i => decide (i < r.args.length)) && r.same.all (fun i => decide (i < r.args.length))
noncomputable def r6 (p : Program) (n : Str) (ab : List Str) : Bool := partR (lwF p n ab).row
noncomputable def r7 (p : Program) (n : Str) (ab : List Str) : Bool := (lwF p n ab).row.prog.boundNames.contains (lwF p n ab).row.name && !startupNames.contains (lwF p n ab).row.name
noncomputable def q2 (p : Program) (n : Str) (ab : List Str) : Bool := decide ((lwF p n ab).foot ≤ (behindTheImports (lwF p n ab).prog).length) && (lwF p n ab).footing.all footLine && noClassBlock (lwF p n ab).prog (lwF p n ab).footing &&
  (lwF p n ab).most.all (fun n => decide (63 ≤ n)) && (lwF p n ab).bound.all (fun n => decide (2 ^ 63 ≤ n))
noncomputable def q3 (p : Program) (n : Str) (ab : List Str) : Bool := noRoadLSs { strict := true, foot := some (lwF p n ab).bound', writes := (lwF p n ab).writes, may := (lwF p n ab).may } (lwF p n ab).footing &&
  defStands (lwF p n ab).about (lwF p n ab).above && (lwF p n ab).namesIt && (["type", "isinstance", "issubclass", "getattr", "hasattr"] : List Str).all (fun n' => (lwF p n ab).about != [n'])
noncomputable def q4 (p : Program) (n : Str) (ab : List Str) : Bool := (lwF p n ab).bound'.all (fun n' => !builtinNamed n' || (lwF p n ab).about == [n'] || !(lwF p n ab).reads n')
noncomputable def q5 (p : Program) (n : Str) (ab : List Str) : Bool := (!(lwF p n ab).writes || ((lwF p n ab).prog.main.body.flatMap importedNames).all fun n' => !(lwF p n ab).reads n') && ((lwF p n ab).prog.main.body.flatMap importedNames).all (fun n' => !(lwF p n ab).reads n' || (drawsOf n' (lwF p n ab).prog.main.body).all fun mn => mn.2 != ("attrgetter" : Str) && mn.2 != ("methodcaller" : Str)) &&
  namesMeet (lwF p n ab).prog (lwF p n ab).footing (fun sc n' => (!(["type", "isinstance", "issubclass", "getattr", "hasattr"] : List Str).contains n' || sc.names.lookup n' == some .globalImplicit) &&
    ((lwF p n ab).may != some n' || sc.kind == .module || sc.names.lookup n' == some .globalImplicit))
noncomputable def q6 (p : Program) (n : Str) (ab : List Str) : Bool := (lwF p n ab).own.contains (lwF p n ab).name && (lwF p n ab).own.eraseDups.length == (lwF p n ab).own.length && (lwF p n ab).own.all (fun n' => !builtinNamed n')
noncomputable def q7 (p : Program) (n : Str) (ab : List Str) : Bool := namesMeet (lwF p n ab).prog (lwF p n ab).above (fun _ n' => !(lwF p n ab).own.contains n')
noncomputable def q8 (p : Program) (n : Str) (ab : List Str) : Bool := namesMeet (lwF p n ab).prog (lwF p n ab).footing fun sc n' => sc.kind == .module || sc.names.lookup n' != some .globalExplicit
end
theorem part_split {r : OpenRow} (h : looksOpen r.prog = true) (k : partR r = true) : r.partSaid = true := by
  unfold partR at k
  unfold OpenRow.partSaid
  rw [h, Bool.true_and]
  exact k
theorem row_split {p : Program} {n : Str} {ab : List Str} (h1 : r1 p = true) (h2 : r2 p = true) (h3 : r3 p = true) (h4 : r4 p = true) (h5 : r5 p = true) (h6 : r6 p n ab = true) (h7 : r7 p n ab = true) : (lwF p n ab).row.wellSaid = true := by
  have hl : looksOpen p = true := by
    unfold r1 at h1; unfold r2 at h2; unfold r3 at h3; unfold r4 at h4; unfold r5 at h5
    unfold looksOpen
    simp only [Bool.and_eq_true] at h1 ⊢
    exact ⟨⟨⟨⟨h1, h2⟩, h3⟩, h4⟩, h5⟩
  unfold r7 at h7
  simp only [Bool.and_eq_true] at h7
  unfold OpenRow.wellSaid
  simp only [Bool.and_eq_true]
  exact ⟨⟨part_split hl h6, h7.1⟩, h7.2⟩
theorem said_split {p : Program} {n : Str} {ab : List Str} (h1 : (lwF p n ab).row.wellSaid = true) (h2 : q2 p n ab = true) (h3 : q3 p n ab = true) (h4 : q4 p n ab = true) (h5 : q5 p n ab = true) (h6 : q6 p n ab = true) (h7 : q7 p n ab = true) (h8 : q8 p n ab = true) : (lwF p n ab).wellSaid = true := by
  unfold q2 at h2; unfold q3 at h3; unfold q4 at h4; unfold q5 at h5; unfold q6 at h6; unfold q7 at h7; unfold q8 at h8
  unfold OpenLaw.wellSaid
  generalize lwF p n ab = l at *
  simp only [Bool.and_eq_true] at h2 h3 h5 h6 ⊢
  obtain ⟨⟨⟨⟨a1, a2⟩, a3⟩, a4⟩, a5⟩ := h2
  obtain ⟨⟨⟨b1, b2⟩, b3⟩, b4⟩ := h3
  obtain ⟨⟨c1, c2⟩, c3⟩ := h5
  obtain ⟨⟨d1, d2⟩, d3⟩ := h6
  exact ⟨⟨⟨⟨⟨⟨⟨⟨⟨⟨⟨⟨⟨⟨⟨⟨⟨⟨h1, a1⟩, a2⟩, a3⟩, a4⟩, a5⟩, b1⟩, b2⟩, b3⟩, b4⟩, h4⟩, c1⟩, c2⟩, c3⟩, d1⟩, d2⟩, d3⟩, h7⟩, h8⟩
theorem primeq : (fun (_ : type_of% @r1) (_ : type_of% @r2) (_ : type_of% @r3) (_ : type_of% @r4) (_ : type_of% @r5) (_ : type_of% @r6) (_ : type_of% @r7) (_ : type_of% @q2) (_ : type_of% @q3) (_ : type_of% @q4) (_ : type_of% @q5) (_ : type_of% @q6) (_ : type_of% @q7) (_ : type_of% @q8) => true) r1 r2 r3 r4 r5 r6 r7 q2 q3 q4 q5 q6 q7 q8 = true := by k_qdec
theorem hr1 : r1 PySem.Challenge.pw_pq0312_01 = true := by
  rw [PySem.W.Fast.te11728525808757438865]
  kernel_rfl
theorem hr2 : r2 PySem.Challenge.pw_pq0312_01 = true := by
  rw [PySem.W.Fast.te14222412412683842119]
  kernel_rfl
theorem hr3 : r3 PySem.Challenge.pw_pq0312_01 = true := by
  rw [PySem.W.Fast.te3412815222410510647]
  kernel_rfl
theorem hr4 : r4 PySem.Challenge.pw_pq0312_01 = true := by
  rw [PySem.W.Fast.te8242320063526165506]
  kernel_rfl
theorem hr5 : r5 PySem.Challenge.pw_pq0312_01 = true := by
  rw [PySem.W.Fast.te6174160287054491191]
  kernel_rfl
theorem hr6 : r6 PySem.Challenge.pw_pq0312_01 (Str.ofString "law") [Str.ofString "search_backward"] = true := by
  rw [PySem.W.Fast.te5212107299393775442]
  kernel_rfl
theorem hr7 : r7 PySem.Challenge.pw_pq0312_01 (Str.ofString "law") [Str.ofString "search_backward"] = true := by
  rw [PySem.W.Fast.te14790784316226502552]
  kernel_rfl
theorem hq2 : q2 PySem.Challenge.pw_pq0312_01 (Str.ofString "law") [Str.ofString "search_backward"] = true := by
  rw [PySem.W.Fast.te10749648227472136904]
  kernel_rfl
theorem hq3 : q3 PySem.Challenge.pw_pq0312_01 (Str.ofString "law") [Str.ofString "search_backward"] = true := by
  rw [PySem.W.Fast.te6678310280535754287]
  kernel_rfl
theorem hq4 : q4 PySem.Challenge.pw_pq0312_01 (Str.ofString "law") [Str.ofString "search_backward"] = true := by
  rw [PySem.W.Fast.te12134628083006084023]
  kernel_rfl
theorem hq5 : q5 PySem.Challenge.pw_pq0312_01 (Str.ofString "law") [Str.ofString "search_backward"] = true := by
  rw [PySem.W.Fast.te2811230107334608770]
  kernel_rfl
theorem hq6 : q6 PySem.Challenge.pw_pq0312_01 (Str.ofString "law") [Str.ofString "search_backward"] = true := by
  rw [PySem.W.Fast.te13888525840237353883]
  kernel_rfl
theorem hq7 : q7 PySem.Challenge.pw_pq0312_01 (Str.ofString "law") [Str.ofString "search_backward"] = true := by
  rw [PySem.W.Fast.te9331302867872295382]
  kernel_rfl
theorem hq8 : q8 PySem.Challenge.pw_pq0312_01 (Str.ofString "law") [Str.ofString "search_backward"] = true := by
  rw [PySem.W.Fast.te9261775841058365350]
  kernel_rfl
theorem said_ok : PySem.Challenge.rw_pq0312_01.wellSaid = true := by
  show (lwF PySem.Challenge.pw_pq0312_01 (Str.ofString "law") [Str.ofString "search_backward"]).wellSaid = true
  exact said_split (row_split hr1 hr2 hr3 hr4 hr5 hr6 hr7) hq2 hq3 hq4 hq5 hq6 hq7 hq8
set_option maxRecDepth 100000 in
set_option maxHeartbeats 0 in
theorem prime1 : (fun (_ : type_of% @lookRun) (_ : type_of% @lookGood) => true) lookRun lookGood = true := by k_qdec
set_option maxRecDepth 100000 in
set_option maxHeartbeats 0 in
theorem run_f (w : World) (os : OsState) : PySem.W.Fast.tw2244690237530000569 pw lq loose Kas (w.withFollow "special-get-raises" false) os = some (lookGood lq loose hookVal (w.withFollow "special-get-raises" false)) := by kernel_rfl
set_option maxRecDepth 100000 in
set_option maxHeartbeats 0 in
theorem run_t (w : World) (os : OsState) : PySem.W.Fast.tw2244690237530000569 pw lq loose Kas (w.withFollow "special-get-raises" true) os = some (lookGood lq loose hookVal (w.withFollow "special-get-raises" true)) := by kernel_rfl
theorem run_ok (w : World) (os : OsState) : lookRun pw lq loose Kas w os = some (lookGood lq loose hookVal w) := by
  rw [PySem.W.Fast.te2244690237530000569]
  exact byRow2 "special-get-raises" (P := fun w => PySem.W.Fast.tw2244690237530000569 pw lq loose Kas w os = some (lookGood lq loose hookVal w)) (fun w => run_f w os) (fun w => run_t w os) w
theorem left_ok : LeftO pw lq loose (fun s => xlAt lq [] s && recOk [] s) hookObs hookVal 6000 :=
  left_one (T₀ := bootTree) (n₀ := 11) (life := {}) (m₀ := 11) (ann := some (.ref 6)) (M := 5700)
    (boot_open (by kernel_rfl) (by decide +kernel) (fun s => by kernel_rfl)) (fun w => by kernel_rfl) (fun P => by kernel_rfl) (by decide +kernel) run_ok
noncomputable abbrev HookK : Hook := kmHook K Kas (fun _ => by kernel_rfl) [nat_lit 848]
noncomputable def upd (m : Str → Option Value) (x : Str) (v : Value) (y : Str) : Option Value := if y = x then some v else m y
noncomputable def updL (bs : List (Str × Value)) : Str → Option Value := bs.foldl (fun m b => upd m b.1 b.2) (fun _ => none)
theorem updF_eq (bs : List (Str × Value)) : ∀ m : Str → Option Value, bs.foldl (fun m b => upd m b.1 b.2) m = fun y => (bs.reverse.lookup y).or (m y) := by
  induction bs with
  | nil => intro m; rfl
  | cons b r ih =>
    intro m
    rw [List.foldl_cons, ih]
    funext y
    rw [List.reverse_cons, List.lookup_append]
    cases h : r.reverse.lookup y with
    | some v => rfl
    | none =>
      show upd m b.1 b.2 y = ((List.lookup y [b]).or (m y))
      obtain ⟨x, v⟩ := b
      unfold upd
      by_cases e : y = x
      · subst e; simp [List.lookup]
      · have e' : (y == x) = false := by simpa using e
        simp [List.lookup, e, e']
theorem updL_eq (bs : List (Str × Value)) : updL bs = fun y => bs.reverse.lookup y := by
  unfold updL; rw [updF_eq]; funext y; simp
structure EnvOk (env : Env) (L : Addr) : Prop where
  k : env.scope.kind = .function
  g : env.globals = mainGlobals
  b : env.builtins = builtinsNs
  l : env.locals = L
section
variable {s : Shared} {name qual : Str} {body : List Stmt} {scope : Scope} {dV kV doc pm cdv ct : Value} {an : Option Addr} {ds : List Expr}
theorem binds1 {n1 : Str} {a1 : Option Expr} {p1 : Pos} {v1 : Value} (h : bindArgs (fnOf name qual ⟨[], [⟨n1, a1, p1⟩], none, [], [], none, ds⟩ body scope dV kV doc pm an cdv ct) ⟨[v1], []⟩ = pure [(n1, v1)]) : BindsTo s (fnOf name qual ⟨[], [⟨n1, a1, p1⟩], none, [], [], none, ds⟩ body scope dV kV doc pm an cdv ct) ⟨[v1], []⟩ [(n1, v1)] := BindsTo.of_eq h
theorem binds2 {n1 n2 : Str} {a1 a2 : Option Expr} {p1 p2 : Pos} {v1 v2 : Value} (h : bindArgs (fnOf name qual ⟨[], [⟨n1, a1, p1⟩, ⟨n2, a2, p2⟩], none, [], [], none, ds⟩ body scope dV kV doc pm an cdv ct) ⟨[v1, v2], []⟩ = pure [(n1, v1), (n2, v2)]) : BindsTo s (fnOf name qual ⟨[], [⟨n1, a1, p1⟩, ⟨n2, a2, p2⟩], none, [], [], none, ds⟩ body scope dV kV doc pm an cdv ct) ⟨[v1, v2], []⟩ [(n1, v1), (n2, v2)] := BindsTo.of_eq h
theorem binds3 {n1 n2 n3 : Str} {a1 a2 a3 : Option Expr} {p1 p2 p3 : Pos} {v1 v2 v3 : Value} (h : bindArgs (fnOf name qual ⟨[], [⟨n1, a1, p1⟩, ⟨n2, a2, p2⟩, ⟨n3, a3, p3⟩], none, [], [], none, ds⟩ body scope dV kV doc pm an cdv ct) ⟨[v1, v2, v3], []⟩ = pure [(n1, v1), (n2, v2), (n3, v3)]) : BindsTo s (fnOf name qual ⟨[], [⟨n1, a1, p1⟩, ⟨n2, a2, p2⟩, ⟨n3, a3, p3⟩], none, [], [], none, ds⟩ body scope dV kV doc pm an cdv ct) ⟨[v1, v2, v3], []⟩ [(n1, v1), (n2, v2), (n3, v3)] := BindsTo.of_eq h
theorem binds4 {n1 n2 n3 n4 : Str} {a1 a2 a3 a4 : Option Expr} {p1 p2 p3 p4 : Pos} {v1 v2 v3 v4 : Value} (h : bindArgs (fnOf name qual ⟨[], [⟨n1, a1, p1⟩, ⟨n2, a2, p2⟩, ⟨n3, a3, p3⟩, ⟨n4, a4, p4⟩], none, [], [], none, ds⟩ body scope dV kV doc pm an cdv ct) ⟨[v1, v2, v3, v4], []⟩ = pure [(n1, v1), (n2, v2), (n3, v3), (n4, v4)]) : BindsTo s (fnOf name qual ⟨[], [⟨n1, a1, p1⟩, ⟨n2, a2, p2⟩, ⟨n3, a3, p3⟩, ⟨n4, a4, p4⟩], none, [], [], none, ds⟩ body scope dV kV doc pm an cdv ct) ⟨[v1, v2, v3, v4], []⟩ [(n1, v1), (n2, v2), (n3, v3), (n4, v4)] := BindsTo.of_eq h
theorem binds5 {n1 n2 n3 n4 n5 : Str} {a1 a2 a3 a4 a5 : Option Expr} {p1 p2 p3 p4 p5 : Pos} {v1 v2 v3 v4 v5 : Value} (h : bindArgs (fnOf name qual ⟨[], [⟨n1, a1, p1⟩, ⟨n2, a2, p2⟩, ⟨n3, a3, p3⟩, ⟨n4, a4, p4⟩, ⟨n5, a5, p5⟩], none, [], [], none, ds⟩ body scope dV kV doc pm an cdv ct) ⟨[v1, v2, v3, v4, v5], []⟩ = pure [(n1, v1), (n2, v2), (n3, v3), (n4, v4), (n5, v5)]) : BindsTo s (fnOf name qual ⟨[], [⟨n1, a1, p1⟩, ⟨n2, a2, p2⟩, ⟨n3, a3, p3⟩, ⟨n4, a4, p4⟩, ⟨n5, a5, p5⟩], none, [], [], none, ds⟩ body scope dV kV doc pm an cdv ct) ⟨[v1, v2, v3, v4, v5], []⟩ [(n1, v1), (n2, v2), (n3, v3), (n4, v4), (n5, v5)] := BindsTo.of_eq h
theorem binds6 {n1 n2 n3 n4 n5 n6 : Str} {a1 a2 a3 a4 a5 a6 : Option Expr} {p1 p2 p3 p4 p5 p6 : Pos} {v1 v2 v3 v4 v5 v6 : Value} (h : bindArgs (fnOf name qual ⟨[], [⟨n1, a1, p1⟩, ⟨n2, a2, p2⟩, ⟨n3, a3, p3⟩, ⟨n4, a4, p4⟩, ⟨n5, a5, p5⟩, ⟨n6, a6, p6⟩], none, [], [], none, ds⟩ body scope dV kV doc pm an cdv ct) ⟨[v1, v2, v3, v4, v5, v6], []⟩ = pure [(n1, v1), (n2, v2), (n3, v3), (n4, v4), (n5, v5), (n6, v6)]) : BindsTo s (fnOf name qual ⟨[], [⟨n1, a1, p1⟩, ⟨n2, a2, p2⟩, ⟨n3, a3, p3⟩, ⟨n4, a4, p4⟩, ⟨n5, a5, p5⟩, ⟨n6, a6, p6⟩], none, [], [], none, ds⟩ body scope dV kV doc pm an cdv ct) ⟨[v1, v2, v3, v4, v5, v6], []⟩ [(n1, v1), (n2, v2), (n3, v3), (n4, v4), (n5, v5), (n6, v6)] := BindsTo.of_eq h
end
section
variable {prog : Program} {w : World} {A : Around} {E : Value → Shared → Prop} {s : Shared} {h₀ : Heap} {L : Addr} {m : Str → Option Value} {news : List (Addr × Obj)}
noncomputable def ListIn (h : Heap) (l : Addr) (ns : List Int) : Prop := ∃ vs, h.IsList l vs.toArray ∧ IntsAre vs ns ∧ ns.length ≤ 40
theorem ListIn.keeps {h h' : Heap} {l : Addr} {ns : List Int} (x : ListIn h l ns) (k : h.StaysIn h') : ListIn h' l ns := let ⟨vs, a, r⟩ := x; ⟨vs, stays_list k a, r⟩
theorem len_ints {l : Addr} {vs : List Value} {ns : List Int} {Q : Value → Shared → Prop} (F : Fr h₀ L s.heap m) (hl : h₀.IsList l vs.toArray) (hi : IntsAre vs ns) (hb : ns.length ≤ 1000)
    (h : ∀ t, Q (.int ns.length t) { s with toks := s.toks + 1 + 1 }) : wpAny (model prog w) A (call (.builtin "len") [.ref l]) Q E s := by
  refine len_list (F.lst hl) (by simp [hi.length]; omega) ?_
  rw [List.size_toArray, hi.length]; exact h _
theorem item_ints {value slice : Expr} {l : Addr} {vs : List Value} {ns : List Int} {k : Int} {u : Tok} {Q : Value → Shared → Prop} (F : Fr h₀ L s.heap m) (hl : h₀.IsList l vs.toArray) (hi : IntsAre vs ns)
    (h0 : 0 ≤ k) (h1 : k < ns.length) (hb : ns.length ≤ 1000) (h : ∀ t, Q (.int (ns.getD k.toNat 0) t) s)
    (hs : subscripted slice false (.ref l) (.int k u) = operate [.ref l, .int k u] (getItem (.ref l) (.int k u)) := by with_unfolding_all rfl) :
    wpAny (model prog w) A (subscriptTail value slice (.ref l) (.int k u)) Q E s :=
  item_anyK (F.lst hl) hi h0 h1 (by omega) h hs
theorem inst_base {x C dx : Addr} {od : Obj} {h : Heap} (hx : h₀.get? x = some (instObj C dx)) (hd : h₀.get? dx = some od) (F : Fr h₀ L h m) : InstAt h x (instObj C dx) C (some od) :=
  ⟨F.keep _ _ hx, rfl, rfl, F.keep _ _ hd⟩
end
noncomputable def Spec (w : World) (D U : Nat) (f : Addr) (args : List Value) (pre : Heap → Prop) (post : Value → List (Addr × Obj) → Prop) : Prop :=
  ∀ (p : Program) (loose : List Str) (mean : ExcName → Option Value) (mg mb : Str → Option Value) (dp un : Nat) (gd : Option (List Code)) (cn : Str) (cs : Scope) (a : Addr) (ccd : Value) (cl : List (Str × Addr)) (outer : List Env) (A₀ : Around) (base h₀ : Heap) (L : Addr) (m : Str → Option Value) (news : List (Addr × Obj)) (s : Shared) (Q E : Value → Shared → Prop),
    Below A₀ base outer h₀ → Fr h₀ L s.heap m → (K w.params).In h₀ → News h₀ L s.heap news → Top p loose mean mg mb h₀ → cs.kind = .function → dp + D < recursionLimit → un + U < cLine → pre s.heap →
    (∀ v nw h' tk', Fr h₀ L h' m → News h₀ L h' (nw ++ news) → (∀ p ∈ nw, s.heap.get? p.1 = none) → s.heap.StaysIn h' → post v nw → Q v { s with heap := h', toks := tk' }) →
    wpAny (model PySem.Challenge.rw_pq0312_01.prog w) (ktrTop dp un gd cn cs L a ccd cl outer) (call (.ref f) args) Q E s
theorem Spec.use {w : World} {D U : Nat} {f : Addr} {args : List Value} {pre : Heap → Prop} {post : Value → List (Addr × Obj) → Prop} (hc : Spec w D U f args pre post)
    {p : Program} {loose : List Str} {mean : ExcName → Option Value} {mg mb : Str → Option Value} {dp un : Nat} {gd : Option (List Code)} {cn : Str} {cs : Scope} {a : Addr} {ccd : Value} {cl : List (Str × Addr)} {outer : List Env} {A₀ : Around} {base h₀ : Heap} {L : Addr} {m : Str → Option Value} {news : List (Addr × Obj)} {h : Heap} {g : Array GenState} {d : Drawn} {tk : Nat} {os : OsState} {Q E : Value → Shared → Prop}
    (B : Below A₀ base outer h₀) (F : Fr h₀ L h m) (X : (K w.params).In h₀) (N : News h₀ L h news) (T : Top p loose mean mg mb h₀) (hk : cs.kind = .function) (hd : dp + D < recursionLimit) (hu : un + U < cLine) (hp : pre h)
    (ret : ∀ v nw h' tk', Fr h₀ L h' m → News h₀ L h' (nw ++ news) → (∀ p ∈ nw, h.get? p.1 = none) → h.StaysIn h' → post v nw → Q v ⟨h', g, d, tk', os⟩) :
    wpAny (model PySem.Challenge.rw_pq0312_01.prog w) (ktrTop dp un gd cn cs L a ccd cl outer) (call (.ref f) args) Q E ⟨h, g, d, tk, os⟩ := hc _ _ _ _ _ _ _ _ _ _ _ _ _ _ _ _ _ _ _ _ _ _ _ B F X N T hk hd hu hp ret
theorem Spec.useI {w : World} {D U : Nat} {f : Addr} {args : List Value} {pre : Heap → Prop} {x : Int} (hc : Spec w D U f args pre (fun v nw => nw = [] ∧ ∃ t, v = .int x t))
    {p : Program} {loose : List Str} {mean : ExcName → Option Value} {mg mb : Str → Option Value} {dp un : Nat} {gd : Option (List Code)} {cn : Str} {cs : Scope} {a : Addr} {ccd : Value} {cl : List (Str × Addr)} {outer : List Env} {A₀ : Around} {base h₀ : Heap} {L : Addr} {m : Str → Option Value} {news : List (Addr × Obj)} {h : Heap} {g : Array GenState} {d : Drawn} {tk : Nat} {os : OsState} {Q E : Value → Shared → Prop}
    (B : Below A₀ base outer h₀) (F : Fr h₀ L h m) (X : (K w.params).In h₀) (N : News h₀ L h news) (T : Top p loose mean mg mb h₀) (hk : cs.kind = .function) (hd : dp + D < recursionLimit) (hu : un + U < cLine) (hp : pre h)
    (ret : ∀ h' tk' t, Fr h₀ L h' m → News h₀ L h' news → Q (.int x t) ⟨h', g, d, tk', os⟩) :
    wpAny (model PySem.Challenge.rw_pq0312_01.prog w) (ktrTop dp un gd cn cs L a ccd cl outer) (call (.ref f) args) Q E ⟨h, g, d, tk, os⟩ := hc.use B F X N T hk hd hu hp fun v nw h' tk' F' N' _ _ ⟨e, t, e2⟩ => by subst e; subst e2; exact ret h' tk' t F' N'
theorem Spec.useV {w : World} {D U : Nat} {f : Addr} {args : List Value} {pre : Heap → Prop} {x : Value} (hc : Spec w D U f args pre (fun v nw => nw = [] ∧ v = x))
    {p : Program} {loose : List Str} {mean : ExcName → Option Value} {mg mb : Str → Option Value} {dp un : Nat} {gd : Option (List Code)} {cn : Str} {cs : Scope} {a : Addr} {ccd : Value} {cl : List (Str × Addr)} {outer : List Env} {A₀ : Around} {base h₀ : Heap} {L : Addr} {m : Str → Option Value} {news : List (Addr × Obj)} {h : Heap} {g : Array GenState} {d : Drawn} {tk : Nat} {os : OsState} {Q E : Value → Shared → Prop}
    (B : Below A₀ base outer h₀) (F : Fr h₀ L h m) (X : (K w.params).In h₀) (N : News h₀ L h news) (T : Top p loose mean mg mb h₀) (hk : cs.kind = .function) (hd : dp + D < recursionLimit) (hu : un + U < cLine) (hp : pre h)
    (ret : ∀ h' tk', Fr h₀ L h' m → News h₀ L h' news → Q x ⟨h', g, d, tk', os⟩) :
    wpAny (model PySem.Challenge.rw_pq0312_01.prog w) (ktrTop dp un gd cn cs L a ccd cl outer) (call (.ref f) args) Q E ⟨h, g, d, tk, os⟩ := hc.use B F X N T hk hd hu hp fun v nw h' tk' F' N' _ _ ⟨e, e2⟩ => by subst e; subst e2; exact ret h' tk' F' N'
section
variable {prog : Program} {w : World} {A A₀ : Around} {s : Shared} {KF : Frag} {L : Addr} {h₀ base : Heap} {m mg mb : Str → Option Value} {news : List (Addr × Obj)} {p : Program} {loose : List Str} {mean : ExcName → Option Value}
theorem enterR {env : Env} {outer : List Env} {R : Result → Shared → Prop} {name qual : Str} {params : Arguments} {body : List Stmt} {scope : Scope} {dV kV doc pm cdv ct oc : Value} {an od : Option Addr} {osl : Array (Option Value)} {f : Addr} {args : Args} {binds : List (Str × Value)}
    (B : Below A₀ base outer h₀) (F : Fr h₀ L s.heap m) (X₀ : KF.In h₀) (N : News h₀ L s.heap news) (T : Top p loose mean mg mb h₀) (hA : A.frames = some (env :: outer)) (hf : env.frame = some L) (hke : env.scope.kind = .function)
    (ho : KF.lookup f = some ⟨oc, od, .func (fnOf name qual params body scope dV kV doc pm an cdv ct), osl⟩) (hcd : codeIn KF cdv qual = true) (hroom : A.depth < recursionLimit)
    (hbind : BindsTo s (fnOf name qual params body scope dV kV doc pm an cdv ct) args binds) (hloc : ∀ y ∈ binds, scope.names.lookup y.1 = some .local)
    (h : ∀ L' h₁ tk, Fr s.heap L' h₁ (updL binds) → News s.heap L' h₁ [] → Below A base (env :: outer) s.heap → KF.In s.heap → Top p loose mean mg mb s.heap → EnvOk (envOf qual scope L' f cdv) L' →
      wpAny (model prog w) (A.deeper (envOf qual scope L' f cdv)) (execs body (envOf qual scope L' f cdv))
        (fun fl s' => LeaveK h₀ L m s.heap (fun r s' => News h₀ L s'.heap news → s.heap.StaysIn s'.heap → R r s') (match fl with | .ret v => v | _ => .none) s')
        (fun e s' => wpAny (model prog w) (A.deeper (envOf qual scope L' f cdv)) (leaving (envOf qual scope L' f cdv) e) (fun _ s'' => R (.error e) s'') (fun e' s'' => R (.error e') s'') s')
        { s with heap := h₁, toks := tk })
    (hco : scope.isCoroutine = false) (hgen : scope.isGenerator = false) (hk : scope.kind = .function)
    (hcell : ∀ x ∈ scope.names, x.2 ≠ .cell) : codeAny (model prog w) A (.call (.ref f) args) R s := by
  obtain ⟨FG, BG, st, lv⟩ := groundX (R := fun r s' => News h₀ L s'.heap news → s.heap.StaysIn s'.heap → R r s') B F (News.nil (h := s.heap)) hA hf hke
  refine codeAny_call_def (fd := fnOf name qual params body scope dV kV doc pm an cdv ct) (body := body) (binds := binds) hroom ((X₀.keeps F.keep) _ _ ho) rfl (T.nolimit.keeps F.keep) (codeRec_of (X₀.keeps F.keep) hcd) rfl hbind hcell hloc (fun h₁ hns hk₁ => ?_) hco hgen hk
  refine wpAny_mono (h s.heap.objs.size h₁ _ ⟨updL_eq _ ▸ hns, fun b o e => hk₁ b o e, Nat.le_refl _⟩ News.nil BG (X₀.keeps st) (T.keeps st) ⟨hk, rfl, rfl, rfl⟩) (fun fl s' hl => ?_) fun _ _ y => y
  have hS : s.heap.StaysIn s'.heap := by obtain ⟨_, _, _, F', _⟩ := hl; exact F'.keep
  exact lv _ _ hl (fun p hp => ⟨hS _ _ (N p hp).1, (N p hp).2⟩) hS
end
section
variable {prog : Program} {w : World} {A A₀ : Around} {s : Shared} {KF : Frag} {L : Addr} {h₀ base : Heap} {m mg mb : Str → Option Value} {news : List (Addr × Obj)} {p : Program} {loose : List Str} {mean : ExcName → Option Value}
theorem enterRC {env : Env} {outer : List Env} {R : Result → Shared → Prop} {name qual : Str} {params : Arguments} {body : List Stmt} {scope : Scope} {dV kV doc pm cdv ct oc : Value} {an od : Option Addr} {osl : Array (Option Value)} {f : Addr} {args : Args} {binds : List (Str × Value)}
    (B : Below A₀ base outer h₀) (F : Fr h₀ L s.heap m) (X₀ : KF.In h₀) (N : News h₀ L s.heap news) (T : Top p loose mean mg mb h₀) (hA : A.frames = some (env :: outer)) (hf : env.frame = some L) (hke : env.scope.kind = .function)
    (ho : KF.lookup f = some ⟨oc, od, .func (fnOf name qual params body scope dV kV doc pm an cdv ct), osl⟩) (hcd : codeIn KF cdv qual = true) (hroom : A.depth < recursionLimit)
    (hbind : BindsTo s (fnOf name qual params body scope dV kV doc pm an cdv ct) args binds) (hkind : (binds.all fun y => scope.names.lookup y.1 == some .local || scope.names.lookup y.1 == some .cell) = true)
    (hnd : ((cellsFrom 0 scope.names []).map (·.1)).Nodup)
    (h : ∀ h₁ tk cells, Fr s.heap s.heap.objs.size h₁ (bindL (envOfC qual scope s.heap.objs.size f cdv).kindOf binds fun _ => none) → News s.heap s.heap.objs.size h₁ cells →
      CellsAre (bindC (envOfC qual scope s.heap.objs.size f cdv).kindOf binds fun _ => none) (cellsFrom (s.heap.objs.size + 1) scope.names []) cells → Below A base (env :: outer) s.heap → KF.In s.heap → Top p loose mean mg mb s.heap → EnvOk (envOfC qual scope s.heap.objs.size f cdv) s.heap.objs.size →
      wpAny (model prog w) (A.deeper (envOfC qual scope s.heap.objs.size f cdv)) (execs body (envOfC qual scope s.heap.objs.size f cdv))
        (fun fl s' => LeaveK h₀ L m s.heap (fun r s' => News h₀ L s'.heap news → s.heap.StaysIn s'.heap → R r s') (match fl with | .ret v => v | _ => .none) s')
        (fun e s' => wpAny (model prog w) (A.deeper (envOfC qual scope s.heap.objs.size f cdv)) (leaving (envOfC qual scope s.heap.objs.size f cdv) e) (fun _ s'' => R (.error e) s'') (fun e' s'' => R (.error e') s'') s')
        { s with heap := h₁, toks := tk })
    (hco : scope.isCoroutine = false) (hgen : scope.isGenerator = false) (hk : scope.kind = .function) : codeAny (model prog w) A (.call (.ref f) args) R s := by
  obtain ⟨FG, BG, st, lv⟩ := groundX (R := fun r s' => News h₀ L s'.heap news → s.heap.StaysIn s'.heap → R r s') B F (News.nil (h := s.heap)) hA hf hke
  refine codeAny_call_function hroom ((X₀.keeps F.keep) _ _ ho) rfl hco hgen rfl (codeRec_of (X₀.keeps F.keep) hcd) (hbind _ _ _ _ ?_)
  refine wpAny_newFunctionEnv_cells hk (kindsX hkind _) fun env' he s' x => ?_
  subst he
  have kept := x.toInCall.keep
  refine ⟨(T.nolimit.keeps F.keep).keeps kept, codeAny_func ?_⟩
  obtain ⟨h₁, tk, rfl, _⟩ := x.done
  obtain ⟨cells, NC, Y⟩ := Cl.news (h₀ := s.heap) (Nat.le_refl _) fun n c hm => ⟨x.cell n c (lookup_of_mem_nodup (cellsFrom_names scope.names 0 (s.heap.objs.size + 1) [] [] rfl ▸ hnd) hm), x.above n c hm⟩
  refine wpAny_mono (h h₁ tk cells ⟨x.toInCall.ns, fun b o e => kept b o e, Nat.le_refl _⟩ NC Y BG (X₀.keeps st) (T.keeps st) ⟨hk, rfl, rfl, rfl⟩) (fun fl s' hl => ?_) fun _ _ y => y
  have hS : s.heap.StaysIn s'.heap := by obtain ⟨_, _, _, F', _⟩ := hl; exact F'.keep
  exact lv _ _ hl (fun p hp => ⟨hS _ _ (N p hp).1, (N p hp).2⟩) hS
end
section
variable {h₀ h' : Heap} {L : Addr} {m : Str → Option Value} {news : List (Addr × Obj)} {s : Shared} {Q : Value → Shared → Prop} {t : Tok} {tk' : Nat}
noncomputable abbrev RetTo (h₀ : Heap) (L : Addr) (m : Str → Option Value) (news : List (Addr × Obj)) (s : Shared) (Q : Value → Shared → Prop) (post : Value → List (Addr × Obj) → Prop) : Prop :=
  ∀ v nw h' tk', Fr h₀ L h' m → News h₀ L h' (nw ++ news) → (∀ p ∈ nw, s.heap.get? p.1 = none) → s.heap.StaysIn h' → post v nw → Q v { s with heap := h', toks := tk' }
noncomputable abbrev tupII (a b : Int) (t u : Tok) : Obj := { cls := .type "tuple", data := .seq #[.int a t, .int b u] }
noncomputable def FoundAs (r : Option (Int × Int)) (v : Value) (nw : List (Addr × Obj)) : Prop := match r with
  | none => nw = [] ∧ v = .none
  | some (a, b) => ∃ l d t u k, v = .ref l ∧ nw = [(l, listOf #[.ref d] k), (d, tupII a b t u)]
theorem fin_found {r : Option (Int × Int)} {L' : Addr} {own : List (Addr × Obj)} {l d : Addr} {a b : Int} {t u : Tok} (hret : RetTo h₀ L m news s Q (fun v nw => FoundAs r v nw)) (e : r = some (a, b)) (F : Fr h₀ L h' m)
    (N₁ : News h₀ L h' ((l, listOf #[.ref d] 0) :: (d, tupII a b t u) :: own)) (N₀ : News s.heap L' h' ((l, listOf #[.ref d] 0) :: (d, tupII a b t u) :: own)) (N : News h₀ L h' news) (S : s.heap.StaysIn h') : Q (.ref l) { s with heap := h', toks := tk' } := by
  refine hret _ [(l, listOf #[.ref d] 0), (d, tupII a b t u)] _ _ F (fun p hp => ?_) (fun p hp => ?_) S ?_
  · rcases List.mem_append.mp hp with hp | hp
    · refine N₁ p ?_
      rcases List.mem_cons.mp hp with rfl | hp
      · exact .head _
      · obtain rfl := List.mem_singleton.mp hp; exact .tail _ (.head _)
    · exact N p hp
  · refine (N₀ p ?_).2.2
    rcases List.mem_cons.mp hp with rfl | hp
    · exact .head _
    · obtain rfl := List.mem_singleton.mp hp; exact .tail _ (.head _)
  · rw [e]; exact ⟨l, d, t, u, 0, rfl, rfl⟩
theorem fin_new {post : Value → List (Addr × Obj) → Prop} {L' : Addr} {nw : List (Addr × Obj)} {v : Value} (hret : RetTo h₀ L m news s Q post) (F : Fr h₀ L h' m)
    (N₁ : News h₀ L h' nw) (N₀ : News s.heap L' h' nw) (N : News h₀ L h' news) (S : s.heap.StaysIn h') (hp : post v nw) : Q v { s with heap := h', toks := tk' } :=
  hret _ nw _ _ F (fun p hp => (List.mem_append.mp hp).elim (N₁ p) (N p)) (fun p hp => (N₀ p hp).2.2) S hp
theorem fin_nofound {r : Option (Int × Int)} (hret : RetTo h₀ L m news s Q (fun v nw => FoundAs r v nw)) (e : r = none) (F : Fr h₀ L h' m) (N : News h₀ L h' news) (S : s.heap.StaysIn h') : Q .none { s with heap := h', toks := tk' } :=
  hret _ [] _ _ F N (fun _ h => nomatch h) S (by rw [e]; exact ⟨rfl, rfl⟩)
theorem fin_int {x y : Int} (hret : RetTo h₀ L m news s Q (fun v nw => nw = [] ∧ ∃ t, v = .int x t)) (e : y = x) (F : Fr h₀ L h' m) (N : News h₀ L h' news) (S : s.heap.StaysIn h') : Q (.int y t) { s with heap := h', toks := tk' } :=
  hret _ [] _ _ F N (fun _ h => nomatch h) S ⟨rfl, t, e ▸ rfl⟩
theorem fin_str {x y : Str} (hret : RetTo h₀ L m news s Q (fun v nw => nw = [] ∧ ∃ t, v = .str x t)) (e : y = x) (F : Fr h₀ L h' m) (N : News h₀ L h' news) (S : s.heap.StaysIn h') : Q (.str y t) { s with heap := h', toks := tk' } :=
  hret _ [] _ _ F N (fun _ h => nomatch h) S ⟨rfl, t, e ▸ rfl⟩
theorem fin_val {x y : Value} (hret : RetTo h₀ L m news s Q (fun v nw => nw = [] ∧ v = x)) (e : y = x) (F : Fr h₀ L h' m) (N : News h₀ L h' news) (S : s.heap.StaysIn h') : Q y { s with heap := h', toks := tk' } :=
  hret _ [] _ _ F N (fun _ h => nomatch h) S ⟨rfl, e⟩
end
local macro_rules | `(tactic| walk_at $s:str) => `(tactic| k_extra $s)
local macro_rules | `(tactic| k_inst) => `(tactic| exact inst_base (by assumption) (by assumption) (by k_asm))
local macro_rules | `(tactic| k_room) => `(tactic| ktr_room)
theorem gen_toks {α : Type} {M : Model} {A : Around} {t : Sem α} {Q : α → Shared → Prop} {E : Value → Shared → Prop} {h : Heap} {g : Array GenState} {d : Drawn} {X : Nat} {os : OsState} (H : ∀ tk, wpAny M A t Q E ⟨h, g, d, tk, os⟩) : wpAny M A t Q E ⟨h, g, d, X, os⟩ := H X
--reg
example : True := by
  k_with "call builtin:len" => (k_here; (with_reducible show wpAny _ _ (call (Value.builtin "len") [Value.ref _]) _ _ _); k_dflt (refine' len_ints ?k1 ?k2 ?k3 ?k4 ?_; (case k1 => k_asm); (case k2 => assumption); (case k3 => assumption); (case k4 => omega); k_whole; intro _))
  k_with "subscriptTail" => (k_here; (with_reducible show wpAny _ _ (subscriptTail _ _ (Value.ref _) (Value.int _ _)) _ _ _); (with_unfolding_all refine' item_ints ?k1 ?k2 ?k3 ?k4 ?k5 ?k6 ?_ ?k7; (case k1 => k_asm); (case k3 => with_reducible assumption); (case k2 => with_reducible assumption); (case k4 => omega); (case k5 => omega); (case k6 => omega); (case k7 => with_unfolding_all rfl); k_whole); intro _)
  k_with "callWith ref" => (k_here; (with_reducible show wpAny _ _ (callWith _ (Value.ref _) _ (backTo _ (starEach (_ :: _) _)) []) _ _ _); k_dflt (refine' callWith_K ?k1 ?k2 ?_; (case k1 => k_asm); (case k2 => k_is); k_whole))
  k_with "eval Call" => (k_here; k_dflt (refine Call_ ?_))
  k_with "ENTER" => (k_dflt (refine' enterR ?k1 ?k2 ?k3 ?k4 ?k5 ?kA ?kF ?kK ?k6 ?k7 ?k8 ?k9 ?kB ?_ ?c2 ?c3 ?c4 ?c5; (case kA => exact rfl); (case kF => exact rfl); (case kK => assumption); (case k1 => k_asm); (case k2 => k_asm); (case k3 => k_asm); (case k4 => k_asm); (case k5 => k_asm); (case k6 => k_is); (case k7 => k_is); (case k8 => ktr_room); (case k9 => first | ((with_reducible refine binds1 ?_); kernel_rfl) | ((with_reducible refine binds2 ?_); kernel_rfl) | ((with_reducible refine binds3 ?_); kernel_rfl) | ((with_reducible refine binds4 ?_); kernel_rfl) | ((with_reducible refine binds5 ?_); kernel_rfl) | ((with_reducible refine binds6 ?_); kernel_rfl) | exact BindsTo.of_eq rfl); (case c5 => decide); (case kB => exact locs rfl); (case c2 => exact rfl); (case c3 => exact rfl); (case c4 => exact rfl); k_whole; intro L' h' tk' F' N' B' X' T' hE'; (dsimp only [updL, List.foldl] at F'); (try dsimp only); (try k_fold)))
  k_with "ENTERC" => (k_dflt (refine' enterRC ?k1 ?k2 ?k3 ?k4 ?k5 ?kA ?kF ?kK ?k6 ?k7 ?k8 ?k9 ?kB ?kD ?_ ?c2 ?c3 ?c4; (case kA => exact rfl); (case kF => exact rfl); (case kK => assumption); (case k1 => k_asm); (case k2 => k_asm); (case k3 => k_asm); (case k4 => k_asm); (case k5 => k_asm); (case k6 => k_is); (case k7 => k_is); (case k8 => ktr_room); (case k9 => first | ((with_reducible refine binds1 ?_); kernel_rfl) | ((with_reducible refine binds2 ?_); kernel_rfl) | ((with_reducible refine binds3 ?_); kernel_rfl) | ((with_reducible refine binds4 ?_); kernel_rfl) | ((with_reducible refine binds5 ?_); kernel_rfl) | ((with_reducible refine binds6 ?_); kernel_rfl) | exact BindsTo.of_eq rfl); (case kB => exact rfl); (case kD => decide +kernel); (case c2 => exact rfl); (case c3 => exact rfl); (case c4 => exact rfl); k_whole; intro h' tk' cells' F' N' Y' B' X' T' hE'; k_cells Y'; (try simp only [List.cons_append, List.nil_append] at N'); (try dsimp only); (try k_fold)))
  k_with "SIDES" => ((case k1 => k_asm); (case k2 => k_asm); (case k3 => k_asm); (case k4 => k_asm); (case k5 => k_asm); (case k6 => first | exact rfl | assumption); (case k7 => ktr_room); (case k8 => ktr_units); (case k9 => first | exact trivial | k_extra "PRE"))
  k_with "MYCALL" => (k_extra "SIDES"; intro v9 nw9 h9 tk9 F9 N9 ha9 hs9 hp9)
  k_with "MYINT" => (k_extra "SIDES"; intro h9 tk9 t9 F9 N9; (try dsimp only); (try k_fold))
  k_with "MYVAL" => (k_extra "SIDES"; intro h9 tk9 F9 N9; (try dsimp only); (try k_fold))
  k_with "FININT" => (refine' fin_int hret ?_ ?_ ?_ ?_; rotate_left; k_asm; assumption; assumption)
  k_with "FINSTR" => (refine' fin_str hret ?_ ?_ ?_ ?_; rotate_left; k_asm; assumption; assumption)
  k_with "FINVAL" => (refine' fin_val hret ?_ ?_ ?_ ?_; rotate_left; k_asm; assumption; assumption)
  k_with "FINFOUND" => (refine' fin_found hret ?_ ?kf ?kn ?km ?ko ?kp; (case kf => k_asm); (case kn => assumption); (case km => assumption); (case ko => assumption); (case kp => assumption))
  k_with "FINNEW" => (refine' fin_new hret ?kf ?kn ?km ?ko ?kp ?_; (case kf => k_asm); (case km => assumption); (case kn => assumption); (case ko => assumption); (case kp => assumption))
  k_with "FINNONE" => (refine' fin_nofound hret ?_ ?kf ?ko ?kp; (case kf => k_asm); (case ko => assumption); (case kp => assumption))
  k_with "STEPS" => (repeat' ((fail_if_success (with_reducible show wpAny _ _ (pyIter _) _ _ _)); (fail_if_success (with_reducible show wpAny _ _ (exec (Stmt.While _ _ _ _) _) _ _ _)); first | (k_unfold; (try dsimp only)) | walk1 | (dsimp only; walk1) | (dsimp only; k_unfold; (try dsimp only)) | fail "no step"))
  k_with "STEPSL" => (repeat' (first | (k_unfold; (try dsimp only)) | walk1 | (dsimp only; walk1) | (dsimp only; k_unfold; (try dsimp only)) | fail "no step"))
  k_with "SAME" => (intro z h2; first | rfl | ((simp only [List.contains_cons, List.contains_nil, Bool.or_false, Bool.or_eq_false_iff, beq_eq_false_iff_ne, ne_eq] at h2); (simp [h2, upd]; done)))
  k_with "SUB" => (intro p9 h9; first | assumption | kst_mem)
  trivial
--end
noncomputable def noC : Str → Option Value := fun _ => none
noncomputable def nmV (kd : Str → Option NameKind) (cm m : Str → Option Value) (x : Str) : Option Value := match x == ("__debug__" : Str), kd x with
  | false, some .local => m x
  | false, some .cell => cm x
  | false, some .free => cm x
  | _, _ => none
noncomputable def cstV (t : Nat) : Const → Option (Value × Nat)
  | .none => some (.none, t) | .bool b => some (.bool b, t) | .int i => some (.int i t, t + 1) | .str x => some (.str x t, t + 1) | _ => none
noncomputable def intV : Value → Option Int
  | .int a _ => some a
  | _ => none
theorem intV_inv {v : Value} {a : Int} (h : intV v = some a) : ∃ t, v = .int a t := by
  cases v with
  | int a t => cases h; exact ⟨_, rfl⟩
  | _ => cases h
noncomputable def opI (x y : Int) : Operator → Option Int
  | .Add => some (x + y) | .Sub => some (x - y) | _ => none
noncomputable def binV (t : Nat) (op : Operator) (a b : Value) : Option (Value × Nat) := (intV a).bind fun x => (intV b).bind fun y => (opI x y op).map fun z => (.int z t, t + 1)
theorem opI_inv {x y z : Int} {op : Operator} (h : opI x y op = some z) : (op = .Add ∧ z = x + y) ∨ (op = .Sub ∧ z = x - y) := by
  cases op <;> cases h
  · exact .inl ⟨rfl, rfl⟩
  · exact .inr ⟨rfl, rfl⟩
theorem binV_inv {tk t' : Nat} {op : Operator} {a b v : Value} (hv : binV tk op a b = some (v, t')) : ∃ x t y u, a = .int x t ∧ b = .int y u ∧ ((op = .Add ∧ v = .int (x + y) tk ∧ t' = tk + 1) ∨ (op = .Sub ∧ v = .int (x - y) tk ∧ t' = tk + 1)) := by
  obtain ⟨x, h1, h2⟩ := Option.bind_eq_some_iff.mp hv
  obtain ⟨y, h3, h4⟩ := Option.bind_eq_some_iff.mp h2
  obtain ⟨z, h5, h6⟩ := Option.map_eq_some_iff.mp h4
  obtain ⟨t, e1⟩ := intV_inv h1
  obtain ⟨u, e2⟩ := intV_inv h3
  cases h6
  exact ⟨x, t, y, u, e1, e2, (opI_inv h5).imp (fun e => ⟨e.1, by rw [e.2], rfl⟩) (fun e => ⟨e.1, by rw [e.2], rfl⟩)⟩
noncomputable def unV (t : Nat) (op : UnaryOp) (a : Value) : Option (Value × Nat) := match op with
  | .USub => (intV a).map fun x => (.int (-x) t, t + 1)
  | _ => none
noncomputable def evP (kd : Str → Option NameKind) (cm m : Str → Option Value) : Nat → Expr → Nat → Option (Value × Nat)
  | 0, _, _ => none
  | n + 1, e, t => match e with
    | .Name x _ => (nmV kd cm m x).map fun v => (v, t)
    | .Constant c _ _ => cstV t c
    | .BinOp l op r _ => (evP kd cm m n l t).bind fun a => (evP kd cm m n r a.2).bind fun b => binV b.2 op a.1 b.1
    | .UnaryOp op x _ => (evP kd cm m n x t).bind fun a => unV a.2 op a.1
    | _ => none
noncomputable def evPs (kd : Str → Option NameKind) (cm m : Str → Option Value) (n : Nat) : List Expr → Nat → Option (List Value × Nat)
  | [], t => some ([], t)
  | e :: es, t => (evP kd cm m n e t).bind fun a => (evPs kd cm m n es a.2).bind fun b => some (a.1 :: b.1, b.2)
noncomputable def cmpI (x y : Int) : CmpOp → Option Bool
  | .Eq => some (x == y) | .NotEq => some (x != y) | .Lt => some (decide (x < y)) | .LtE => some (decide (x ≤ y)) | .Gt => some (decide (y < x)) | .GtE => some (decide (y ≤ x)) | _ => none
noncomputable def cmpV (op : CmpOp) (a b : Value) : Option Bool := (intV a).bind fun x => (intV b).bind fun y => cmpI x y op
inductive PKind : Expr → Prop
  | nm (x : Str) (p : Pos) : PKind (.Name x p)
  | cst (c : Const) (k : Nat) (p : Pos) : PKind (.Constant c k p)
  | bin (l : Expr) (op : Operator) (r : Expr) (p : Pos) : PKind (.BinOp l op r p)
  | un (op : UnaryOp) (x : Expr) (p : Pos) : PKind (.UnaryOp op x p)
theorem evP_kind {kd : Str → Option NameKind} {cm m : Str → Option Value} {n t : Nat} {e : Expr} {a : Value × Nat} (hv : evP kd cm m n e t = some a) : PKind e := by
  cases n with
  | zero => cases hv
  | succ n =>
    cases e with
    | Name x p => exact .nm x p
    | Constant c k p => exact .cst c k p
    | BinOp l op r p => exact .bin l op r p
    | UnaryOp op x p => exact .un op x p
    | _ => cases hv
inductive CellAt (h : Heap) (c : Addr) (v : Value) : Prop | mk (o : Obj) (e : h.get? c = some o) (d : o.data = .cell (some v))
theorem CellAt.keeps {h h' : Heap} {c : Addr} {v : Value} (x : CellAt h c v) (k : h.StaysIn h') : CellAt h' c v := let ⟨o, e, d⟩ := x; ⟨o, k _ _ e, d⟩
noncomputable def CmOk (env : Env) (h : Heap) (cm : Str → Option Value) : Prop := ∀ x v, cm x = some v → (x == ("__classdict__" : Str)) = false ∧ ∃ c, env.cells.lookup x = some c ∧ CellAt h c v
theorem noC_ok {env : Env} {h : Heap} : CmOk env h noC := fun _ _ e => nomatch e
section
variable {prog : Program} {w : World} {A : Around} {E : Value → Shared → Prop} {h : Heap} {g : Array GenState} {d : Drawn} {tk : Nat} {os : OsState} {K : Frag} {h₀ : Heap} {L : Addr} {m mg mb : Str → Option Value} {env : Env} {p : Program} {loose : List Str} {news : List (Addr × Obj)} {t' : Nat}
theorem nmL (F : Fr h₀ L h m) (hk : EnvOk env L) {x : Str} {pos : Pos} {v : Value} {Q : Value → Shared → Prop} (hv : m x = some v) (hq : Q v ⟨h, g, d, tk, os⟩) (hx : env.kindOf x = some .local) (hd : (x == ("__debug__" : Str)) = false) :
    wpAny (model prog w) A (eval (.Name x pos) env) Q E ⟨h, g, d, tk, os⟩ := by
  obtain ⟨k, _, _, rfl⟩ := hk
  exact wpAny_Name (wpAny_loadName_local k hx F.ns hv hq) hd
theorem nmK (F : Fr h₀ L h m) (hk : EnvOk env L) (X : K.In h₀) (T : TopRead p loose mg mb h₀) {x : Str} {pos : Pos} {v : Value} {Q : Value → Shared → Prop} (e : nsIn K mainGlobals x = some (some v)) (hq : Q v ⟨h, g, d, tk, os⟩) (hx : env.kindOf x = some .globalImplicit) (hd : (x == ("__debug__" : Str)) = false) :
    wpAny (model prog w) A (eval (.Name x pos) env) Q E ⟨h, g, d, tk, os⟩ :=
  Name_function_global hk.k hx (loadGlobal_global (by rw [hk.g]; exact T.g.keeps F.keep) (mg_of X T.g e) hq) hd
theorem nmB (F : Fr h₀ L h m) (hk : EnvOk env L) (X : K.In h₀) (T : TopRead p loose mg mb h₀) {x : Str} {pos : Pos} {v : Value} {Q : Value → Shared → Prop} (e : nsIn K mainGlobals x = some none) (hv : bootBuiltins x = some v) (hn : x ≠ "__name__") (hq : Q v ⟨h, g, d, tk, os⟩) (hx : env.kindOf x = some .globalImplicit) (hd : (x == ("__debug__" : Str)) = false) :
    wpAny (model prog w) A (eval (.Name x pos) env) Q E ⟨h, g, d, tk, os⟩ :=
  Name_function_global hk.k hx (loadGlobal_builtin (by rw [hk.g]; exact T.g.keeps F.keep) (mg_none_of X T.g e) (by rw [hk.b]; exact T.b.keeps F.keep) ((T.builtins x hn).trans hv) hq) hd
theorem nmV_ok {cm : Str → Option Value} (F : Fr h₀ L h m) (hk : EnvOk env L) (hcm : CmOk env h cm) {x : Str} {pos : Pos} {v : Value} {Q : Value → Shared → Prop} (hv : nmV env.kindOf cm m x = some v) (hq : Q v ⟨h, g, d, tk, os⟩) :
    wpAny (model prog w) A (eval (.Name x pos) env) Q E ⟨h, g, d, tk, os⟩ := by
  unfold nmV at hv
  cases hd : (x == ("__debug__" : Str)) with
  | true => rw [hd] at hv; cases hv
  | false =>
    rw [hd] at hv
    cases hx : env.kindOf x with
    | none => rw [hx] at hv; cases hv
    | some k =>
      rw [hx] at hv
      cases k with
      | «local» => exact nmL F hk hv hq hx hd
      | cell => obtain ⟨_, c, hc, o, e, dd⟩ := hcm _ _ hv; exact wpAny_Name (wpAny_loadName_cell hk.k hx hc ⟨o, e, dd⟩ hq) hd
      | free => obtain ⟨hn, c, hc, o, e, dd⟩ := hcm _ _ hv; exact wpAny_Name (wpAny_loadName_free hk.k hx hc ⟨o, e, dd⟩ hq hn) hd
      | _ => cases hv
theorem cstV_ok {c : Const} {k : Nat} {pos : Pos} {v : Value} {Q : Value → Shared → Prop} (hv : cstV tk c = some (v, t')) (hq : Q v ⟨h, g, d, t', os⟩) : wpAny (model prog w) A (eval (.Constant c k pos) env) Q E ⟨h, g, d, tk, os⟩ := by
  cases c with
  | none => cases hv; exact wpAny_Constant_none hq
  | bool b => cases hv; exact wpAny_Constant_bool hq
  | int i => cases hv; exact wpAny_Constant_int hq
  | str x => cases hv; exact wpAny_Constant_str hq
  | _ => cases hv
theorem binV_ok {op : Operator} {a b v : Value} {Q : Value → Shared → Prop} (hv : binV tk op a b = some (v, t')) (hq : Q v ⟨h, g, d, t', os⟩) : wpAny (model prog w) A (binaryOp op a b) Q E ⟨h, g, d, tk, os⟩ := by
  obtain ⟨x, t, y, u, rfl, rfl, ⟨rfl, rfl, rfl⟩ | ⟨rfl, rfl, rfl⟩⟩ := binV_inv hv
  · exact PyProof.Rows.add_int hq
  · exact PyProof.Rows.sub_int hq
theorem unV_ok {op : UnaryOp} {a v : Value} {Q : Value → Shared → Prop} (hv : unV tk op a = some (v, t')) (hq : Q v ⟨h, g, d, t', os⟩) : wpAny (model prog w) A (unaryOp op a) Q E ⟨h, g, d, tk, os⟩ := by
  cases op with
  | USub =>
    obtain ⟨x, h1, h2⟩ := Option.map_eq_some_iff.mp hv
    obtain ⟨_, rfl⟩ := intV_inv h1
    cases h2; exact neg_int hq
  | _ => cases hv
theorem evC_ok {cm : Str → Option Value} (F : Fr h₀ L h m) (hk : EnvOk env L) (hcm : CmOk env h cm) : ∀ {n : Nat} {e : Expr} {tk : Nat} {v : Value} {t' : Nat} {Q : Value → Shared → Prop}, evP env.kindOf cm m n e tk = some (v, t') → Q v ⟨h, g, d, t', os⟩ → wpAny (model prog w) A (eval e env) Q E ⟨h, g, d, tk, os⟩
  | 0, _, _, _, _, _, hv, _ => nomatch hv
  | n + 1, e, tk, v, t', Q, hv, hq => by
    have ih := @evC_ok cm F hk hcm n
    cases evP_kind hv with
    | nm x pos =>
      obtain ⟨v', h1, h2⟩ := Option.map_eq_some_iff.mp hv
      cases h2; exact nmV_ok F hk hcm h1 hq
    | cst c k pos => exact cstV_ok hv hq
    | bin l op r pos =>
      obtain ⟨a, h1, h2⟩ := Option.bind_eq_some_iff.mp hv
      obtain ⟨b, h3, h4⟩ := Option.bind_eq_some_iff.mp h2
      exact wpAny_BinOp (ih (v := a.1) (t' := a.2) h1 (ih (v := b.1) (t' := b.2) h3 (binV_ok h4 hq)))
    | un op x pos =>
      obtain ⟨a, h1, h2⟩ := Option.bind_eq_some_iff.mp hv
      exact UnaryOp_ (ih (v := a.1) (t' := a.2) h1 (unV_ok h2 hq))
theorem evP_ok (F : Fr h₀ L h m) (hk : EnvOk env L) {n : Nat} {e : Expr} {tk : Nat} {v : Value} {t' : Nat} {Q : Value → Shared → Prop} (hv : evP env.kindOf noC m n e tk = some (v, t')) (hq : Q v ⟨h, g, d, t', os⟩) : wpAny (model prog w) A (eval e env) Q E ⟨h, g, d, tk, os⟩ := evC_ok F hk noC_ok hv hq
theorem evP_star {kd : Str → Option NameKind} {cm : Str → Option Value} {n : Nat} {e : Expr} {a : Value × Nat} {env : Env} {rest : List Expr} (hv : evP kd cm m n e tk = some a) : starEach (e :: rest) env = (false, eval e env) :: starEach rest env := by
  cases evP_kind hv <;> rfl
theorem evCs_ok {cm : Str → Option Value} (F : Fr h₀ L h m) (hk : EnvOk env L) (hcm : CmOk env h cm) {n : Nat} {pos : Pos} : ∀ {es : List Expr} {tk : Nat} {vs : List Value} {t' : Nat} {Q : List Value → Shared → Prop}, evPs env.kindOf cm m n es tk = some (vs, t') → Q vs ⟨h, g, d, t', os⟩ → wpAny (model prog w) A (spliced (backTo pos (starEach es env))) Q E ⟨h, g, d, tk, os⟩
  | [], tk, vs, t', Q, hv, hq => by cases hv; exact args_nil hq
  | e :: es, tk, vs, t', Q, hv, hq => by
    obtain ⟨a, h1, h2⟩ := Option.bind_eq_some_iff.mp hv
    obtain ⟨b, h3, h4⟩ := Option.bind_eq_some_iff.mp h2
    cases h4
    exact args_cons (evC_ok F hk hcm (v := a.1) (t' := a.2) h1 (evCs_ok F hk hcm (vs := b.1) (t' := b.2) h3 hq)) (evP_star h1)
theorem evPs_ok (F : Fr h₀ L h m) (hk : EnvOk env L) {n : Nat} {pos : Pos} {es : List Expr} {tk : Nat} {vs : List Value} {t' : Nat} {Q : List Value → Shared → Prop} (hv : evPs env.kindOf noC m n es tk = some (vs, t')) (hq : Q vs ⟨h, g, d, t', os⟩) : wpAny (model prog w) A (spliced (backTo pos (starEach es env))) Q E ⟨h, g, d, tk, os⟩ := evCs_ok F hk noC_ok hv hq
theorem evPs_plain {kd : Str → Option NameKind} {cm : Str → Option Value} {n : Nat} {env : Env} {pos : Pos} : ∀ {es : List Expr} {tk : Nat} {a : List Value × Nat}, evPs kd cm m n es tk = some a → (backTo pos (starEach es env)).any (·.1) = false
  | [], _, _, _ => rfl
  | e :: es, tk, a, hv => by
    obtain ⟨a, h1, h2⟩ := Option.bind_eq_some_iff.mp hv
    obtain ⟨b, h3, _⟩ := Option.bind_eq_some_iff.mp h2
    rw [evP_star h1]; exact evPs_plain h3
theorem callK_C {cm : Str → Option Value} {pos : Pos} {f : Value} {first vs args : List Value} {es : List Expr} {n : Nat} {Q : Value → Shared → Prop} (X : K.In h₀) (F : Fr h₀ L h m) (hk : EnvOk env L) (hcm : CmOk env h cm) (hf : keepIn K f = true)
    (hv : evPs env.kindOf cm m n es tk = some (vs, t')) (ha : first ++ vs = args) (hq : wpAny (model prog w) A (call f args) Q E ⟨h, g, d, t', os⟩) :
    wpAny (model prog w) A (callWith pos f first (backTo pos (starEach es env)) []) Q E ⟨h, g, d, tk, os⟩ := by
  subst ha
  cases es with
  | nil => cases hv; exact callWith_K0 (X.keeps F.keep) hf hq
  | cons e es =>
    obtain ⟨a, h1, h2⟩ := Option.bind_eq_some_iff.mp hv
    obtain ⟨b, h3, _⟩ := Option.bind_eq_some_iff.mp h2
    exact callWith_K X hf (evCs_ok F hk hcm hv ⟨X.keeps F.keep, hq⟩) (evP_star h1) (evPs_plain h3)
theorem callK_P {pos : Pos} {f : Value} {first vs args : List Value} {es : List Expr} {n : Nat} {Q : Value → Shared → Prop} (X : K.In h₀) (F : Fr h₀ L h m) (hk : EnvOk env L) (hf : keepIn K f = true)
    (hv : evPs env.kindOf noC m n es tk = some (vs, t')) (ha : first ++ vs = args) (hq : wpAny (model prog w) A (call f args) Q E ⟨h, g, d, t', os⟩) :
    wpAny (model prog w) A (callWith pos f first (backTo pos (starEach es env)) []) Q E ⟨h, g, d, tk, os⟩ := callK_C X F hk noC_ok hf hv ha hq
theorem callG_C {cm : Str → Option Value} {pos xp : Pos} {x : Str} {f : Value} {vs : List Value} {es : List Expr} {n : Nat} {Q : Value → Shared → Prop} (X : K.In h₀) (F : Fr h₀ L h m) (T : TopRead p loose mg mb h₀) (hk : EnvOk env L) (hcm : CmOk env h cm) (e : nsIn K mainGlobals x = some (some f)) (hf : keepIn K f = true)
    (hx : env.kindOf x = some .globalImplicit) (hd : (x == ("__debug__" : Str)) = false) (hv : evPs env.kindOf cm m n es tk = some (vs, t')) (hq : wpAny (model prog w) A (call f vs) Q E ⟨h, g, d, t', os⟩) :
    wpAny (model prog w) A (eval (.Call (.Name x xp) es [] pos) env) Q E ⟨h, g, d, tk, os⟩ :=
  Call_ (nmK F hk X T e (callK_C (first := []) X F hk hcm hf hv rfl hq) hx hd) (by rfl)
theorem callG_P {pos xp : Pos} {x : Str} {f : Value} {vs : List Value} {es : List Expr} {n : Nat} {Q : Value → Shared → Prop} (X : K.In h₀) (F : Fr h₀ L h m) (T : TopRead p loose mg mb h₀) (hk : EnvOk env L) (e : nsIn K mainGlobals x = some (some f)) (hf : keepIn K f = true)
    (hx : env.kindOf x = some .globalImplicit) (hd : (x == ("__debug__" : Str)) = false) (hv : evPs env.kindOf noC m n es tk = some (vs, t')) (hq : wpAny (model prog w) A (call f vs) Q E ⟨h, g, d, t', os⟩) :
    wpAny (model prog w) A (eval (.Call (.Name x xp) es [] pos) env) Q E ⟨h, g, d, tk, os⟩ :=
  Call_ (nmK F hk X T e (callK_P (first := []) X F hk hf hv rfl hq) hx hd) (by rfl)
theorem callB_P {pos xp : Pos} {x : Str} {id : String} {vs : List Value} {es : List Expr} {n : Nat} {Q : Value → Shared → Prop} (X : K.In h₀) (F : Fr h₀ L h m) (T : TopRead p loose mg mb h₀) (hk : EnvOk env L) (e : nsIn K mainGlobals x = some none) (hb : bootBuiltins x = some (.builtin id)) (hn : x ≠ "__name__")
    (hx : env.kindOf x = some .globalImplicit) (hd : (x == ("__debug__" : Str)) = false) (hv : evPs env.kindOf noC m n es tk = some (vs, t')) (hl : 0 < es.length) (hq : wpAny (model prog w) A (call (.builtin id) vs) Q E ⟨h, g, d, t', os⟩) :
    wpAny (model prog w) A (eval (.Call (.Name x xp) es [] pos) env) Q E ⟨h, g, d, tk, os⟩ := by
  refine Call_ (nmB F hk X T e hb hn ?_ hx hd) (by rfl)
  cases es with
  | nil => cases hl
  | cons e es =>
    obtain ⟨a, h1, h2⟩ := Option.bind_eq_some_iff.mp hv
    obtain ⟨b, h3, _⟩ := Option.bind_eq_some_iff.mp h2
    exact PyProof.Rows.callWith_builtin1 (evPs_ok F hk hv hq) (evP_star h1) (evPs_plain h3)
theorem callG_N {pos xp : Pos} {x : Str} {f : Value} {e : Expr} {es : List Expr} {Q : Value → Shared → Prop} (X : K.In h₀) (F : Fr h₀ L h m) (T : TopRead p loose mg mb h₀) (hk : EnvOk env L) (hx : env.kindOf x = some .globalImplicit) (hd : (x == ("__debug__" : Str)) = false) (hn : nsIn K mainGlobals x = some (some f)) (hf : keepIn K f = true)
    (he : starEach (e :: es) env = (false, eval e env) :: starEach es env) (hp : (backTo pos (starEach es env)).any (·.1) = false)
    (hq : wpAny (model prog w) A (spliced (backTo pos (starEach (e :: es) env))) (fun vs s₁ => K.In s₁.heap ∧ wpAny (model prog w) A (call f vs) Q E s₁) E ⟨h, g, d, tk, os⟩) :
    wpAny (model prog w) A (eval (.Call (.Name x xp) (e :: es) [] pos) env) Q E ⟨h, g, d, tk, os⟩ :=
  Call_ (nmK F hk X T hn (callWith_K X hf hq he hp) hx hd) (by rfl)
theorem callB_N {pos xp : Pos} {x : Str} {id : String} {e : Expr} {es : List Expr} {Q : Value → Shared → Prop} (X : K.In h₀) (F : Fr h₀ L h m) (T : TopRead p loose mg mb h₀) (hk : EnvOk env L) (hx : env.kindOf x = some .globalImplicit) (hd : (x == ("__debug__" : Str)) = false) (hnn : nsIn K mainGlobals x = some none) (hb : bootBuiltins x = some (.builtin id)) (hn : x ≠ "__name__")
    (he : starEach (e :: es) env = (false, eval e env) :: starEach es env) (hp : (backTo pos (starEach es env)).any (·.1) = false)
    (hq : wpAny (model prog w) A (spliced (backTo pos (starEach (e :: es) env))) (fun vs s₁ => wpAny (model prog w) A (call (.builtin id) vs) Q E s₁) E ⟨h, g, d, tk, os⟩) :
    wpAny (model prog w) A (eval (.Call (.Name x xp) (e :: es) [] pos) env) Q E ⟨h, g, d, tk, os⟩ :=
  Call_ (nmB F hk X T hnn hb hn (PyProof.Rows.callWith_builtin1 hq he hp) hx hd) (by rfl)
theorem methI_P {x C : Addr} {ox : Obj} {es' : List DictEntry} {n' : Nat} {name : Str} {f : Addr} {o : Str} {op apos pos : Pos} {vs : List Value} {es : List Expr} {n : Nat} {Q : Value → Shared → Prop} (X : K.In h₀) (F : Fr h₀ L h m) (hk : EnvOk env L)
    (hm : m o = some (.ref x)) (hx : env.kindOf o = some .local) (hd : (o == ("__debug__" : Str)) = false)
    (I : InstAt h x ox C (some (dictOf es' n'))) (hg : plainGet K C name = true) (hf : findIn K (.ref C) name = some (some (.ref f))) (ht : isFn K (.ref f) = true) (hl : getL name es' = some none) (hkp : keepIn K (.ref f) = true)
    (hv : evPs env.kindOf noC m n es tk = some (vs, t')) (hq : wpAny (model prog w) A (call (.ref f) (.ref x :: vs)) Q E ⟨h, g, d, t', os⟩)
    {pl : Sem Bool} (he : eval (.Call (.Attribute (.Name o op) name apos) es [] pos) env = (do let ov ← eval (.Name o op) env; standAt apos.atName; let (f, first) ← holding [ov] (getMethod ov name pl); callWith pos f first (backTo pos (starEach es env)) [])) :
    wpAny (model prog w) A (eval (.Call (.Attribute (.Name o op) name apos) es [] pos) env) Q E ⟨h, g, d, tk, os⟩ :=
  MethodCall_ (nmL F hk hm (method_inst F X I hg hf ht hl (callK_P (first := [.ref x]) X F hk hkp hv rfl hq)) hx hd) he
theorem attrI_P {x C : Addr} {ox : Obj} {es' : List DictEntry} {n' : Nat} {name : Str} {o : Str} {op pos : Pos} {attr : Option Value} {v : Value} {Q : Value → Shared → Prop} (X : K.In h₀) (F : Fr h₀ L h m) (hk : EnvOk env L)
    (hm : m o = some (.ref x)) (hx : env.kindOf o = some .local) (hd : (o == ("__debug__" : Str)) = false)
    (I : InstAt h x ox C (some (dictOf es' n'))) (hg : plainGet K C name = true) (hh : hasDictIn K C = true) (ha : findIn K (.ref C) name = some attr) (hn : noGet K attr = true) (hl : getL name es' = some (some v)) (hhd : handedIn v = true)
    (hq : Q v ⟨h, g, d, tk + 1, os⟩) :
    wpAny (model prog w) A (eval (.Attribute (.Name o op) name pos) env) Q E ⟨h, g, d, tk, os⟩ :=
  Attribute_Name_ (nmL F hk hm (get_own F X I hg hh ha hn hl hhd hq) hx hd) (by with_unfolding_all rfl)
theorem sub_P {value slice : Expr} {pos : Pos} {n : Nat} {o i : Value} {t1 : Nat} {Q : Value → Shared → Prop} (F : Fr h₀ L h m) (hk : EnvOk env L) (h1 : evP env.kindOf noC m n value tk = some (o, t1)) (h2 : evP env.kindOf noC m n slice t1 = some (i, t'))
    (hq : wpAny (model prog w) A (subscriptTail value slice o i) Q E ⟨h, g, d, t', os⟩) : wpAny (model prog w) A (eval (.Subscript value slice pos) env) Q E ⟨h, g, d, tk, os⟩ :=
  Subscript_ (evP_ok F hk h1 (evP_ok F hk h2 hq))
theorem cmpV_ok {op : CmpOp} {x y : Value} {c : Bool} {s : Shared} {Q : Value → Shared → Prop} (hc : cmpV op x y = some c) (hq : Q (.bool c) s) : wpAny (model prog w) A (compareOp op x y) Q E s := by
  obtain ⟨a, h1, h2⟩ := Option.bind_eq_some_iff.mp hc
  obtain ⟨b, h3, h4⟩ := Option.bind_eq_some_iff.mp h2
  obtain ⟨_, rfl⟩ := intV_inv h1
  obtain ⟨_, rfl⟩ := intV_inv h3
  cases op <;> cases h4
  · exact PyProof.Rows.eq_int hq
  · exact PyProof.Rows.ne_int hq
  · exact PyProof.Rows.lt_int hq
  · exact le_int hq
  · exact PyProof.Rows.gt_int hq
  · exact ge_int hq
theorem evP_marks {kd : Str → Option NameKind} {cm : Str → Option Value} {n : Nat} {e : Expr} {v : Value} {op : CmpOp} (hv : evP kd cm m n e tk = some (v, t')) : behindInMarks op e = false := by
  cases evP_kind hv <;> rfl
theorem cmp_P {l r : Expr} {op : CmpOp} {pos : Pos} {n : Nat} {x y : Value} {t1 : Nat} {c : Bool} {whole : Sem Value} {Q : Bool → Shared → Prop} (F : Fr h₀ L h m) (hk : EnvOk env L) (h1 : evP env.kindOf noC m n l tk = some (x, t1)) (h2 : evP env.kindOf noC m n r t1 = some (y, t')) (hc : cmpV op x y = some c)
    (hq : Q c ⟨h, g, d, t', os⟩) : wpAny (model prog w) A (isTrue (.Compare l [op] [r] pos) env whole) Q E ⟨h, g, d, tk, os⟩ :=
  wpAny_isTrue_Compare1 (evP_ok F hk h1 (evP_ok F hk h2 (cmpV_ok hc (wpAny_truthy_bool hq)))) (evP_marks h2)
theorem cmpR_P {r : Expr} {op : CmpOp} {n : Nat} {x y : Value} {c : Bool} {Q : Bool → Shared → Prop} (F : Fr h₀ L h m) (hk : EnvOk env L) (h2 : evP env.kindOf noC m n r tk = some (y, t')) (hc : cmpV op x y = some c)
    (hq : Q c ⟨h, g, d, t', os⟩) : wpAny (model prog w) A (eval r env) (fun b s₂ => wpAny (model prog w) A (compareOp op x b) (fun c s₃ => wpAny (model prog w) A (truthy c) Q E s₃) E s₂) E ⟨h, g, d, tk, os⟩ :=
  evP_ok F hk h2 (cmpV_ok hc (wpAny_truthy_bool hq))
theorem ret_P {e : Expr} {pos : Pos} {n : Nat} {v : Value} {Q : Flow → Shared → Prop} (F : Fr h₀ L h m) (hk : EnvOk env L) (h1 : evP env.kindOf noC m n e tk = some (v, t')) (hq : Q (.ret v) ⟨h, g, d, t', os⟩) :
    wpAny (model prog w) A (exec (.Return (some e) pos) env) Q E ⟨h, g, d, tk, os⟩ := wpAny_Return_some (evP_ok F hk h1 hq)
theorem store_P {x : Str} {v : Value} {Q : Unit → Shared → Prop} (F : Fr h₀ L h m) (N : News h₀ L h news) (hk : EnvOk env L) (hx : env.kindOf x = some .local)
    (hq : ∀ h' tk', Fr h₀ L h' (upd m x v) → News h₀ L h' news → Q () ⟨h', g, d, tk', os⟩) : wpAny (model prog w) A (storeName env x v) Q E ⟨h, g, d, tk, os⟩ :=
  by
  obtain ⟨k, _, _, rfl⟩ := hk
  exact wpAny_storeName_local hx F.ns (fun h' hn hs => hq h' _ (F.set hn hs) (N.set hs)) (by rw [k]; rfl)
theorem evP_swap {kd : Str → Option NameKind} {cm : Str → Option Value} {n : Nat} {e : Expr} {v : Value} {tg : Option Expr} {ln : Nat} {env : Env} (hv : evP kd cm m n e tk = some (v, t')) : swapsWith e tg ln env = pure false := by
  cases evP_kind hv <;> rfl
theorem asg_P {x : Str} {e : Expr} {pos pos' : Pos} {n : Nat} {v : Value} {Q : Flow → Shared → Prop} (F : Fr h₀ L h m) (N : News h₀ L h news) (hk : EnvOk env L) (h1 : evP env.kindOf noC m n e tk = some (v, t')) (hx : env.kindOf x = some .local)
    (hq : ∀ h' tk', Fr h₀ L h' (upd m x v) → News h₀ L h' news → Q .next ⟨h', g, d, tk', os⟩) : wpAny (model prog w) A (exec (.Assign [.Name x pos'] e pos) env) Q E ⟨h, g, d, tk, os⟩ :=
  wpAny_Assign_Name (evP_ok F hk h1 (store_P F N hk hx hq)) (evP_swap h1)
theorem execs_ret_P {e : Expr} {pos : Pos} {rest : List Stmt} {n : Nat} {v : Value} {Q : Flow → Shared → Prop} (F : Fr h₀ L h m) (hk : EnvOk env L) (h1 : evP env.kindOf noC m n e tk = some (v, t')) (hq : Q (.ret v) ⟨h, g, d, t', os⟩) :
    wpAny (model prog w) A (execs (.Return (some e) pos :: rest) env) Q E ⟨h, g, d, tk, os⟩ := wpAny_execs_cons (ret_P F hk h1 hq)
theorem execs_asg_P {x : Str} {e : Expr} {pos pos' : Pos} {rest : List Stmt} {n : Nat} {v : Value} {Q : Flow → Shared → Prop} (F : Fr h₀ L h m) (N : News h₀ L h news) (hk : EnvOk env L) (h1 : evP env.kindOf noC m n e tk = some (v, t')) (hx : env.kindOf x = some .local)
    (hq : ∀ h' tk', Fr h₀ L h' (upd m x v) → News h₀ L h' news → wpAny (model prog w) A (execs rest env) Q E ⟨h', g, d, tk', os⟩) : wpAny (model prog w) A (execs (.Assign [.Name x pos'] e pos :: rest) env) Q E ⟨h, g, d, tk, os⟩ :=
  wpAny_execs_cons (asg_P F N hk h1 hx hq)
end
section
variable {M : Model} {A : Around} {E : Value → Shared → Prop} {s : Shared} {env : Env} {rest : List Stmt} {Q : Flow → Shared → Prop}
theorem execs_ret {e : Expr} {pos : Pos} (hq : wpAny M A (eval e env) (fun v => Q (.ret v)) E s) : wpAny M A (execs (.Return (some e) pos :: rest) env) Q E s := wpAny_execs_cons (wpAny_Return_some hq)
theorem execs_asg {x : Str} {e : Expr} {pos pos' : Pos} (hs : swapsWith e (some (.Name x pos')) pos.line env = pure false) (hq : wpAny M A (eval e env) (fun v s₁ => wpAny M A (storeName env x v) (fun _ s₂ => wpAny M A (execs rest env) Q E s₂) E s₁) E s) :
    wpAny M A (execs (.Assign [.Name x pos'] e pos :: rest) env) Q E s := wpAny_execs_cons (wpAny_Assign_Name hq hs)
theorem execs_if1 {c : Expr} {body orelse : List Stmt} {pos : Pos} (hq : wpAny M A (isTrue c env (eval c env)) (fun b s₂ => if b then wpAny M A (execs body env) Q E s₂ else wpAny M A (execs orelse env) Q E s₂) E s) : wpAny M A (execs [.If c body orelse pos] env) Q E s := by
  refine wpAny_execs_cons (wpAny_If (wpAny_mono hq (fun b s₂ h => ?_) fun _ _ e => e))
  cases b
  · refine wpAny_mono h (fun f s₃ hf => ?_) fun _ _ e => e
    cases f <;> first | exact wpAny_execs_nil hf | exact hf
  · refine wpAny_mono h (fun f s₃ hf => ?_) fun _ _ e => e
    cases f <;> first | exact wpAny_execs_nil hf | exact hf
end
theorem room0 {u k c : Nat} (h : u + k < c) : u < c := Nat.lt_of_le_of_lt (Nat.le_add_right _ _) h
theorem room1 {u a k c : Nat} (h : u + k < c) (e : Nat.ble a k = true) : u + a < c := by have := Nat.le_of_ble_eq_true e; omega
theorem room2 {u a b k c : Nat} (h : u + k < c) (e : Nat.ble (a + b) k = true) : u + a + b < c := by have := Nat.le_of_ble_eq_true e; omega
theorem room3 {u a b d k c : Nat} (h : u + k < c) (e : Nat.ble (a + b + d) k = true) : u + a + b + d < c := by have := Nat.le_of_ble_eq_true e; omega
theorem ltB {a b : Nat} (h : Nat.ble (a + 1) b = true) : a < b := Nat.le_of_ble_eq_true h
local macro_rules | `(tactic| ktr_room) => `(tactic| k_extra "ROOM")
local macro_rules | `(tactic| ktr_units) => `(tactic| k_extra "ROOM")
local macro_rules | `(tactic| k_ne) => `(tactic| k_extra "KNE")
--reg
example : True := by
  k_with "eval Name" => (k_here; k_dflt (refine' evP_ok (n := 1) ?F ?k ?v ?_; (case F => k_asm); (case k => first | with_reducible assumption | exact ⟨rfl, rfl, rfl, rfl⟩); (case v => exact rfl); k_whole))
  k_with "eval Constant int" => (k_here; k_dflt (refine' evP_ok (n := 1) ?F ?k ?v ?_; (case F => k_asm); (case k => first | with_reducible assumption | exact ⟨rfl, rfl, rfl, rfl⟩); (case v => exact rfl); k_whole))
  k_with "eval Constant str" => (k_here; k_dflt (refine' evP_ok (n := 1) ?F ?k ?v ?_; (case F => k_asm); (case k => first | with_reducible assumption | exact ⟨rfl, rfl, rfl, rfl⟩); (case v => exact rfl); k_whole))
  k_with "eval Constant none" => (k_here; k_dflt (refine' evP_ok (n := 1) ?F ?k ?v ?_; (case F => k_asm); (case k => first | with_reducible assumption | exact ⟨rfl, rfl, rfl, rfl⟩); (case v => exact rfl); k_whole))
  k_with "eval Constant bool" => (k_here; k_dflt (refine' evP_ok (n := 1) ?F ?k ?v ?_; (case F => k_asm); (case k => first | with_reducible assumption | exact ⟨rfl, rfl, rfl, rfl⟩); (case v => exact rfl); k_whole))
  k_with "eval UnaryOp" => (k_here; k_dflt (refine' evP_ok (n := 4) ?F ?k ?v ?_; (case F => k_asm); (case k => first | with_reducible assumption | exact ⟨rfl, rfl, rfl, rfl⟩); (case v => exact rfl); k_whole))
  k_with "eval BinOp" => (k_here; k_dflt (refine' evP_ok (n := 4) ?F ?k ?v ?_; (case F => k_asm); (case k => first | with_reducible assumption | exact ⟨rfl, rfl, rfl, rfl⟩); (case v => exact rfl); k_whole))
  k_with "spliced" => (k_here; k_dflt (refine' evPs_ok (n := 4) ?F ?k ?v ?_; (case F => k_asm); (case k => first | with_reducible assumption | exact ⟨rfl, rfl, rfl, rfl⟩); (case v => exact rfl); k_whole; (try dsimp only [List.nil_append, List.cons_append])))
  k_with "callWith ref" => (k_here; (with_reducible show wpAny _ _ (callWith _ (Value.ref _) _ (backTo _ (starEach _ _)) []) _ _ _); k_dflt (refine' callK_P (n := 4) ?X ?F ?k ?f ?v ?a ?_; (case F => k_asm); (case X => k_asm); (case k => first | with_reducible assumption | exact ⟨rfl, rfl, rfl, rfl⟩); (case f => k_is); (case v => exact rfl); (case a => exact rfl); k_whole))
  k_with "eval Call" => (k_here; (with_reducible show wpAny _ _ (eval (Expr.Call (Expr.Name _ _) _ [] _) _) _ _ _); k_dflt (first
    | (refine' callG_P (n := 4) ?X ?F ?T ?k ?e ?f ?a ?b ?v ?_; (case F => k_asm); (case X => k_asm); (case T => k_asm); (case k => first | with_reducible assumption | exact ⟨rfl, rfl, rfl, rfl⟩); (case a => exact rfl); (case b => exact rfl); (case e => k_is); (case f => k_is); (case v => exact rfl); k_whole)
    | (refine' callG_N ?X ?F ?T ?k ?a ?b ?e ?f ?se ?sp ?_; (case F => k_asm); (case X => k_asm); (case T => k_asm); (case k => first | with_reducible assumption | exact ⟨rfl, rfl, rfl, rfl⟩); (case a => exact rfl); (case b => exact rfl); (case e => k_is); (case f => k_is); (case se => exact rfl); (case sp => exact rfl); k_whole)))
  k_with "eval Call" => (k_here; (with_reducible show wpAny _ _ (eval (Expr.Call (Expr.Name (Str.ofString "len") _) (_ :: _) [] _) _) _ _ _); k_dflt (first
    | (refine' callB_P (n := 4) ?X ?F ?T ?k ?e ?hb ?hn ?a ?b ?v ?l ?_; (case F => k_asm); (case X => k_asm); (case T => k_asm); (case k => first | with_reducible assumption | exact ⟨rfl, rfl, rfl, rfl⟩); (case a => exact rfl); (case b => exact rfl); (case e => k_is); (case hb => exact bootS_len); (case hn => decide); (case v => exact rfl); (case l => exact Nat.zero_lt_succ _); k_whole)
    | (refine' callB_N ?X ?F ?T ?k ?a ?b ?e ?hb ?hn ?se ?sp ?_; (case F => k_asm); (case X => k_asm); (case T => k_asm); (case k => first | with_reducible assumption | exact ⟨rfl, rfl, rfl, rfl⟩); (case a => exact rfl); (case b => exact rfl); (case e => k_is); (case hb => exact bootS_len); (case hn => decide); (case se => exact rfl); (case sp => exact rfl); k_whole)))
  k_with "eval Call Attribute" => (k_here; (with_reducible show wpAny _ _ (eval (Expr.Call (Expr.Attribute (Expr.Name _ _) _ _) _ [] _) _) _ _ _); k_dflt (refine' methI_P (n := 4) ?X ?F ?k ?m ?a ?b ?I ?g ?f ?t ?l ?kp ?v ?_ ?he; (case F => k_asm); (case X => k_asm); (case k => first | with_reducible assumption | exact ⟨rfl, rfl, rfl, rfl⟩); (case a => exact rfl); (case b => exact rfl); (case m => exact rfl); (case I => k_inst); (case g => k_is); (case f => k_is); (case t => k_is); (case l => k_get); (case kp => k_is); (case v => exact rfl); (case he => exact rfl); k_whole))
  k_with "eval Attribute Name" => (k_here; k_dflt (refine' attrI_P ?X ?F ?k ?m ?a ?b ?I ?g ?hh ?ha ?n ?l ?hd ?_; (case F => k_asm); (case X => k_asm); (case k => first | with_reducible assumption | exact ⟨rfl, rfl, rfl, rfl⟩); (case a => exact rfl); (case b => exact rfl); (case m => exact rfl); (case I => k_inst); (case g => k_is); (case hh => k_is); (case ha => k_is); (case n => k_is); (case l => k_get); (case hd => k_handed); k_whole))
  k_with "eval Subscript" => (k_here; k_dflt (refine' sub_P (n := 4) ?F ?k ?v ?u ?_; (case F => k_asm); (case k => first | with_reducible assumption | exact ⟨rfl, rfl, rfl, rfl⟩); (case v => exact rfl); (case u => exact rfl); k_whole))
  k_with "isTrue Compare" => (k_here; k_dflt (refine' cmp_P (n := 4) ?F ?k ?v ?u ?c ?_; (case F => k_asm); (case k => first | with_reducible assumption | exact ⟨rfl, rfl, rfl, rfl⟩); (case v => exact rfl); (case u => exact rfl); (case c => exact rfl); k_whole))
  k_with "exec Return some" => (k_here; k_dflt (refine' ret_P (n := 4) ?F ?k ?v ?_; (case F => k_asm); (case k => first | with_reducible assumption | exact ⟨rfl, rfl, rfl, rfl⟩); (case v => exact rfl); k_whole))
  k_with "exec Assign" => (k_here; k_dflt (refine' asg_P (n := 4) ?F ?N ?k ?v ?a ?_; (case F => k_asm); (case N => k_asm); (case k => first | with_reducible assumption | exact ⟨rfl, rfl, rfl, rfl⟩); (case v => exact rfl); (case a => exact rfl); k_whole; intro h' tk' F' N'; (try k_sweep)))
  k_with "storeName" => (k_here; k_dflt (refine' store_P ?F ?N ?k ?a ?_; (case F => k_asm); (case N => k_asm); (case k => first | with_reducible assumption | exact ⟨rfl, rfl, rfl, rfl⟩); (case a => exact rfl); k_whole; intro h' tk' F' N'; (try k_sweep)))
  k_with "execs cons" => (k_here; (try dsimp only); k_dflt (first
    | ((with_reducible show wpAny _ _ (execs (Stmt.Return (some _) _ :: _) _) _ _ _); first
      | (refine' execs_ret_P (n := 4) ?F ?k ?v ?_; (case F => k_asm); (case k => first | with_reducible assumption | exact ⟨rfl, rfl, rfl, rfl⟩); (case v => exact rfl); k_whole)
      | refine execs_ret ?_)
    | ((with_reducible show wpAny _ _ (execs (Stmt.Assign [Expr.Name _ _] _ _ :: _) _) _ _ _); first
      | (refine' execs_asg_P (n := 4) ?F ?N ?k ?v ?a ?_; (case F => k_asm); (case N => k_asm); (case k => first | with_reducible assumption | exact ⟨rfl, rfl, rfl, rfl⟩); (case v => exact rfl); (case a => exact rfl); k_whole; intro h' tk' F' N'; (try k_sweep))
      | (refine' execs_asg ?h ?_; (case h => exact rfl)))
    | ((with_reducible show wpAny _ _ (execs [Stmt.If _ _ _ _] _) _ _ _); with_reducible refine execs_if1 ?_)
    | with_reducible refine wpAny_execs_cons ?_))
  k_with "ROOM" => (with_reducible first | (refine' room2 ?h ?e; (case h => assumption); (case e => exact rfl)) | (refine' room1 ?h ?e; (case h => assumption); (case e => exact rfl)) | (refine' room0 ?h; (case h => assumption)) | (refine' room3 ?h ?e; (case h => assumption); (case e => exact rfl)) | k_dflt (exact ltB rfl) | fail)
  k_with "LTC" => (first | with_reducible assumption | exact And.left (by with_reducible assumption) | exact And.left (And.right (by with_reducible assumption)) | exact And.right (by with_reducible assumption) | exact And.left (And.right (And.right (by with_reducible assumption))) | exact And.right (And.right (by with_reducible assumption)) | exact And.left (And.right (And.right (And.right (by with_reducible assumption)))) | exact And.right (And.right (And.right (by with_reducible assumption))) | exact And.left (And.right (And.right (And.right (And.right (by with_reducible assumption))))) | exact And.right (And.right (And.right (And.right (by with_reducible assumption)))) | exact And.left (And.right (And.right (And.right (And.right (And.right (by with_reducible assumption)))))) | exact And.right (And.right (And.right (And.right (And.right (by with_reducible assumption))))) | exact And.left (And.right (And.right (And.right (And.right (And.right (And.right (by with_reducible assumption))))))) | exact And.right (And.right (And.right (And.right (And.right (And.right (by with_reducible assumption)))))) | exact And.left (And.right (And.right (And.right (And.right (And.right (And.right (And.right (by with_reducible assumption)))))))) | exact And.right (And.right (And.right (And.right (And.right (And.right (And.right (by with_reducible assumption))))))) | exact And.left (And.right (And.right (And.right (And.right (And.right (And.right (And.right (And.right (by with_reducible assumption))))))))) | exact And.right (And.right (And.right (And.right (And.right (And.right (And.right (And.right (by with_reducible assumption)))))))) | fail)
  k_with "KNE" => (refine neN ?_; (try dsimp only); first | with_reducible assumption | exact Ne.symm (by with_reducible assumption) | exact Nat.ne_of_gt (by k_extra "LTC") | exact Nat.ne_of_lt (by k_extra "LTC") | exact And.left (by with_reducible assumption) | exact And.left (And.right (by with_reducible assumption)) | exact And.right (by with_reducible assumption) | exact And.left (And.right (And.right (by with_reducible assumption))) | exact And.right (And.right (by with_reducible assumption)) | fail)
  trivial
--end
noncomputable def codeAt (ns : List Int) (p : Int) : Int := if 0 ≤ p ∧ p < ns.length then ns.getD p.toNat 0 else -1
inductive RowIn (h : Heap) (x : Addr) (ns : List Int) : Prop | mk (dx l : Addr) (e1 e2 t1 t2 t3 n) (vs : List Value) (a : h.get? x = some (instObj 816 dx))
  (b : h.get? dx = some (dictOf [⟨e1, .str (Str.ofString "codes") t1, .ref l⟩, ⟨e2, .str (Str.ofString "place") t2, .int 0 t3⟩] n)) (c : h.IsList l vs.toArray) (r : IntsAre vs ns ∧ ns.length ≤ 9)
theorem RowIn.keeps {h h' : Heap} {x : Addr} {ns : List Int} (r : RowIn h x ns) (k : h.StaysIn h') : RowIn h' x ns :=
  let ⟨dx, l, e1, e2, t1, t2, t3, n, vs, a, b, c, r⟩ := r; ⟨dx, l, e1, e2, t1, t2, t3, n, vs, k _ _ a, k _ _ b, stays_list k c, r⟩
theorem c_code_at (w : World) (x : Addr) (tp : Tok) (ns : List Int) (place : Int) :
    Spec w 1 8 (nat_lit 813) [.ref x, .int place tp] (fun h => RowIn h x ns) (fun v nw => nw = [] ∧ ∃ t, v = .int (codeAt ns place) t) := by
  unfold Spec; k_fill; intros; rename_i hpre hret
  obtain ⟨dx, l, e1, e2, t1, t2, t3, n, vs, hx, hdx, hl, hi, hlen⟩ := hpre
  refine wpAny_call ?_
  k_extra "ENTER"
  k_steps
  all_goals (k_extra "FININT"; unfold codeAt)
  · rw [if_pos (by omega), Int.sub_zero]
  · rw [if_neg (by omega)]
  · rw [if_neg (by omega)]
theorem c_begin (w : World) (x : Addr) (ns : List Int) :
    Spec w 1 8 (nat_lit 799) [.ref x] (fun h => RowIn h x ns) (fun v nw => nw = [] ∧ ∃ t, v = .int 0 t) := by
  unfold Spec; k_fill; intros; rename_i hpre hret
  obtain ⟨dx, l, e1, e2, t1, t2, t3, n, vs, hx, hdx, hl, hi, hlen⟩ := hpre
  refine wpAny_call ?_
  k_extra "ENTER"
  k_steps
  all_goals (k_extra "FININT"; rfl)
theorem c_end (w : World) (x : Addr) (ns : List Int) :
    Spec w 1 8 (nat_lit 806) [.ref x] (fun h => RowIn h x ns) (fun v nw => nw = [] ∧ ∃ t, v = .int ns.length t) := by
  unfold Spec; k_fill; intros; rename_i hpre hret
  obtain ⟨dx, l, e1, e2, t1, t2, t3, n, vs, hx, hdx, hl, hi, hlen⟩ := hpre
  refine wpAny_call ?_
  k_extra "ENTER"
  k_steps
  all_goals (k_extra "FININT"; omega)
--reg
example : True := by
  k_with "PRE" => (exact RowIn.keeps (by assumption) (Fr.keep (by k_asm)))
  k_with "call ref" => (k_dflt (refine' Spec.useI (c_code_at _ _ _ _ _) ?k1 ?k2 ?k3 ?k4 ?k5 ?k6 ?k7 ?k8 ?k9 ?_; k_extra "MYINT"))
  k_with "call ref" => (k_dflt (refine' Spec.useI (c_begin _ _ _) ?k1 ?k2 ?k3 ?k4 ?k5 ?k6 ?k7 ?k8 ?k9 ?_; k_extra "MYINT"))
  k_with "call ref" => (k_dflt (refine' Spec.useI (c_end _ _ _) ?k1 ?k2 ?k3 ?k4 ?k5 ?k6 ?k7 ?k8 ?k9 ?_; k_extra "MYINT"))
  trivial
--end
noncomputable def dcase (c : Int) : Int := if (65 ≤ c ∧ c ≤ 90) ∨ (192 ≤ c ∧ c ≤ 222 ∧ c ≠ 215) then c + 32 else c
noncomputable def ucase (c : Int) : Int := if (97 ≤ c ∧ c ≤ 122) ∨ (224 ≤ c ∧ c ≤ 254 ∧ c ≠ 247) then c - 32 else c
noncomputable def sameC (f : Bool) (a b : Int) : Bool := a == b || (f && dcase a == dcase b)
theorem c_downcase (w : World) (c : Int) (tp : Tok) :
    Spec w 1 8 (nat_lit 28) [.int c tp] (fun _ => True) (fun v nw => nw = [] ∧ ∃ t, v = .int (dcase c) t) := by
  unfold Spec; k_fill; intros; rename_i hret
  refine wpAny_call ?_
  k_extra "ENTER"
  k_steps
  all_goals (k_extra "FININT"; unfold dcase; split <;> omega)
theorem c_upcase (w : World) (c : Int) (tp : Tok) :
    Spec w 1 8 (nat_lit 35) [.int c tp] (fun _ => True) (fun v nw => nw = [] ∧ ∃ t, v = .int (ucase c) t) := by
  unfold Spec; k_fill; intros; rename_i hret
  refine wpAny_call ?_
  k_extra "ENTER"
  k_steps
  all_goals (k_extra "FININT"; unfold ucase; split <;> omega)
--reg
example : True := by
  k_with "call ref" => (k_dflt (refine' Spec.useI (c_downcase _ _ _) ?k1 ?k2 ?k3 ?k4 ?k5 ?k6 ?k7 ?k8 ?k9 ?_; k_extra "MYINT"))
  k_with "call ref" => (k_dflt (refine' Spec.useI (c_upcase _ _ _) ?k1 ?k2 ?k3 ?k4 ?k5 ?k6 ?k7 ?k8 ?k9 ?_; k_extra "MYINT"))
  trivial
--end
theorem c_fold (w : World) (c : Int) (tp : Tok) :
    Spec w 2 16 (nat_lit 42) [.int c tp] (fun _ => True) (fun v nw => nw = [] ∧ ∃ t, v = .int (dcase c) t) := by
  unfold Spec; k_fill; intros; rename_i hret
  refine wpAny_call ?_
  k_extra "ENTER"
  k_steps
  all_goals (k_extra "FININT"; rfl)
--reg
example : True := by
  k_with "call ref" => (k_dflt (refine' Spec.useI (c_fold _ _ _) ?k1 ?k2 ?k3 ?k4 ?k5 ?k6 ?k7 ?k8 ?k9 ?_; k_extra "MYINT"))
  trivial
--end
section
variable {prog : Program} {w : World} {A : Around} {E : Value → Shared → Prop} {s : Shared} {env : Env} {h₀ : Heap} {m : Str → Option Value} {xv : Value} {Q : Flow → Shared → Prop} {body : List Stmt}
/-- a turn's end in a loop that stores the names `stored` alone -/
noncomputable def LEnd (h₀ : Heap) (L : Addr) (own : List (Addr × Obj)) (stored : List Str) (m : Str → Option Value) (P : Prop) (s : Shared) (Q : Flow → Shared → Prop) (f : Flow) (s₂ : Shared) : Prop :=
  match f with
  | .ret v => Q (.ret v) s₂
  | .brk => Q .next s₂
  | _ => ∃ h' tk m' news', s₂ = { s with heap := h', toks := tk } ∧ Fr h₀ L h' m' ∧ News h₀ L h' news' ∧ (∀ p ∈ own, p ∈ news') ∧ P ∧ ∀ y, stored.contains y = false → m' y = m y
theorem turn_end {L : Addr} {own news' : List (Addr × Obj)} {stored : List Str} {m' : Str → Option Value} {P : Prop} {h' : Heap} {tk : Nat} (F : Fr h₀ L h' m') (N : News h₀ L h' news') (hn : ∀ p ∈ own, p ∈ news') (hP : P) (hm : ∀ y, stored.contains y = false → m' y = m y) :
    LEnd h₀ L own stored m P s Q .next { s with heap := h', toks := tk } := ⟨h', tk, m', news', rfl, F, N, hn, hP, hm⟩
theorem turn_ret {L : Addr} {own : List (Addr × Obj)} {stored : List Str} {P : Prop} {v : Value} {s₂ : Shared} (h : Q (.ret v) s₂) : LEnd h₀ L own stored m P s Q (.ret v) s₂ := h
theorem pair_inv {as : List Int} {xi xc : Str} (S : PairSrcL prog w A E h₀ env.locals ItemKind.int as xv s m []) (stored : List Str) (P : Nat → Prop) (h0 : P 0)
    (turn : ∀ (i : Nat) a ti t (u : Str → Option Value) h tk own, as[i]? = some a → P i → Fr h₀ env.locals h (fun y => if y = xc then some (.int a t) else if y = xi then some (.int i ti) else if (xi :: xc :: stored).contains y then u y else m y) → News h₀ env.locals h own →
      wpAny (model prog w) A (execs body env) (LEnd h₀ env.locals own (xi :: xc :: stored) m (P (i + 1)) { s with heap := h, toks := tk } Q) E { s with heap := h, toks := tk })
    (done : ∀ (u : Str → Option Value) h tk, P as.length → Fr h₀ env.locals h (fun y => if (xi :: xc :: stored).contains y then u y else m y) → News h₀ env.locals h [] → Q .next { s with heap := h, toks := tk }) :
    wpAny (model prog w) A (pyIter xv) (fun it s₂ => PairAt3 prog w A h₀ env xi xc body Q E it s₂) E s := by
  have em : ∀ m₁ : Str → Option Value, (∀ y, (xi :: xc :: stored).contains y = false → m₁ y = m y) → (fun y => if (xi :: xc :: stored).contains y then m₁ y else m y) = m₁ := fun m₁ h => by
    funext y
    cases e : (xi :: xc :: stored).contains y with
    | true => simp
    | false => simp only [Bool.false_eq_true, if_false]; exact (h y e).symm
  refine S env rfl xi xc body Q (fun i m₁ news₁ => news₁ = [] ∧ P i ∧ ∀ y, (xi :: xc :: stored).contains y = false → m₁ y = m y) ⟨rfl, h0, fun _ _ => rfl⟩ ?_ ?_
  · rintro i a t v m₁ news₁ s₁ own ⟨h, tk, rfl⟩ ha hv ⟨rfl, hP, hm⟩ _ _ F₁ N₁
    obtain ⟨tv, rfl⟩ := ItemKind.int_is hv
    have e : (fun y => if y = xc then some (Value.int a tv) else if y = xi then some (.int i t) else m₁ y) = (fun y => if y = xc then some (Value.int a tv) else if y = xi then some (.int i t) else if (xi :: xc :: stored).contains y then m₁ y else m y) := by
      funext y
      by_cases h1 : y = xc
      · simp only [if_pos h1]
      · simp only [if_neg h1]
        by_cases h2 : y = xi
        · simp only [if_pos h2]
        · simp only [if_neg h2]; exact (congrFun (em m₁ hm) y).symm
    rw [e] at F₁
    rw [List.append_nil] at N₁
    refine wpAny_mono (turn i a t tv m₁ h tk own ha hP F₁ N₁) (fun f s₂ p => ?_) fun _ _ e => e
    cases f with
    | ret v => exact p
    | brk => exact p
    | next => obtain ⟨h', tk', m', news', rfl, F', N', hn, hP', hm'⟩ := p; exact ⟨rfl, h', tk', m', [], rfl, F', by rw [List.append_nil]; exact fun p hp => N' p (hn p hp), rfl, rfl, hP', hm'⟩
    | cont => obtain ⟨h', tk', m', news', rfl, F', N', hn, hP', hm'⟩ := p; exact ⟨rfl, h', tk', m', [], rfl, F', by rw [List.append_nil]; exact fun p hp => N' p (hn p hp), rfl, rfl, hP', hm'⟩
  · rintro h' tk m' news' F' N' _ ⟨rfl, hP, hm⟩
    exact done m' h' tk hP (by rw [em m' hm]; exact F') N'
end
--reg
example : True := by
  k_with "LEND" => (refine' turn_end ?kf ?kn ?ko ?_ ?km; (case kf => k_asm); (case kn => assumption); (case ko => k_extra "SUB"); (case km => k_extra "SAME"))
  k_with "LEnd" => (with_reducible refine turn_ret ?_)
  trivial
--end
noncomputable def hereB (ns ws : List Int) (p : Int) (f : Bool) : Bool := ws.zipIdx.all fun c => sameC f (codeAt ns (p + c.2)) c.1
theorem here_iff {ns ws : List Int} {p : Int} {f : Bool} : hereB ns ws p f = true ↔ ∀ j : Nat, j < ws.length → sameC f (codeAt ns (p + j)) (ws.getD j 0) = true := by
  unfold hereB
  rw [List.all_eq_true]
  constructor
  · intro h j hj
    have := h (ws[j], j) (by rw [List.mem_zipIdx_iff_getElem?]; simp [hj])
    simpa [List.getD_eq_getElem?_getD, hj] using this
  · rintro h ⟨a, j⟩ hm
    rw [List.mem_zipIdx_iff_getElem?] at hm
    obtain ⟨hj, e⟩ := List.getElem?_eq_some_iff.mp hm
    have := h j hj
    rw [List.getD_eq_getElem?_getD, hm] at this
    exact this
theorem here_false {ns ws : List Int} {p : Int} {f : Bool} {i : Nat} {a : Int} (ha : ws[i]? = some a) (h : sameC f (codeAt ns (p + i)) a = false) : false = hereB ns ws p f := by
  cases e : hereB ns ws p f with
  | false => rfl
  | true =>
    obtain ⟨hj, _⟩ := List.getElem?_eq_some_iff.mp ha
    have := here_iff.mp e i hj
    rw [List.getD_eq_getElem?_getD, ha] at this
    exact absurd (this.symm.trans h) (by decide)
theorem here_next {ns ws : List Int} {p : Int} {f : Bool} {i : Nat} {a : Int} (ha : ws[i]? = some a) (hP : ∀ j : Nat, j < i → sameC f (codeAt ns (p + j)) (ws.getD j 0) = true) (h : sameC f (codeAt ns (p + i)) a = true) :
    ∀ j : Nat, j < i + 1 → sameC f (codeAt ns (p + j)) (ws.getD j 0) = true := fun j hj => by
  by_cases e : j = i
  · subst e; rw [List.getD_eq_getElem?_getD, ha]; exact h
  · exact hP j (by omega)
theorem c_is_here (w : World) (x lw : Addr) (tp : Tok) (ns ws : List Int) (place : Int) (f : Bool) :
    Spec w 4 32 (nat_lit 280) [.ref x, .ref lw, .int place tp, .bool f] (fun h => RowIn h x ns ∧ ListIn h lw ws) (fun v nw => nw = [] ∧ v = .bool (hereB ns ws place f)) := by
  unfold Spec; k_fill; intros; rename_i hpre hret
  obtain ⟨hx, vs, hl, hi, hlen⟩ := hpre
  have hx' := hx; obtain ⟨dx, l, e1, e2, t1, t2, t3, n, vs', hx1, hdx, hl', hi', hlen'⟩ := hx'
  refine wpAny_call ?_
  k_extra "ENTER"
  k_extra "STEPS"
  with_unfolding_all refine pair_inv (by assumption) [Str.ofString "other"] (fun i => ∀ j : Nat, j < i → sameC f (codeAt ns (place + j)) (ws.getD j 0) = true) (fun j hj => absurd hj (Nat.not_lt_zero _)) ?_ ?_
  · intro i a ti t u h tk own ha hP F N
    k_fold
    k_extra "STEPS"
    · k_extra "LEND"
      exact here_next ha hP (by simp_all [sameC])
    · k_extra "FINVAL"
      exact congrArg Value.bool (here_false ha (by simp_all [sameC]))
    · k_extra "FINVAL"
      exact congrArg Value.bool (here_false ha (by simp_all [sameC]))
    · k_extra "LEND"
      exact here_next ha hP (by simp_all [sameC])
  · intro u h tk hP F N
    (try dsimp only)
    k_extra "STEPS"
    all_goals k_extra "FINVAL"
    rw [here_iff.mpr hP]
--reg
example : True := by
  k_with "call ref" => (k_dflt (refine' Spec.useV (c_is_here _ _ _ _ _ _ _ _) ?k1 ?k2 ?k3 ?k4 ?k5 ?k6 ?k7 ?k8 ?k9 ?_; k_extra "MYVAL"))
  k_with "PRE" => (exact ⟨RowIn.keeps (by assumption) (Fr.keep (by k_asm)), ListIn.keeps (by assumption) (Fr.keep (by k_asm))⟩)
  trivial
--end
section
variable {prog : Program} {w : World} {A : Around} {E : Value → Shared → Prop} {s : Shared} {env : Env} {h₀ : Heap} {m : Str → Option Value} {Q : Flow → Shared → Prop} {body : List Stmt} {x : Str}
noncomputable def LEndG {σ : Type} (h₀ : Heap) (L : Addr) (Led : σ → List (Addr × Obj)) (own : List (Addr × Obj)) (stored : List Str) (m : Str → Option Value) (P : σ → Prop) (s : Shared) (Q : Flow → Shared → Prop) (f : Flow) (s₂ : Shared) : Prop :=
  match f with
  | .ret v => Q (.ret v) s₂
  | .brk => Q .next s₂
  | _ => ∃ h' tk m' news' c, s₂ = { s with heap := h', toks := tk } ∧ Fr h₀ L h' m' ∧ News h₀ L h' news' ∧ (∀ p ∈ Led c, p ∈ news') ∧ (∀ p ∈ own, p ∈ news') ∧ P c ∧ ∀ y, stored.contains y = false → m' y = m y
theorem turn_endG {σ : Type} {Led : σ → List (Addr × Obj)} {L : Addr} {own news' : List (Addr × Obj)} {stored : List Str} {m' : Str → Option Value} {P : σ → Prop} {h' : Heap} {tk : Nat} (c : σ) (F : Fr h₀ L h' m') (N : News h₀ L h' news') (hn : ∀ p ∈ own, p ∈ news') (hl : ∀ p ∈ Led c, p ∈ news') (hP : P c) (hm : ∀ y, stored.contains y = false → m' y = m y) :
    LEndG h₀ L Led own stored m P s Q .next { s with heap := h', toks := tk } := ⟨h', tk, m', news', c, rfl, F, N, hl, hn, hP, hm⟩
theorem turn_retG {σ : Type} {Led : σ → List (Addr × Obj)} {L : Addr} {own : List (Addr × Obj)} {stored : List Str} {P : σ → Prop} {v : Value} {s₂ : Shared} (h : Q (.ret v) s₂) : LEndG h₀ L Led own stored m P s Q (.ret v) s₂ := h
theorem lendG_post {σ : Type} {Led : σ → List (Addr × Obj)} {L : Addr} {own : List (Addr × Obj)} {stored : List Str} {P : Nat → σ → Prop} {pre : List Int} {k : Int} {adr : List Addr} (hadr : ∀ c, (Led c).map (·.1) = adr) {f : Flow} {s₂ : Shared}
    (p : LEndG h₀ L Led own (x :: stored) m (P (pre.length + 1)) s Q f s₂) : InvPostN h₀ L (KstS Led (fun _ => []) (fun _ => True) x stored m (fun pre c => P pre.length c) (pre ++ [k])) own adr s Q f s₂ := by
  have one : ∀ {f : Flow}, (∃ h' tk m' news' c, s₂ = { s with heap := h', toks := tk } ∧ Fr h₀ L h' m' ∧ News h₀ L h' news' ∧ (∀ p ∈ Led c, p ∈ news') ∧ (∀ p ∈ own, p ∈ news') ∧ P (pre.length + 1) c ∧ ∀ y, (x :: stored).contains y = false → m' y = m y) →
      InvEndN h₀ L (KstS Led (fun _ => []) (fun _ => True) x stored m (fun pre c => P pre.length c) (pre ++ [k])) own adr s s₂ := by
    rintro _ ⟨h', tk, m', news', c, e, F, N, hl, hn, hP, hm⟩
    refine ⟨h', tk, m', news', Led c, e, F, N, hl, hn, hadr c, c, rfl, trivial, fun _ h => (nomatch h), fun z h1 _ h3 => hm z ?_, ?_⟩
    · simp only [List.contains_cons, Bool.or_eq_false_iff, beq_eq_false_iff_ne, ne_eq]
      exact ⟨h1, h3⟩
    · show P (pre ++ [k]).length c; rw [List.length_append]; exact hP
  cases f with
  | ret v => exact p
  | brk => exact p
  | next => exact one (f := .next) p
  | cont => exact one (f := .cont) p
theorem range_up {σ : Type} (Led : σ → List (Addr × Obj)) (stored : List Str) (P : Nat → σ → Prop) (c₀ : σ) {r : Addr} {a₀ b₀ : Int} {t₀ u₀ v₀ : Tok} (hh : A.handled = none) (hr : IsRange s.heap r a₀ b₀ 1 t₀ u₀ v₀)
    (ha : -(2 ^ 62) ≤ a₀ ∧ a₀ < 2 ^ 62 ∧ -(2 ^ 62) ≤ b₀ ∧ b₀ < 2 ^ 62) (F : Fr h₀ env.locals s.heap m) (N : News h₀ env.locals s.heap (Led c₀)) (hadr : ∀ c, (Led c).map (·.1) = (Led c₀).map (·.1)) (h0 : P 0 c₀)
    (turn : ∀ (c : σ) (i : Nat) t (u : Str → Option Value) h tk own, a₀ + i < b₀ → OwnOff own ((Led c₀).map (·.1)) → P i c →
      Fr h₀ env.locals h (fun y => if y = x then some (.int (a₀ + i) t) else if stored.contains y then u y else m y) → News h₀ env.locals h (Led c ++ own) →
      wpAny (model prog w) A (execs body env) (LEndG h₀ env.locals Led own (x :: stored) m (P (i + 1)) { s with heap := h, toks := tk } Q) E { s with heap := h, toks := tk })
    (done : ∀ (c : σ) (u : Str → Option Value) h tk, P (b₀ - a₀).toNat c → Fr h₀ env.locals h (fun y => if y = x then u y else if stored.contains y then u y else m y) → News h₀ env.locals h (Led c) → Q .next { s with heap := h, toks := tk }) :
    wpAny (model prog w) A (pyIter (.ref r)) (fun it s₂ => LoopAtV prog w A h₀ env x body Q E it s₂) E s := by
  refine kst_range Led (fun _ => []) (fun _ => True) stored (fun pre c => P pre.length c) c₀ hh hr (small_one ha.1 ha.2.1 ha.2.2.1 ha.2.2.2) (rangeSize_nat _ _) F N trivial (fun _ h => nomatch h) h0 ?_ ?_
  · intro c pre k t u h tk own hk hlt hoff _ hP F₁ N₁
    subst hk
    exact wpAny_mono (turn c pre.length t u h tk own (by omega) hoff hP F₁ N₁) (fun f s₂ p => lendG_post hadr p) fun _ _ e => e
  · intro c u h tk _ hP F₁ N₁
    rw [rangeKs_length] at hP
    exact done c u h tk hP F₁ N₁
theorem range_down {σ : Type} (Led : σ → List (Addr × Obj)) (stored : List Str) (P : Nat → σ → Prop) (c₀ : σ) {r : Addr} {a₀ b₀ : Int} {t₀ u₀ v₀ : Tok} (hh : A.handled = none) (hr : IsRange s.heap r a₀ b₀ (-1) t₀ u₀ v₀)
    (ha : -(2 ^ 62) ≤ a₀ ∧ a₀ < 2 ^ 62 ∧ -(2 ^ 62) ≤ b₀ ∧ b₀ < 2 ^ 62) (F : Fr h₀ env.locals s.heap m) (N : News h₀ env.locals s.heap (Led c₀)) (hadr : ∀ c, (Led c).map (·.1) = (Led c₀).map (·.1)) (h0 : P 0 c₀)
    (turn : ∀ (c : σ) (i : Nat) t (u : Str → Option Value) h tk own, b₀ < a₀ - i → OwnOff own ((Led c₀).map (·.1)) → P i c →
      Fr h₀ env.locals h (fun y => if y = x then some (.int (a₀ - i) t) else if stored.contains y then u y else m y) → News h₀ env.locals h (Led c ++ own) →
      wpAny (model prog w) A (execs body env) (LEndG h₀ env.locals Led own (x :: stored) m (P (i + 1)) { s with heap := h, toks := tk } Q) E { s with heap := h, toks := tk })
    (done : ∀ (c : σ) (u : Str → Option Value) h tk, P (a₀ - b₀).toNat c → Fr h₀ env.locals h (fun y => if y = x then u y else if stored.contains y then u y else m y) → News h₀ env.locals h (Led c) → Q .next { s with heap := h, toks := tk }) :
    wpAny (model prog w) A (pyIter (.ref r)) (fun it s₂ => LoopAtV prog w A h₀ env x body Q E it s₂) E s := by
  refine kst_rangeD Led (fun _ => []) (fun _ => True) stored (fun pre c => P pre.length c) c₀ hh hr (small_down ha.1 ha.2.1 ha.2.2.1 ha.2.2.2) (rangeSize_downNat _ _) F N trivial (fun _ h => nomatch h) h0 ?_ ?_
  · intro c pre k t u h tk own hk hlt hoff _ hP F₁ N₁
    subst hk
    exact wpAny_mono (turn c pre.length t u h tk own (by omega) hoff hP F₁ N₁) (fun f s₂ p => lendG_post hadr p) fun _ _ e => e
  · intro c u h tk _ hP F₁ N₁
    rw [downKs_length] at hP
    exact done c u h tk hP F₁ N₁
end
--reg
example : True := by
  k_with "LENDG" => (refine' turn_endG () ?kf ?kn ?ko (List.forall_mem_nil _) ?_ ?km; (case kf => k_asm); (case kn => assumption); (case ko => k_extra "SUB"); (case km => k_extra "SAME"))
  k_with "LEndG" => (with_reducible refine turn_retG ?_)
  trivial
--end
noncomputable def firstN (good : Nat → Bool) (n : Nat) : Option Nat := (List.range n).find? good
theorem firstN_none {good : Nat → Bool} {n : Nat} (h : ∀ i : Nat, i < n → good i = false) : firstN good n = none := by
  unfold firstN
  rw [List.find?_eq_none]
  intro i hi
  rw [h i (List.mem_range.mp hi)]
  exact Bool.false_ne_true
theorem firstN_some {good : Nat → Bool} {n k : Nat} (h : ∀ i : Nat, i < k → good i = false) (hg : good k = true) (hk : k < n) : firstN good n = some k := by
  unfold firstN
  rw [List.find?_range_eq_some]
  exact ⟨hg, List.mem_range.mpr hk, fun j hj => by rw [h j hj]; rfl⟩
noncomputable def fwdN (ns ws : List Int) (place bound : Int) : Nat := (min bound ns.length - ws.length + 1 - place).toNat
noncomputable def fwd (ns ws : List Int) (place bound : Int) (f : Bool) : Option (Int × Int) := (firstN (fun i => hereB ns ws (place + i) f) (fwdN ns ws place bound)).map fun (i : Nat) => (place + i, place + i + ws.length)
noncomputable def bwdN (ws : List Int) (place bound : Int) : Nat := (place - ws.length - (max bound 0 - 1)).toNat
noncomputable def bwd (ns ws : List Int) (place bound : Int) (f : Bool) : Option (Int × Int) := (firstN (fun i => hereB ns ws (place - ws.length - i) f) (bwdN ws place bound)).map fun (i : Nat) => (place - ws.length - i, place - ws.length - i + ws.length)
theorem c_search_forward (w : World) (x lw : Addr) (tp tb : Tok) (ns ws : List Int) (place bound : Int) (f : Bool) (hp0 : 0 ≤ place) (hp : place ≤ ns.length) (hb0 : 0 ≤ bound) (hb : bound ≤ ns.length) :
    Spec w 5 40 (nat_lit 287) [.ref x, .int place tp, .ref lw, .int bound tb, .bool f] (fun h => RowIn h x ns ∧ ListIn h lw ws) (fun v nw => FoundAs (fwd ns ws place bound f) v nw) := by
  unfold Spec; k_fill; intros; rename_i hpre hret
  obtain ⟨hx, hw⟩ := hpre
  have hw' := hw; obtain ⟨vs, hl, hi, hlen⟩ := hw'
  have hx' := hx; obtain ⟨dx, l, e1, e2, t1, t2, t3, n, vs', hx1, hdx, hl', hi', hlen'⟩ := hx'
  refine wpAny_call ?_
  k_extra "ENTER"
  k_extra "STEPS"
  with_unfolding_all refine range_up (fun _ : Unit => []) [] (fun i _ => ∀ j : Nat, j < i → hereB ns ws (place + j) f = false) () rfl (by assumption) (by omega) (by k_asm) (by assumption) (fun _ => rfl) (fun j hj => absurd hj (Nat.not_lt_zero _)) ?_ ?_
  · intro c i t u h tk own hlt hoff hP F N
    simp only [List.nil_append] at N
    k_fold
    k_extra "STEPS"
    · k_extra "FINFOUND"
      unfold fwd
      rw [firstN_some hP (by assumption) (by unfold fwdN; omega)]; rfl
    · k_extra "LENDG"
      intro j hj
      by_cases e : j = i
      · subst e; assumption
      · exact hP j (by omega)
  · intro c u h tk hP F N
    (try dsimp only)
    k_extra "STEPS"
    all_goals k_extra "FINNONE"
    unfold fwd
    rw [firstN_none (fun i hi => hP i (by unfold fwdN at hi; omega))]; rfl
theorem c_search_backward (w : World) (x lw : Addr) (tp tb : Tok) (ns ws : List Int) (place bound : Int) (f : Bool) (hp0 : 0 ≤ place) (hp : place ≤ ns.length) (hb0 : 0 ≤ bound) (hb : bound ≤ ns.length) :
    Spec w 5 40 (nat_lit 294) [.ref x, .int place tp, .ref lw, .int bound tb, .bool f] (fun h => RowIn h x ns ∧ ListIn h lw ws) (fun v nw => FoundAs (bwd ns ws place bound f) v nw) := by
  unfold Spec; k_fill; intros; rename_i hpre hret
  obtain ⟨hx, hw⟩ := hpre
  have hw' := hw; obtain ⟨vs, hl, hi, hlen⟩ := hw'
  have hx' := hx; obtain ⟨dx, l, e1, e2, t1, t2, t3, n, vs', hx1, hdx, hl', hi', hlen'⟩ := hx'
  refine wpAny_call ?_
  k_extra "ENTER"
  k_extra "STEPS"
  with_unfolding_all refine range_down (fun _ : Unit => []) [] (fun i _ => ∀ j : Nat, j < i → hereB ns ws (place - ws.length - j) f = false) () rfl (by assumption) (by omega) (by k_asm) (by assumption) (fun _ => rfl) (fun j hj => absurd hj (Nat.not_lt_zero _)) ?_ ?_
  · intro c i t u h tk own hlt hoff hP F N
    simp only [List.nil_append] at N
    k_fold
    k_extra "STEPS"
    · k_extra "FINFOUND"
      unfold bwd
      rw [firstN_some hP (by assumption) (by unfold bwdN; omega)]; rfl
    · k_extra "LENDG"
      intro j hj
      by_cases e : j = i
      · subst e; assumption
      · exact hP j (by omega)
  · intro c u h tk hP F N
    (try dsimp only)
    k_extra "STEPS"
    all_goals k_extra "FINNONE"
    unfold bwd
    rw [firstN_none (fun i hi => hP i (by unfold bwdN at hi; omega))]; rfl
inductive TableIn (h : Heap) (x : Addr) : Prop | mk (dx rd : Addr) (e1 e2 t1 t2 n n') (a : h.get? x = some (instObj 773 dx))
  (b : h.get? dx = some (dictOf [⟨e1, .str (Str.ofString "parent") t1, .none⟩, ⟨e2, .str (Str.ofString "rows") t2, .ref rd⟩] n)) (c : h.get? rd = some (dictOf [] n')) (d : (rd == sysModules) = false)
theorem TableIn.keeps {h h' : Heap} {x : Addr} (r : TableIn h x) (k : h.StaysIn h') : TableIn h' x :=
  let ⟨dx, rd, e1, e2, t1, t2, n, n', a, b, c, d⟩ := r; ⟨dx, rd, e1, e2, t1, t2, n, n', k _ _ a, k _ _ b, k _ _ c, d⟩
section
variable {prog : Program} {w : World} {A : Around} {E : Value → Shared → Prop} {s : Shared} {h₀ : Heap} {L rd : Addr} {m : Str → Option Value} {n : Nat}
theorem emptyMap {h : Heap} (e : h.get? rd = some (dictOf [] n)) : h.MapOf (PySem.intKind prog w) rd (fun _ => none) := ⟨_, #[], n, e, ⟨rfl, rfl, rfl⟩, rfl, fun e he => by simp at he, fun _ => rfl⟩
theorem get_method {pl : Sem Bool} {Q : Value × List Value → Shared → Prop} (F : Fr h₀ L s.heap m) (e : h₀.get? rd = some (dictOf [] n)) (h : Q (.builtin "dict.get", [.ref rd]) s) : wpAny (model prog w) A (getMethod (.ref rd) (Str.ofString "get") pl) Q E s :=
  have hD := emptyMap (prog := prog) (w := w) (F.keep _ _ e)
  getMethod_builtin hD.typeIs PySem.F.plainAttrs_dict PySem.F.slot_dict_get PySem.F.type_dict_get hD.noDict h
theorem get_none {c : Int} {t : Tok} {Q : Value → Shared → Prop} (F : Fr h₀ L s.heap m) (e : h₀.get? rd = some (dictOf [] n)) (lo : (rd == sysModules) = false) (h : Q .none { s with toks := s.toks + 1 }) :
    wpAny (model prog w) A (call (.builtin "dict.get") [.ref rd, .int c t, .none]) Q E s :=
  have hD := emptyMap (prog := prog) (w := w) (F.keep _ _ e)
  call_meetsIn PySem.F.slot_dict_get hD.typeIs PySem.F.entry_dict_get (PySem.F.args_dict_get_3 _ _ _) (meets_dict_get_default (PySem.intKind prog w) rd (intKind_is _ _ _ _) lo .none) ⟨_, hD, h⟩
end
--reg
example : True := by
  k_with "getMethod ref" => (k_here; (with_reducible show wpAny _ _ (getMethod (Value.ref _) (Str.ofString "get") _) _ _ _); k_dflt (refine' get_method ?kf ?ke ?_; (case kf => k_asm); (case ke => assumption)))
  k_with "call builtin:dict.get" => (k_dflt (refine' get_none ?kf ?ke ?kl ?_; (case kf => k_asm); (case ke => assumption); (case kl => assumption)))
  trivial
--end
theorem c_own (w : World) (x : Addr) (c : Int) (tp : Tok) :
    Spec w 2 16 (nat_lit 749) [.ref x, .int c tp] (fun h => TableIn h x) (fun v nw => nw = [] ∧ v = .none) := by
  unfold Spec; k_fill; intros; rename_i hpre hret
  obtain ⟨dx, rd, e1, e2, t1, t2, n, n', hx, hdx, hrd, hlo⟩ := hpre
  refine wpAny_call ?_
  k_extra "ENTER"
  k_extra "STEPS"
  all_goals k_extra "FINVAL"
  rfl
--reg
example : True := by
  k_with "PRE" => (exact TableIn.keeps (by assumption) (Fr.keep (by k_asm)))
  k_with "call ref" => (k_dflt (refine' Spec.useV (c_own _ _ _ _) ?k1 ?k2 ?k3 ?k4 ?k5 ?k6 ?k7 ?k8 ?k9 ?_; k_extra "MYVAL"))
  trivial
--end
inductive SyntaxNew (v : Value) (nw : List (Addr × Obj)) : Prop | mk (x dx : Addr) (e1 e2 e3 t1 t2 t3 k tk) (v2 v3 : Value) (n) (a : v = .ref x) (b : nw = [(x, instObj 702 dx), (dx, dictOf [⟨e1, .str (Str.ofString "kind") t1, .str k tk⟩, ⟨e2, .str (Str.ofString "match") t2, v2⟩, ⟨e3, .str (Str.ofString "flags") t3, v3⟩] n)])
theorem c_at (w : World) (x : Addr) (c : Int) (tp : Tok) :
    Spec w 4 32 (nat_lit 756) [.ref x, .int c tp] (fun h => TableIn h x) (fun v nw => SyntaxNew v nw) := by
  unfold Spec; k_fill; intros; rename_i hpre hret
  have hT := hpre
  obtain ⟨dx, rd, e1, e2, t1, t2, n, n', hx, hdx, hrd, hlo⟩ := hpre
  refine wpAny_call ?_
  k_extra "ENTER"
  k_extra "STEPS"
  k_dflt (refine whl_start 100 ?_)
  k_extra "STEPS"
  all_goals (k_extra "FINNEW"; exact ⟨_, _, _, _, _, _, _, _, _, _, _, _, _, rfl, rfl⟩)
--reg
example : True := by
  k_with "call ref" => (k_dflt (refine' Spec.use (c_at _ _ _ _) ?k1 ?k2 ?k3 ?k4 ?k5 ?k6 ?k7 ?k8 ?k9 ?_; k_extra "MYCALL"; obtain ⟨x9, d9, e9, e8, e7, t9, t8, t7, k9, tk8, v8, v7, n9, hv9, hn9⟩ := hp9; subst hv9; subst hn9; (simp only [List.cons_append, List.nil_append] at N9); clear ha9 hs9; (try dsimp only); (try k_fold)))
  trivial
--end
theorem c_kind (w : World) (x : Addr) (c : Int) (tp : Tok) :
    Spec w 6 48 (nat_lit 763) [.ref x, .int c tp] (fun h => TableIn h x) (fun v nw => nw = [] ∧ ∃ k t, v = .str k t) := by
  unfold Spec; k_fill; intros; rename_i hpre hret
  have hT := hpre
  obtain ⟨dx, rd, e1, e2, t1, t2, n, n', hx, hdx, hrd, hlo⟩ := hpre
  refine wpAny_call ?_
  k_extra "ENTER"
  k_extra "STEPS"
  all_goals (refine hret _ [] _ _ ?_ ?_ (fun _ h => nomatch h) ?_ ⟨rfl, _, _, rfl⟩; k_asm; assumption; assumption)
--reg
example : True := by
  k_with "call ref" => (k_dflt (refine' Spec.use (c_kind _ _ _ _) ?k1 ?k2 ?k3 ?k4 ?k5 ?k6 ?k7 ?k8 ?k9 ?_; k_extra "MYCALL"; obtain ⟨he9, k9, t9, hv9⟩ := hp9; subst he9; subst hv9; (simp only [List.nil_append] at N9); clear ha9 hs9; (try dsimp only); (try k_fold)))
  trivial
--end
section
variable {prog : Program} {w : World} {A : Around} {E : Value → Shared → Prop} {s : Shared} {h₀ : Heap} {L : Addr} {m : Str → Option Value} {env : Env}
theorem letgo_tup {elts : List Expr} {x1 : Nat} {pos : Pos} {I l T : Addr} {i : Nat} {Q : Unit → Shared → Prop} (hit : s.heap.IsTupleIter I l i) (hQ : Q () s) :
    wpAny (model prog w) A (letOwnedTupleGo (.Tuple elts x1 pos) (.ref I) (.ref T)) Q E s := by
  obtain ⟨o, ho, hc, hd⟩ := hit
  obtain ⟨cls, dict, data, slots⟩ := o
  dsimp only at hc hd
  subst hc hd
  exact wpAny_bind (wpAny_load ho (wpAny_pure hQ))
theorem pair_comp {elt iter : Expr} {x x₂ : Str} {px px₂ tp : Pos} {kk : Nat} {scope : Scope} {cl : List (Str × Addr)} {pos : Pos} {T : Addr} {its : Array Value} (f : Nat → Value) {Q : Value → Shared → Prop}
    (hh : A.handled = none) (hsz : its.size ≤ 100) (F : Fr h₀ L s.heap m) (hT : h₀.IsTuple T its)
    (hclos : closureFor scope env = pure cl) (hcell : ∀ y ∈ scope.names, y.2 ≠ .cell) (hkind : scope.kind = .function)
    (hnames : ∀ y ∈ scope.names, y.2 = .local → scope.names.lookup y.1 = some .local) (hx : scope.names.lookup x = some .local) (hx₂ : scope.names.lookup x₂ = some .local) (hxx : x ≠ x₂)
    (hi : wpAny (model prog w) A (eval iter env) (fun xv s₁ => xv = .ref T ∧ ∃ tk, s₁ = { s with toks := tk }) E s)
    (el : ∀ i v, its[i]? = some v → ∃ t v₁ v₂, v = .ref t ∧ IsTup h₀ t #[v₁, v₂] ∧ ∀ C m₂ h tk (E' : Value → Shared → Prop), h.Ns C m₂ → m₂ x = some v₁ → m₂ x₂ = some v₂ → s.heap.StaysIn h →
      wpAny (model prog w) A (eval elt (compEnvC scope cl C env)) (fun y s' => y = f i ∧ ∃ tk', s' = { s with heap := h, toks := tk' }) E' { s with heap := h, toks := tk })
    (h : ∀ D h' tk, Fr h₀ L h' m → s.heap.StaysIn h' → s.heap.get? D = none → D ≠ L → h₀.get? D = none → h'.get? D = some (listOf ((List.range its.size).map f).toArray its.size) → Q (.ref D) { s with heap := h', toks := tk })
    (hs : ∀ x, foldedSetIterable iter env x = pure x := by intro _; rfl) :
    wpAny (model prog w) A (eval (.ListComp elt [⟨.Tuple [.Name x px, .Name x₂ px₂] kk tp, iter, [], 0⟩] scope pos) env) Q E s := by
  rw [eval_ListComp]
  refine wpAny_comprehension_free (use := none) rfl hs hclos hkind hnames (wpAny_mono hi (fun xv s₁ h₁ => ?_) fun _ _ e => e)
  obtain ⟨rfl, tk₁, rfl⟩ := h₁
  have hTs : s.heap.IsTuple T its := hT.at fun o e => F.keep _ o e
  refine wpAny_pyIter_tuple hTs ?_
  refine wpAny_newObj_type (wpAny_newFunctionEnv hcell (by intro y hy; simp at hy) (fun h₁ hns₁ hsb₁ => ?_) hkind)
  dsimp only at hns₁ hsb₁ ⊢
  generalize hI : s.heap.objs.size = I at hns₁ hsb₁ ⊢
  generalize hH1 : s.heap.push { cls := .type "tuple_iterator", dict := none, data := .fields #[.ref T, .int 0 0] } = H1 at hns₁ hsb₁ ⊢
  generalize hH2 : H1.push { cls := .type "list", dict := none, data := .seq ([] : List Value).toArray } = H2 at hns₁ hsb₁ ⊢
  have n1 : H1.objs.size = I + 1 := by rw [← hH1, Heap.size_push, hI]
  have n2 : H2.objs.size = I + 2 := by rw [← hH2, Heap.size_push, n1]
  generalize hD : H1.objs.size = D at hns₁ hsb₁ n1 ⊢
  generalize hC : H2.objs.size = C at hns₁ hsb₁ n2 ⊢
  have lo : ∀ {b : Addr} {o}, s.heap.get? b = some o → @LT.lt Nat _ b I := fun e => hI ▸ Heap.lt_size e
  have hDI : @Eq Nat D (I + 1) := hD ▸ n1
  have hCI : @Eq Nat C (I + 2) := hC ▸ n2
  have p1 : ∀ {b o}, s.heap.get? b = some o → H1.get? b = some o := fun e => by rw [← hH1]; exact Heap.get?_push_of_some _ e
  have p2 : ∀ {b o}, H1.get? b = some o → H2.get? b = some o := fun e => by rw [← hH2]; exact Heap.get?_push_of_some _ e
  have nC : ∀ {b : Addr}, @LT.lt Nat _ b (I + 2) → b ≠ C := fun hb => Nat.ne_of_lt (hCI ▸ hb)
  have ex : ∀ {b o}, b ≠ C → H2.get? b = some o → h₁.get? b = some o := fun hb e => hsb₁.extBut _ _ hb (Heap.get?_push_of_some _ e)
  have up : ∀ b o, s.heap.get? b = some o → h₁.get? b = some o := fun b o e => ex (nC (Nat.lt_trans (lo e) (by omega))) (p2 (p1 e))
  have i1 : H1.get? I = some { cls := .type "tuple_iterator", dict := none, data := .fields #[.ref T, .int 0 0] } := by rw [← hH1, ← hI]; exact Heap.get?_push_size _ rfl
  have d1 : H2.get? D = some (listOf ([] : List Value).toArray 0) := by rw [← hH2, ← hD]; exact Heap.get?_push_size _ rfl
  have itr : h₁.IsTupleIter I T 0 := ⟨_, ex (nC (by omega)) (p2 i1), rfl, rfl⟩
  have acc : h₁.get? D = some (listOf ([] : List Value).toArray 0) := ex (nC (by omega)) d1
  have lT : @LT.lt Nat _ T I := by obtain ⟨o, e, _⟩ := hTs; exact lo e
  have W := Walks.tuple (prog := prog) (w := w) hh I T (Nat.ne_of_lt lT) its
  have Dn : s.heap.get? D = none := Heap.get?_none_of_le (by rw [hI]; omega)
  have h0n : ∀ {b : Addr}, @LE.le Nat _ I b → h₀.get? b = none := fun {b} hb => by
    cases e : h₀.get? b with
    | none => rfl
    | some o => exact absurd (lo (F.keep _ _ e)) (by omega)
  have lL : @LT.lt Nat _ L I := hI ▸ F.ns.lt
  have loop : ∀ s₃ : Shared, s₃ = { s with heap := h₁, toks := tk₁ + ([] : List (Str × Value)).length } →
      codeAny (model prog w) A (.compLoop (.ListComp elt [⟨.Tuple [.Name x px, .Name x₂ px₂] kk tp, iter, [], 0⟩] scope pos) 0 (.ref I) (.ref D) (compEnvC scope cl C env)) (compPost (model prog w) A E none Q (.ref D) C) s₃ := by
    rintro s₃ rfl
    refine LCp.codeAny_compLoop_pair
      (fun k s' => ∃ h' tk i m', s' = { s with heap := h', toks := tk } ∧ i ≤ its.size ∧ k = its.size + 1 - i ∧ s.heap.StaysIn h' ∧ h'.IsTupleIter I T i ∧ h'.Ns C m' ∧ h'.get? D = some (listOf ((List.range i).map f).toArray i)) ?_ (its.size + 1)
      ⟨h₁, _, 0, _, rfl, Nat.zero_le _, rfl, up, itr, hns₁, acc⟩
    rintro k s' ⟨h', tk, i, m', rfl, hi', rfl, kp, it', ns', acc'⟩
    have tT : h'.IsTuple T its := hTs.at fun o e => kp _ o e
    by_cases hlt : i < its.size
    · refine W.item i _ _ _ hlt ⟨it', tT⟩ fun v h₂ tk₂ hv st₂ hk₂ => ?_
      obtain ⟨t, v₁, v₂, rfl, ht, ev⟩ := el i v hv
      have nI : ∀ {b o}, b ≠ I → h'.get? b = some o → h₂.get? b = some o := fun hb e => hk₂ _ _ (by simpa using hb) e
      have kp₂ : s.heap.StaysIn h₂ := fun b o e => nI (Nat.ne_of_lt (lo e)) (kp b o e)
      refine letgo_tup st₂.1 ?_
      have ht₂ : IsTup h₂ t #[v₁, v₂] := IsTup.keeps ht fun b o e => kp₂ b o (F.keep b o e)
      refine assign_Tuple_tuple hh ht₂ rfl rfl fun h₃ x₃ => ?_
      have k₃ : ∀ b o, h₂.get? b = some o → h₃.get? b = some o := fun b o e => x₃ b o (Nat.ne_of_lt (Heap.lt_size e)) e
      have nsC : h₃.Ns C m' := (ns'.at' fun o e => nI (neN (by omega)) e).at' fun o e => k₃ _ o e
      refine assignInOrder_cons (wpAny_assign_Name (wpAny_storeName_local (lookup_relabel_local hx) nsC (fun h₄ n₄ s₄ => ?_) (by simp [compEnvC, relabel, hkind])))
      refine assignInOrder_cons (wpAny_assign_Name (wpAny_storeName_local (lookup_relabel_local hx₂) n₄ (fun h₅ n₅ s₅ => ?_) (by simp [compEnvC, relabel, hkind])))
      refine assignInOrder_nil ?_
      have k₅ : ∀ b o, b ≠ C → h₂.get? b = some o → h₅.get? b = some o := fun b o hb e => s₅.extBut b o hb (s₄.extBut b o hb (k₃ b o e))
      have kp₅ : s.heap.StaysIn h₅ := fun b o e => k₅ b o (neN (by have := lo e; omega)) (kp₂ b o e)
      refine wpAny_mono (ev C _ h₅ _ _ n₅ (by simp [hxx]) (by simp) kp₅) (fun y s₆ h₆ => ?_) fun _ _ e => e
      obtain ⟨rfl, tk₆, rfl⟩ := h₆
      have acc₅ : h₅.get? D = some (listOf ((List.range i).map f).toArray i) := k₅ D _ (neN (by omega)) (nI (neN (by omega)) acc')
      refine append_at (hsz := by rw [List.size_toArray, List.length_map, List.length_range]; exact Nat.le_trans (Nat.le_trans hi' hsz) (by decide)) acc₅ fun h₇ s₇ a₇ => ?_
      refine ⟨its.size + 1 - (i + 1), by omega, h₇, _, i + 1, _, rfl, hlt, rfl, fun b o e => s₇.extBut b o (neN (by have := lo e; omega)) (kp₅ b o e), ?_, n₅.sameBut s₇ (Ne.symm (nC (b := D) (by omega))), ?_⟩
      · obtain ⟨o, eo, r⟩ := st₂.1
        exact ⟨o, s₇.extBut _ _ (neN (by omega)) (k₅ _ _ (neN (by omega)) eo), r⟩
      · rw [a₇, List.range_succ, List.map_append]; simp
    · obtain rfl : i = its.size := Nat.le_antisymm hi' (Nat.not_lt.mp hlt)
      refine W.done _ _ _ ⟨it', tT⟩ fun h₂ tk₂ hk₂ => ?_
      have nI : ∀ {b o}, b ≠ I → h'.get? b = some o → h₂.get? b = some o := fun hb e => hk₂ _ _ (by simpa using hb) e
      refine ⟨m', ns'.at' fun o e => nI (neN (by omega)) e, fun h'' s'' => ?_⟩
      have st' : s.heap.StaysIn h'' := fun b o e => s''.extBut b o (neN (by have := lo e; omega)) (nI (Nat.ne_of_lt (lo e)) (kp b o e))
      exact h D h'' _ (F.keeps st') st' Dn (neN (by omega)) (h0n (by omega)) (s''.extBut _ _ (neN (by omega)) (nI (neN (by omega)) acc'))
  exact codeAny_compStart_list (loop _ rfl) (wpAny_pyIter_tupleiter itr (loop _ rfl))
theorem nil_comp {elt iter : Expr} {x : Str} {px : Pos} {scope : Scope} {cl : List (Str × Addr)} {pos : Pos} {T : Addr} {Q : Value → Shared → Prop}
    (hh : A.handled = none) (F : Fr h₀ L s.heap m) (hT : h₀.IsTuple T #[])
    (hclos : closureFor scope env = pure cl) (hcell : ∀ y ∈ scope.names, y.2 ≠ .cell) (hkind : scope.kind = .function)
    (hnames : ∀ y ∈ scope.names, y.2 = .local → scope.names.lookup y.1 = some .local)
    (hi : wpAny (model prog w) A (eval iter env) (fun xv s₁ => xv = .ref T ∧ ∃ tk, s₁ = { s with toks := tk }) E s)
    (h : ∀ D h' tk, Fr h₀ L h' m → s.heap.StaysIn h' → s.heap.get? D = none → D ≠ L → h₀.get? D = none → h'.get? D = some (listOf ([] : List Value).toArray 0) → Q (.ref D) { s with heap := h', toks := tk })
    (hs : ∀ x, foldedSetIterable iter env x = pure x := by intro _; rfl) :
    wpAny (model prog w) A (eval (.ListComp elt [⟨.Name x px, iter, [], 0⟩] scope pos) env) Q E s := by
  rw [eval_ListComp]
  refine wpAny_comprehension_free (use := none) rfl hs hclos hkind hnames (wpAny_mono hi (fun xv s₁ h₁ => ?_) fun _ _ e => e)
  obtain ⟨rfl, tk₁, rfl⟩ := h₁
  have hTs : s.heap.IsTuple T #[] := hT.at fun o e => F.keep _ o e
  refine wpAny_pyIter_tuple hTs ?_
  refine wpAny_newObj_type (wpAny_newFunctionEnv hcell (by intro y hy; simp at hy) (fun h₁ hns₁ hsb₁ => ?_) hkind)
  dsimp only at hns₁ hsb₁ ⊢
  generalize hI : s.heap.objs.size = I at hns₁ hsb₁ ⊢
  generalize hH1 : s.heap.push { cls := .type "tuple_iterator", dict := none, data := .fields #[.ref T, .int 0 0] } = H1 at hns₁ hsb₁ ⊢
  generalize hH2 : H1.push { cls := .type "list", dict := none, data := .seq ([] : List Value).toArray } = H2 at hns₁ hsb₁ ⊢
  have n1 : H1.objs.size = I + 1 := by rw [← hH1, Heap.size_push, hI]
  have n2 : H2.objs.size = I + 2 := by rw [← hH2, Heap.size_push, n1]
  generalize hD : H1.objs.size = D at hns₁ hsb₁ n1 ⊢
  generalize hC : H2.objs.size = C at hns₁ hsb₁ n2 ⊢
  have lo : ∀ {b : Addr} {o}, s.heap.get? b = some o → @LT.lt Nat _ b I := fun e => hI ▸ Heap.lt_size e
  have hDI : @Eq Nat D (I + 1) := hD ▸ n1
  have hCI : @Eq Nat C (I + 2) := hC ▸ n2
  have p1 : ∀ {b o}, s.heap.get? b = some o → H1.get? b = some o := fun e => by rw [← hH1]; exact Heap.get?_push_of_some _ e
  have p2 : ∀ {b o}, H1.get? b = some o → H2.get? b = some o := fun e => by rw [← hH2]; exact Heap.get?_push_of_some _ e
  have nC : ∀ {b : Addr}, @LT.lt Nat _ b (I + 2) → b ≠ C := fun hb => Nat.ne_of_lt (hCI ▸ hb)
  have ex : ∀ {b o}, b ≠ C → H2.get? b = some o → h₁.get? b = some o := fun hb e => hsb₁.extBut _ _ hb (Heap.get?_push_of_some _ e)
  have up : ∀ b o, s.heap.get? b = some o → h₁.get? b = some o := fun b o e => ex (nC (Nat.lt_trans (lo e) (by omega))) (p2 (p1 e))
  have i1 : H1.get? I = some { cls := .type "tuple_iterator", dict := none, data := .fields #[.ref T, .int 0 0] } := by rw [← hH1, ← hI]; exact Heap.get?_push_size _ rfl
  have d1 : H2.get? D = some (listOf ([] : List Value).toArray 0) := by rw [← hH2, ← hD]; exact Heap.get?_push_size _ rfl
  have itr : h₁.IsTupleIter I T 0 := ⟨_, ex (nC (by omega)) (p2 i1), rfl, rfl⟩
  have acc : h₁.get? D = some (listOf ([] : List Value).toArray 0) := ex (nC (by omega)) d1
  have lT : @LT.lt Nat _ T I := by obtain ⟨o, e, _⟩ := hTs; exact lo e
  have W := Walks.tuple (prog := prog) (w := w) hh I T (Nat.ne_of_lt lT) #[]
  have Dn : s.heap.get? D = none := Heap.get?_none_of_le (by rw [hI]; omega)
  have h0n : ∀ {b : Addr}, @LE.le Nat _ I b → h₀.get? b = none := fun {b} hb => by
    cases e : h₀.get? b with
    | none => rfl
    | some o => exact absurd (lo (F.keep _ _ e)) (by omega)
  have lL : @LT.lt Nat _ L I := hI ▸ F.ns.lt
  have loop : ∀ s₃ : Shared, s₃ = { s with heap := h₁, toks := tk₁ + ([] : List (Str × Value)).length } →
      codeAny (model prog w) A (.compLoop (.ListComp elt [⟨.Name x px, iter, [], 0⟩] scope pos) 0 (.ref I) (.ref D) (compEnvC scope cl C env)) (compPost (model prog w) A E none Q (.ref D) C) s₃ := by
    rintro s₃ rfl
    refine codeAny_compLoop_list
      (fun k s' => ∃ h' tk m', s' = { s with heap := h', toks := tk } ∧ s.heap.StaysIn h' ∧ h'.IsTupleIter I T 0 ∧ h'.Ns C m' ∧ h'.get? D = some (listOf ([] : List Value).toArray 0)) ?_ 0
      ⟨h₁, _, _, rfl, up, itr, hns₁, acc⟩
    rintro k s' ⟨h', tk, m', rfl, kp, it', ns', acc'⟩
    have tT : h'.IsTuple T #[] := hTs.at fun o e => kp _ o e
    refine W.done _ _ _ ⟨it', tT⟩ fun h₂ tk₂ hk₂ => ?_
    have nI : ∀ {b o}, b ≠ I → h'.get? b = some o → h₂.get? b = some o := fun hb e => hk₂ _ _ (by simpa using hb) e
    refine ⟨m', ns'.at' fun o e => nI (neN (by omega)) e, fun h'' s'' => ?_⟩
    have st' : s.heap.StaysIn h'' := fun b o e => s''.extBut b o (neN (by have := lo e; omega)) (nI (Nat.ne_of_lt (lo e)) (kp b o e))
    exact h D h'' _ (F.keeps st') st' Dn (neN (by omega)) (h0n (by omega)) (s''.extBut _ _ (neN (by omega)) (nI (neN (by omega)) acc'))
  exact codeAny_compStart_list (loop _ rfl) (wpAny_pyIter_tupleiter itr (loop _ rfl))
end
noncomputable def RangesIn (h : Heap) (r : Addr) (ps : List (Int × Int)) : Prop := ∃ its : Array Value, h.IsTuple r its ∧ its.size = ps.length ∧ ps.length ≤ 3 ∧ ∀ (i : Nat) (v : Value), its[i]? = some v → ∃ t a b ta tb, ps[i]? = some (a, b) ∧ v = .ref t ∧ IsTup h t #[.int a ta, .int b tb]
theorem RangesIn.keeps {h h' : Heap} {r : Addr} {ps : List (Int × Int)} (x : RangesIn h r ps) (k : h.StaysIn h') : RangesIn h' r ps :=
  let ⟨its, a, b, c, d⟩ := x; ⟨its, a.at fun o e => k _ o e, b, c, fun i v e => let ⟨t, x, y, tx, ty, e1, e2, e3⟩ := d i v e; ⟨t, x, y, tx, ty, e1, e2, IsTup.keeps e3 fun b o e => k b o e⟩⟩
noncomputable def inB (ps : List (Int × Int)) (c : Int) : Bool := ps.any fun p => decide (p.1 ≤ c ∧ c ≤ p.2)
noncomputable abbrev in1 (p : Int × Int) (c : Int) : Bool := decide (p.1 ≤ c ∧ c ≤ p.2)
theorem bools_of {α : Type} {g : α → Bool} : ∀ as : List α, LSm.BoolsAre (as.map fun a => Value.bool (g a)) (as.map g)
  | [] => .nil
  | _ :: r => .cons _ (bools_of r)
theorem in_bools {ps : List (Int × Int)} {c : Int} {n : Nat} (hn : n = ps.length) : LSm.BoolsAre ((List.range n).map fun i => Value.bool (in1 (ps.getD i (0, 0)) c)) (ps.map fun p => in1 p c) := by
  have e : ((List.range n).map fun i => Value.bool (in1 (ps.getD i (0, 0)) c)) = ps.map fun p => Value.bool (in1 p c) := by
    subst hn
    apply List.ext_getElem (by simp)
    intro i h1 h2
    simp at h1 h2 ⊢
    simp [h2]
  exact e ▸ bools_of ps
theorem inB_any {ps : List (Int × Int)} {c : Int} : (ps.map fun p => in1 p c).any id = inB ps c := by simp [inB, in1, List.any_map]
example : True := by
  k_with "call builtin:any" => (k_dflt (refine LSm.any_bools (bs := ps.map fun p => in1 p c) F2 News.nil rfl ⟨_, D4, rfl, _, rfl⟩ (in_bools hz) ?_); intro h3 tk3 F3 N3)
  k_with "eval ListComp" => (with_unfolding_all refine' pair_comp (fun i => Value.bool (in1 (ps.getD i (0, 0)) c)) ?k1 ?k2 ?k3 ?k4 ?k5 ?k6 ?k7 ?k8 ?k9 ?k10 ?k11 ?_ ?el ?fin; (case k1 => exact rfl); (case k3 => k_asm); (case k4 => exact hT); (case k2 => omega); (case k5 => exact rfl); (case k6 => decide); (case k7 => exact rfl); (case k8 => decide); (case k9 => decide +kernel); (case k10 => decide +kernel); (case k11 => decide))
  k_with "eval Name" => (k_here; (with_reducible show wpAny _ _ (eval (Expr.Name _ _) (compEnvC _ _ _ _)) _ _ _); (with_unfolding_all first | refine wpAny_Name (wpAny_loadName_local rfl rfl hns9 hlow9 ?_) rfl | refine wpAny_Name (wpAny_loadName_local rfl rfl hns9 hhigh9 ?_) rfl | refine wpAny_Name (wpAny_loadName_cell rfl rfl rfl ⟨_, hkp9 _ _ (N' _ (List.Mem.head _)).1, by assumption⟩ ?_) rfl))
  trivial
theorem c_in (w : World) (r : Addr) (ps : List (Int × Int)) (c : Int) (tp : Tok) :
    Spec w 4 32 (nat_lit 164) [.ref r, .int c tp] (fun h => RangesIn h r ps) (fun v nw => nw = [] ∧ v = .bool (inB ps c)) := by
  unfold Spec; k_fill; intros; rename_i hpre hret
  obtain ⟨its, hT, hz, hl, hi⟩ := hpre
  refine wpAny_call ?_
  k_extra "ENTERC"
  iterate 7 (first | (k_unfold; (try dsimp only)) | walk1 | (dsimp only; walk1) | (dsimp only; k_unfold; (try dsimp only)))
  case el =>
    intro i v e
    obtain ⟨t, a, b, ta, tb, e1, rfl, e3⟩ := hi i v e
    refine ⟨t, _, _, rfl, e3, fun C m₂ h tk E' hns9 hlow9 hhigh9 hkp9 => ?_⟩
    k_extra "STEPS"
    · exact congrArg Value.bool (by simp_all [in1, List.getD_eq_getElem?_getD])
    · exact congrArg Value.bool (by simp_all [in1, List.getD_eq_getElem?_getD]; omega)
  case fin =>
    intro D h2 tk2 F2 S2 D1 D2 D3 D4
    k_extra "STEPS"
    k_extra "FINVAL"
    exact congrArg Value.bool inB_any
  k_extra "STEPS"

--reg
example : True := by
  k_with "call ref" => (k_dflt (refine' Spec.useV (c_in _ _ _ _ _) ?k1 ?k2 ?k3 ?k4 ?k5 ?k6 ?k7 ?k8 ?k9 ?_; k_extra "MYVAL"))
  k_with "PRE" => (exact RangesIn.keeps (by assumption) (Fr.keep (by k_asm)))
  trivial
--end
noncomputable abbrev RetG (g h₀ : Heap) (L : Addr) (m : Str → Option Value) (news : List (Addr × Obj)) (s : Shared) (Q : Value → Shared → Prop) (post : Value → List (Addr × Obj) → Prop) : Prop :=
  ∀ v nw h' tk', Fr h₀ L h' m → News h₀ L h' (nw ++ news) → (∀ p ∈ nw, g.get? p.1 = none) → g.StaysIn h' → post v nw → Q v { s with heap := h', toks := tk' }
noncomputable def SpecM (w : World) (D U : Nat) (f : Addr) (args : List Value) (own : List (Addr × Obj)) (pre : Heap → Prop) (post : Value → List (Addr × Obj) → Prop) : Prop :=
  ∀ (p : Program) (loose : List Str) (mean : ExcName → Option Value) (mg mb : Str → Option Value) (dp un : Nat) (gd : Option (List Code)) (cn : Str) (cs : Scope) (a : Addr) (ccd : Value) (cl : List (Str × Addr)) (outer : List Env) (A₀ : Around) (base h₀ g : Heap) (L : Addr) (m : Str → Option Value) (news : List (Addr × Obj)) (s : Shared) (Q E : Value → Shared → Prop),
    Below A₀ base outer h₀ → Fr h₀ L s.heap m → (K w.params).In h₀ → News h₀ L s.heap (own ++ news) → Top p loose mean mg mb h₀ → cs.kind = .function → dp + D < recursionLimit → un + U < cLine →
    (∀ p ∈ news, p.1 ∉ own.map (·.1)) → g = hideAll s.heap (own.map (·.1)) → pre g → RetG g h₀ L m news s Q post →
    wpAny (model PySem.Challenge.rw_pq0312_01.prog w) (ktrTop dp un gd cn cs L a ccd cl outer) (call (.ref f) args) Q E s
theorem SpecM.use {w : World} {D U : Nat} {f : Addr} {args : List Value} {d : Addr} {o : Obj} {pre : Heap → Prop} {post : Value → List (Addr × Obj) → Prop} (h : SpecM w D U f args [(d, o)] pre post)
    {p : Program} {loose : List Str} {mean : ExcName → Option Value} {mg mb : Str → Option Value} {dp un : Nat} {gd : Option (List Code)} {cn : Str} {cs : Scope} {a : Addr} {ccd : Value} {cl : List (Str × Addr)} {outer : List Env} {A₀ : Around} {base h₀ : Heap} {L : Addr} {m : Str → Option Value} {news : List (Addr × Obj)} {u : Obj → List (Addr × Obj)} {s : Shared} {Q E : Value → Shared → Prop}
    (B : Below A₀ base outer h₀) (F : Fr h₀ L s.heap m) (X : (K w.params).In h₀) (N : News h₀ L s.heap news) (T : Top p loose mean mg mb h₀) (hk : cs.kind = .function) (hd : dp + D < recursionLimit) (hu : un + U < cLine) (V : UpdF d o news u) (hp : ∀ g, h₀.StaysIn g → (∀ q ∈ news, q.1 ≠ d → g.get? q.1 = some q.2) → pre g)
    (ret : ∀ v nw h' tk', Fr h₀ L h' m → (∀ o', (d, o') ∈ nw → News h₀ L h' (u o')) → News h₀ L h' nw → (∀ b o, b ≠ d → s.heap.get? b = some o → h'.get? b = some o) → post v nw → Q v { s with heap := h', toks := tk' }) :
    wpAny (model PySem.Challenge.rw_pq0312_01.prog w) (ktrTop dp un gd cn cs L a ccd cl outer) (call (.ref f) args) Q E s := by
  obtain ⟨l, r, rfl, hu', hl, hr⟩ := V.split
  have hn := (N (d, o) (List.mem_append_right _ (.head _))).2.2
  refine h _ _ _ _ _ _ _ _ _ _ _ _ _ _ _ _ _ _ _ _ (l ++ r) _ _ _ B F X (fun q hq => ?_) T hk hd hu (fun q hq => ?_) rfl (hp _ (fun b o e => hideAll_get _ (F.keep b o e) fun q => ?_) fun q hq hne => hideAll_get _ (N q hq).1 fun e => hne (List.mem_singleton.mp e)) fun v nw h' tk' F' N' _ S' hpost => ret v nw h' tk' F' (fun o' ho q hq => ?_) (fun q hq => N' q (List.mem_append_left _ hq)) (fun b o nb e => S' b o (hideAll_get _ e fun q => nb (List.mem_singleton.mp q))) hpost
  · refine N q ?_
    rcases List.mem_append.mp hq with hq | hq
    · rw [List.mem_singleton.mp hq]; exact List.mem_append_right _ (.head _)
    · rcases List.mem_append.mp hq with hq | hq
      · exact List.mem_append_left _ hq
      · exact List.mem_append_right _ (.tail _ hq)
  · intro e
    have e := List.mem_singleton.mp e
    rcases List.mem_append.mp hq with hq | hq
    · exact hl q hq e
    · exact hr q hq e
  · rw [List.mem_singleton.mp q, hn] at e; cases e
  · rw [hu'] at hq
    rcases List.mem_append.mp hq with hq | hq
    · exact N' q (List.mem_append_right _ (List.mem_append_left _ hq))
    · cases hq with
      | head => exact N' _ (List.mem_append_left _ ho)
      | tail _ hq => exact N' q (List.mem_append_right _ (List.mem_append_right _ hq))
theorem SpecM.use2 {w : World} {D U : Nat} {f : Addr} {args : List Value} {mm d : Addr} {om o : Obj} {pre : Heap → Prop} {post : Value → List (Addr × Obj) → Prop} (h : SpecM w D U f args [(mm, om), (d, o)] pre (fun v nw => (mm, om) ∈ nw ∧ post v nw))
    {p : Program} {loose : List Str} {mean : ExcName → Option Value} {mg mb : Str → Option Value} {dp un : Nat} {gd : Option (List Code)} {cn : Str} {cs : Scope} {a : Addr} {ccd : Value} {cl : List (Str × Addr)} {outer : List Env} {A₀ : Around} {base h₀ : Heap} {L : Addr} {m : Str → Option Value} {news : List (Addr × Obj)} {u : Obj → List (Addr × Obj)} {s : Shared} {Q E : Value → Shared → Prop}
    (B : Below A₀ base outer h₀) (F : Fr h₀ L s.heap m) (X : (K w.params).In h₀) (N : News h₀ L s.heap news) (T : Top p loose mean mg mb h₀) (hk : cs.kind = .function) (hd : dp + D < recursionLimit) (hu : un + U < cLine) (V : UpdF d o news u) (hmm : (mm, om) ∈ news) (hp : ∀ g, h₀.StaysIn g → (∀ q ∈ news, q.1 ≠ d → q.1 ≠ mm → g.get? q.1 = some q.2) → pre g)
    (ret : ∀ v nw h' tk', Fr h₀ L h' m → (∀ o', (d, o') ∈ nw → News h₀ L h' (u o')) → News h₀ L h' nw → (∀ b o, b ≠ d → s.heap.get? b = some o → h'.get? b = some o) → post v nw → Q v { s with heap := h', toks := tk' }) :
    wpAny (model PySem.Challenge.rw_pq0312_01.prog w) (ktrTop dp un gd cn cs L a ccd cl outer) (call (.ref f) args) Q E s := by
  obtain ⟨l, r, rfl, hu', hl, hr⟩ := V.split
  have hn := N (d, o) (List.mem_append_right _ (.head _))
  have hm := N _ hmm
  have inl : ∀ {q}, q ∈ l ++ r → q ∈ l ++ (d, o) :: r := fun hq => (List.mem_append.mp hq).elim (fun e => List.mem_append_left _ e) fun e => List.mem_append_right _ (.tail _ e)
  refine h _ _ _ _ _ _ _ _ _ _ _ _ _ _ _ _ _ _ _ _ ((l ++ r).filter fun q => decide (q.1 ≠ mm)) _ _ _ B F X (fun q hq => ?_) T hk hd hu (fun q hq => ?_) rfl (hp _ (fun b ob e => hideAll_get _ (F.keep b ob e) fun q => ?_) fun q hq n1 n2 => hideAll_get _ (N q hq).1 fun e => ?_) fun v nw h' tk' F' N' _ S' hpost =>
    ret v nw h' tk' F' (fun o' ho q hq => ?_) (fun q hq => N' q (List.mem_append_left _ hq)) (fun b ob nb e => ?_) hpost.2
  · simp only [List.cons_append, List.nil_append] at hq
    cases hq with
    | head => exact N _ hmm
    | tail _ hq =>
      cases hq with
      | head => exact hn
      | tail _ hq => exact N q (inl (List.mem_filter.mp hq).1)
  · intro e
    have hq' := List.mem_filter.mp hq
    rcases List.mem_cons.mp e with e | e
    · have hne : q.1 ≠ mm := by simpa using hq'.2
      exact hne e
    · have e := List.mem_singleton.mp e
      rcases List.mem_append.mp hq'.1 with hq | hq
      · exact hl q hq e
      · exact hr q hq e
  · rcases List.mem_cons.mp q with q | q
    · rw [show b = mm from q, hm.2.2] at e; cases e
    · rw [List.mem_singleton.mp q, hn.2.2] at e; cases e
  · rcases List.mem_cons.mp e with e | e
    · exact n2 e
    · exact n1 (List.mem_singleton.mp e)
  · rw [hu'] at hq
    by_cases e : q = (d, o')
    · rw [e]; exact N' _ (List.mem_append_left _ ho)
    · have hq' : q ∈ l ++ r := by
        rcases List.mem_append.mp hq with hq | hq
        · exact List.mem_append_left _ hq
        · rcases List.mem_cons.mp hq with hq | hq
          · exact absurd hq e
          · exact List.mem_append_right _ hq
      by_cases e2 : q.1 = mm
      · have h1 := (N q (inl hq')).1
        rw [e2, hm.1] at h1
        have : q = (mm, om) := Prod.ext e2 (Option.some.inj h1).symm
        rw [this]; exact N' _ (List.mem_append_left _ hpost.1)
      · exact N' q (List.mem_append_right _ (List.mem_filter.mpr ⟨hq', by simpa using e2⟩))
  · by_cases e2 : b = mm
    · subst e2
      have : ob = om := Option.some.inj (e.symm.trans hm.1)
      subst this
      exact (N' _ (List.mem_append_left _ hpost.1)).1
    · refine S' b ob (hideAll_get _ e fun q => ?_)
      rcases List.mem_cons.mp q with q | q
      · exact e2 q
      · exact nb (List.mem_singleton.mp q)
section
variable {prog : Program} {w : World} {A A₀ : Around} {s : Shared} {KF : Frag} {L : Addr} {h₀ base g : Heap} {m mg mb : Str → Option Value} {own news : List (Addr × Obj)} {p : Program} {loose : List Str} {mean : ExcName → Option Value}
theorem groundM {env : Env} {outer : List Env} {R : Result → Shared → Prop} (B : Below A₀ base outer h₀) (F : Fr h₀ L s.heap m) (N : News h₀ L s.heap (own ++ news)) (hoff : ∀ p ∈ news, p.1 ∉ own.map (·.1)) (hg : g = hideAll s.heap (own.map (·.1)))
    (hA : A.frames = some (env :: outer)) (hf : env.frame = some L) (hke : env.scope.kind = .function) :
    Fr h₀ L g m ∧ Below A base (env :: outer) g ∧ h₀.StaysIn g ∧ (∀ v s', LeaveK h₀ L m g (fun r s' => News h₀ L s'.heap news → g.StaysIn s'.heap → R r s') v s' → R (.ok (.ret v)) s') := by
  have N₁ : News h₀ L s.heap own := fun p hp => N p (List.mem_append_left _ hp)
  obtain ⟨FG, BG, st, lv⟩ := groundX (R := fun r s' => News h₀ L s'.heap news → g.StaysIn s'.heap → R r s') B F N₁ hA hf hke
  subst hg
  refine ⟨FG, BG, st, fun v s' hl => ?_⟩
  have hS : (hideAll s.heap (own.map (·.1))).StaysIn s'.heap := by obtain ⟨_, _, _, F', _⟩ := hl; exact F'.keep
  exact lv _ _ hl (fun p hp => ⟨hS _ _ (hideAll_get _ (N p (List.mem_append_right _ hp)).1 (hoff p hp)), (N p (List.mem_append_right _ hp)).2⟩) hS
theorem enterM {env : Env} {outer : List Env} {R : Result → Shared → Prop} {name qual : Str} {params : Arguments} {body : List Stmt} {scope : Scope} {dV kV doc pm cdv ct oc : Value} {an od : Option Addr} {osl : Array (Option Value)} {f : Addr} {args : Args} {binds : List (Str × Value)}
    (B : Below A₀ base outer h₀) (F : Fr h₀ L s.heap m) (X₀ : KF.In h₀) (N : News h₀ L s.heap (own ++ news)) (T : Top p loose mean mg mb h₀) (hoff : ∀ p ∈ news, p.1 ∉ own.map (·.1)) (hg : g = hideAll s.heap (own.map (·.1))) (hA : A.frames = some (env :: outer)) (hf : env.frame = some L) (hke : env.scope.kind = .function)
    (ho : KF.lookup f = some ⟨oc, od, .func (fnOf name qual params body scope dV kV doc pm an cdv ct), osl⟩) (hcd : codeIn KF cdv qual = true) (hroom : A.depth < recursionLimit)
    (hbind : BindsTo s (fnOf name qual params body scope dV kV doc pm an cdv ct) args binds) (hloc : ∀ y ∈ binds, scope.names.lookup y.1 = some .local)
    (h : ∀ L' h₁ tk, Fr g L' h₁ (updL binds) → News g L' h₁ own → Below A base (env :: outer) g → KF.In g → Top p loose mean mg mb g → (∀ p ∈ own, p.1 < L') → EnvOk (envOf qual scope L' f cdv) L' →
      wpAny (model prog w) (A.deeper (envOf qual scope L' f cdv)) (execs body (envOf qual scope L' f cdv))
        (fun fl s' => LeaveK h₀ L m g (fun r s' => News h₀ L s'.heap news → g.StaysIn s'.heap → R r s') (match fl with | .ret v => v | _ => .none) s')
        (fun e s' => wpAny (model prog w) (A.deeper (envOf qual scope L' f cdv)) (leaving (envOf qual scope L' f cdv) e) (fun _ s'' => R (.error e) s'') (fun e' s'' => R (.error e') s'') s')
        { s with heap := h₁, toks := tk })
    (hco : scope.isCoroutine = false) (hgen : scope.isGenerator = false) (hk : scope.kind = .function)
    (hcell : ∀ x ∈ scope.names, x.2 ≠ .cell) : codeAny (model prog w) A (.call (.ref f) args) R s := by
  obtain ⟨FG, BG, st, lv⟩ := groundM (R := R) B F N hoff hg hA hf hke
  refine codeAny_call_def (fd := fnOf name qual params body scope dV kV doc pm an cdv ct) (body := body) (binds := binds) hroom ((X₀.keeps F.keep) _ _ ho) rfl (T.nolimit.keeps F.keep) (codeRec_of (X₀.keeps F.keep) hcd) rfl hbind hcell hloc (fun h₁ hns hk₁ => ?_) hco hgen hk
  subst hg
  refine wpAny_mono (h s.heap.objs.size h₁ _ ⟨updL_eq _ ▸ hns, fun b o e => hk₁ b o (of_hideAll _ e), Nat.le_of_eq (hideAll_size _ _)⟩
    (fun p hp => ⟨hk₁ _ _ (N p (List.mem_append_left _ hp)).1, Nat.ne_of_lt (Heap.lt_size (N p (List.mem_append_left _ hp)).1), hideAll_none _ (List.mem_map_of_mem hp)⟩) BG (X₀.keeps st) (T.keeps st) (fun p hp => Heap.lt_size (N p (List.mem_append_left _ hp)).1) ⟨hk, rfl, rfl, rfl⟩) (fun fl s' hl => lv _ _ hl) fun _ _ y => y
theorem enterMC {env : Env} {outer : List Env} {R : Result → Shared → Prop} {name qual : Str} {params : Arguments} {body : List Stmt} {scope : Scope} {dV kV doc pm cdv ct oc : Value} {an od : Option Addr} {osl : Array (Option Value)} {f : Addr} {args : Args} {binds : List (Str × Value)}
    (B : Below A₀ base outer h₀) (F : Fr h₀ L s.heap m) (X₀ : KF.In h₀) (N : News h₀ L s.heap (own ++ news)) (T : Top p loose mean mg mb h₀) (hoff : ∀ p ∈ news, p.1 ∉ own.map (·.1)) (hg : g = hideAll s.heap (own.map (·.1))) (hA : A.frames = some (env :: outer)) (hf : env.frame = some L) (hke : env.scope.kind = .function)
    (ho : KF.lookup f = some ⟨oc, od, .func (fnOf name qual params body scope dV kV doc pm an cdv ct), osl⟩) (hcd : codeIn KF cdv qual = true) (hroom : A.depth < recursionLimit)
    (hbind : BindsTo s (fnOf name qual params body scope dV kV doc pm an cdv ct) args binds) (hkind : (binds.all fun y => scope.names.lookup y.1 == some .local || scope.names.lookup y.1 == some .cell) = true)
    (hnd : ((cellsFrom 0 scope.names []).map (·.1)).Nodup)
    (h : ∀ L' h₁ tk cells, Fr g L' h₁ (bindL (envOfC qual scope L' f cdv).kindOf binds fun _ => none) → News g L' h₁ (cells ++ own) →
      CellsAre (bindC (envOfC qual scope L' f cdv).kindOf binds fun _ => none) (cellsFrom (L' + 1) scope.names []) cells → Below A base (env :: outer) g → KF.In g → Top p loose mean mg mb g → (∀ p ∈ own, p.1 < L') → EnvOk (envOfC qual scope L' f cdv) L' →
      wpAny (model prog w) (A.deeper (envOfC qual scope L' f cdv)) (execs body (envOfC qual scope L' f cdv))
        (fun fl s' => LeaveK h₀ L m g (fun r s' => News h₀ L s'.heap news → g.StaysIn s'.heap → R r s') (match fl with | .ret v => v | _ => .none) s')
        (fun e s' => wpAny (model prog w) (A.deeper (envOfC qual scope L' f cdv)) (leaving (envOfC qual scope L' f cdv) e) (fun _ s'' => R (.error e) s'') (fun e' s'' => R (.error e') s'') s')
        { s with heap := h₁, toks := tk })
    (hco : scope.isCoroutine = false) (hgen : scope.isGenerator = false) (hk : scope.kind = .function) : codeAny (model prog w) A (.call (.ref f) args) R s := by
  obtain ⟨FG, BG, st, lv⟩ := groundM (R := R) B F N hoff hg hA hf hke
  refine codeAny_call_function hroom ((X₀.keeps F.keep) _ _ ho) rfl hco hgen rfl (codeRec_of (X₀.keeps F.keep) hcd) (hbind _ _ _ _ ?_)
  refine wpAny_newFunctionEnv_cells hk (kindsX hkind _) fun env' he s' x => ?_
  subst he
  have kept := x.toInCall.keep
  refine ⟨(T.nolimit.keeps F.keep).keeps kept, codeAny_func ?_⟩
  obtain ⟨h₁, tk, rfl, _⟩ := x.done
  obtain ⟨cells, NC, Y⟩ := Cl.news (h₀ := s.heap) (Nat.le_refl _) fun n c hm => ⟨x.cell n c (lookup_of_mem_nodup (cellsFrom_names scope.names 0 (s.heap.objs.size + 1) [] [] rfl ▸ hnd) hm), x.above n c hm⟩
  subst hg
  have keep' : ∀ b o, (hideAll s.heap (own.map (·.1))).get? b = some o → h₁.get? b = some o := fun b o e => kept b o (of_hideAll _ e)
  refine wpAny_mono (h s.heap.objs.size h₁ tk cells ⟨x.toInCall.ns, keep', Nat.le_of_eq (hideAll_size _ _)⟩ (fun p hp => ?_) Y BG (X₀.keeps st) (T.keeps st) (fun p hp => Heap.lt_size (N p (List.mem_append_left _ hp)).1) ⟨hk, rfl, rfl, rfl⟩) (fun fl s' hl => lv _ _ hl) fun _ _ y => y
  rcases List.mem_append.mp hp with hp | hp
  · refine ⟨(NC p hp).1, (NC p hp).2.1, ?_⟩
    cases e : (hideAll s.heap (own.map (·.1))).get? p.1 with
    | none => rfl
    | some o => have := of_hideAll _ e; rw [(NC p hp).2.2] at this; cases this
  · exact ⟨kept _ _ (N p (List.mem_append_left _ hp)).1, Nat.ne_of_lt (Heap.lt_size (N p (List.mem_append_left _ hp)).1), hideAll_none _ (List.mem_map_of_mem hp)⟩
end
section
variable {g h₀ h' : Heap} {L : Addr} {m : Str → Option Value} {news : List (Addr × Obj)} {s : Shared} {Q : Value → Shared → Prop} {t : Tok} {tk' : Nat}
theorem fin_sub {post : Value → List (Addr × Obj) → Prop} {L' : Addr} {own nw : List (Addr × Obj)} {v : Value} (hret : RetTo h₀ L m news s Q post) (F : Fr h₀ L h' m)
    (N₁ : News h₀ L h' own) (N₀ : News s.heap L' h' own) (N : News h₀ L h' news) (S : s.heap.StaysIn h') (hs : ∀ p ∈ nw, p ∈ own) (hp : post v nw) : Q v { s with heap := h', toks := tk' } :=
  hret _ nw _ _ F (fun p hp => (List.mem_append.mp hp).elim (fun q => N₁ p (hs p q)) (N p)) (fun p hp => (N₀ p (hs p hp)).2.2) S hp
theorem fin_m {post : Value → List (Addr × Obj) → Prop} {L' : Addr} {own nw : List (Addr × Obj)} {v : Value} (hret : RetG g h₀ L m news s Q post) (F : Fr h₀ L h' m)
    (N₁ : News h₀ L h' own) (N₀ : News g L' h' own) (N : News h₀ L h' news) (S : g.StaysIn h') (hs : ∀ p ∈ nw, p ∈ own) (hp : post v nw) : Q v { s with heap := h', toks := tk' } :=
  hret _ nw _ _ F (fun p hp => (List.mem_append.mp hp).elim (fun q => N₁ p (hs p q)) (N p)) (fun p hp => (N₀ p (hs p hp)).2.2) S hp
end
--reg
example : True := by
  k_with "ENTERM" => (k_dflt (refine' enterM ?k1 ?k2 ?k3 ?k4 ?k5 ?kO ?kG ?kA ?kF ?kK ?k6 ?k7 ?k8 ?k9 ?kB ?_ ?c2 ?c3 ?c4 ?c5; (case kA => exact rfl); (case kF => exact rfl); (case kK => assumption); (case k1 => k_asm); (case k2 => k_asm); (case k3 => k_asm); (case k4 => assumption); (case k5 => k_asm); (case kO => assumption); (case kG => assumption); (case k6 => k_is); (case k7 => k_is); (case k8 => ktr_room); (case k9 => first | ((with_reducible refine binds1 ?_); kernel_rfl) | ((with_reducible refine binds2 ?_); kernel_rfl) | ((with_reducible refine binds3 ?_); kernel_rfl) | ((with_reducible refine binds4 ?_); kernel_rfl) | exact BindsTo.of_eq rfl); (case c5 => decide); (case kB => exact locs rfl); (case c2 => exact rfl); (case c3 => exact rfl); (case c4 => exact rfl); k_whole; intro L' h' tk' F' N' B' X' T' l1 hE'; (dsimp only [updL, List.foldl] at F'); (try k_lt l1); (try dsimp only); (try k_fold)))
  k_with "ENTERMC" => (k_dflt (refine' enterMC ?k1 ?k2 ?k3 ?k4 ?k5 ?kO ?kG ?kA ?kF ?kK ?k6 ?k7 ?k8 ?k9 ?kB ?kD ?_ ?c2 ?c3 ?c4; (case kA => exact rfl); (case kF => exact rfl); (case kK => assumption); (case k1 => k_asm); (case k2 => k_asm); (case k3 => k_asm); (case k4 => assumption); (case k5 => k_asm); (case kO => assumption); (case kG => assumption); (case k6 => k_is); (case k7 => k_is); (case k8 => ktr_room); (case k9 => first | ((with_reducible refine binds1 ?_); kernel_rfl) | ((with_reducible refine binds2 ?_); kernel_rfl) | ((with_reducible refine binds3 ?_); kernel_rfl) | ((with_reducible refine binds4 ?_); kernel_rfl) | exact BindsTo.of_eq rfl); (case kB => exact rfl); (case kD => decide +kernel); (case c2 => exact rfl); (case c3 => exact rfl); (case c4 => exact rfl); k_whole; intro L' h' tk' cells' F' N' Y' B' X' T' l1 hE'; (try k_lt l1); k_cells Y'; (try simp only [List.cons_append, List.nil_append] at N'); (try dsimp only); (try k_fold)))
  k_with "MYMUT2" => ((case k1 => k_asm); (case k2 => k_asm); (case k3 => k_asm); (case k4 => k_asm); (case k5 => k_asm); (case k6 => first | exact rfl | assumption); (case k7 => ktr_room); (case k8 => ktr_units); (case k9 => k_updF); (case k10 => k_mem); (case k11 => (intro g9 hg9 hn9; first | exact trivial | k_extra "PREM")))
  k_with "MYMUT" => ((case k1 => k_asm); (case k2 => k_asm); (case k3 => k_asm); (case k4 => k_asm); (case k5 => k_asm); (case k6 => first | exact rfl | assumption); (case k7 => ktr_room); (case k8 => ktr_units); (case k9 => k_updF); (case k10 => (intro g9 hg9 hn9; first | exact trivial | k_extra "PREM")))
  k_with "STEPSC" => (repeat' ((fail_if_success (with_reducible show wpAny _ _ (pyIter _) _ _ _)); (fail_if_success (with_reducible show wpAny _ _ (eval (Expr.ListComp _ _ _ _) _) _ _ _)); (fail_if_success (with_reducible show wpAny _ _ (exec (Stmt.While _ _ _ _) _) _ _ _)); first | (k_unfold; (try dsimp only)) | walk1 | (dsimp only; walk1) | (dsimp only; k_unfold; (try dsimp only)) | fail "no step"))
  k_with "FINAS" => (refine' hret _ [] _ _ ?kf ?kn (fun _ h => nomatch h) ?ks ⟨rfl, ?_⟩; (case kf => k_asm); (case kn => assumption); (case ks => assumption))
  k_with "FINM" => (refine' fin_m hret ?kf ?kn ?km ?ko ?kp ?ks ?_; (case kf => k_asm); (case km => assumption); (case kn => assumption); (case ko => assumption); (case kp => assumption); (case ks => k_extra "SUB"))
  trivial
--end
inductive RRow | char (c : Int) | any | set (neg : Bool) (ps : List (Int × Int))
noncomputable def inSetB (f : Bool) (ps : List (Int × Int)) (c : Int) : Bool := inB ps c || (f && (inB ps (ucase c) || inB ps (dcase c)))
noncomputable def takenB (f : Bool) (r : RRow) (c : Int) : Bool := match r with
  | .char k => k == (if f then dcase c else c)
  | .any => c != 10
  | .set neg ps => inSetB f ps c != neg
noncomputable def RowTup (h : Heap) (t : Addr) (r : RRow) : Prop := match r with
  | .char k => ∃ u u', IsTup h t #[.str (Str.ofString "char") u, .int k u']
  | .any => ∃ u, IsTup h t #[.str (Str.ofString "any") u]
  | .set neg ps => ∃ u rr e, IsTup h t #[.str (Str.ofString "set") u, .bool neg, .ref rr, .ref e] ∧ RangesIn h rr ps ∧ h.IsTuple e #[]
theorem RowTup.keeps {h h' : Heap} {t : Addr} {r : RRow} (x : RowTup h t r) (k : h.StaysIn h') : RowTup h' t r := by
  cases r with
  | char => obtain ⟨u, u', a⟩ := x; exact ⟨u, u', IsTup.keeps a fun b o e => k b o e⟩
  | any => obtain ⟨u, a⟩ := x; exact ⟨u, IsTup.keeps a fun b o e => k b o e⟩
  | set neg ps => obtain ⟨u, rr, e, a, b, c⟩ := x; exact ⟨u, rr, e, IsTup.keeps a fun b o e => k b o e, b.keeps k, c.at fun o e => k _ o e⟩
noncomputable abbrev machO (P : Params) (cd x tb : Addr) (steps taken limit : Int) (kept marks choices changes : Addr) (t1 t2 t3 t4 t5 t6 t7 t8 t9 t10 t11 u1 u2 u3 u4 : Tok) : Obj :=
  dictOf [⟨PyData.keyHash P (Str.ofString "code"), .str (Str.ofString "code") t1, .ref cd⟩, ⟨PyData.keyHash P (Str.ofString "view"), .str (Str.ofString "view") t2, .ref x⟩,
    ⟨PyData.keyHash P (Str.ofString "table"), .str (Str.ofString "table") t3, .ref tb⟩, ⟨PyData.keyHash P (Str.ofString "point"), .str (Str.ofString "point") t4, .int 0 u1⟩,
    ⟨PyData.keyHash P (Str.ofString "steps"), .str (Str.ofString "steps") t5, .int steps u2⟩, ⟨PyData.keyHash P (Str.ofString "taken"), .str (Str.ofString "taken") t6, .int taken u3⟩,
    ⟨PyData.keyHash P (Str.ofString "limit"), .str (Str.ofString "limit") t7, .int limit u4⟩, ⟨PyData.keyHash P (Str.ofString "kept"), .str (Str.ofString "kept") t8, .ref kept⟩,
    ⟨PyData.keyHash P (Str.ofString "marks"), .str (Str.ofString "marks") t9, .ref marks⟩, ⟨PyData.keyHash P (Str.ofString "choices"), .str (Str.ofString "choices") t10, .ref choices⟩,
    ⟨PyData.keyHash P (Str.ofString "changes"), .str (Str.ofString "changes") t11, .ref changes⟩] 11
inductive MachD (P : Params) (o : Obj) (cd x tb : Addr) (steps taken limit : Int) : Prop
  | mk (kept marks choices changes t1 t2 t3 t4 t5 t6 t7 t8 t9 t10 t11 u1 u2 u3 u4) (e : o = machO P cd x tb steps taken limit kept marks choices changes t1 t2 t3 t4 t5 t6 t7 t8 t9 t10 t11 u1 u2 u3 u4)
inductive FoldsOf (h : Heap) (cd rl : Addr) (f : Bool) : Prop | mk (dx : Addr) (e1 e2 e3 e4 t1 t2 t3 t4 t5 t6) (a : h.get? cd = some (instObj 557 dx))
  (b : h.get? dx = some (dictOf [⟨e1, .str (Str.ofString "rows") t1, .ref rl⟩, ⟨e2, .str (Str.ofString "groups") t2, .int 0 t5⟩, ⟨e3, .str (Str.ofString "marks") t3, .int 0 t6⟩, ⟨e4, .str (Str.ofString "folds") t4, .bool f⟩] 4))
theorem FoldsOf.keeps {h h' : Heap} {cd rl : Addr} {f : Bool} (x : FoldsOf h cd rl f) (k : h.StaysIn h') : FoldsOf h' cd rl f :=
  let ⟨dx, e1, e2, e3, e4, t1, t2, t3, t4, t5, t6, a, b⟩ := x; ⟨dx, e1, e2, e3, e4, t1, t2, t3, t4, t5, t6, k _ _ a, k _ _ b⟩
inductive MachIn (P : Params) (h : Heap) (m : Addr) (f : Bool) (ns : List Int) (limit : Int) : Prop
  | mk (dm : Addr) (o : Obj) (cd rl x tb : Addr) (steps taken : Int) (a : h.get? m = some (instObj 269 dm)) (b : h.get? dm = some o) (c : MachD P o cd x tb steps taken limit) (d : FoldsOf h cd rl f) (e : RowIn h x ns) (i : TableIn h tb)
theorem MachIn.keeps {P : Params} {h h' : Heap} {m : Addr} {f : Bool} {ns : List Int} {limit : Int} (x : MachIn P h m f ns limit) (k : h.StaysIn h') : MachIn P h' m f ns limit :=
  let ⟨dm, o, cd, rl, x, tb, st, tk, a, b, c, d, e, g⟩ := x; ⟨dm, o, cd, rl, x, tb, st, tk, k _ _ a, k _ _ b, c, d.keeps k, e.keeps k, g.keeps k⟩
example : True := by
  k_with "call builtin:any" => (k_dflt (refine LSm.any_bools (bs := []) F2 News.nil rfl ⟨_, D4, rfl, _, rfl⟩ .nil ?_); intro h3 tk3 F3 N3)
  k_with "MYNIL" => ((with_unfolding_all refine' nil_comp ?k1 ?k3 ?k4 ?k5 ?k6 ?k7 ?k8 ?_ ?fin); (case k1 => exact rfl); (case k3 => k_asm); (case k4 => exact hE); (case k5 => exact rfl); (case k6 => decide); (case k7 => exact rfl); (case k8 => decide); (case fin => intro D h2 tk2 F2 S2 D1 D2 D3 D4; k_extra "STEPSC"; k_extra "FINVAL"; simp_all [inSetB]))
  trivial
theorem c_is_in_set (w : World) (m row : Addr) (f neg : Bool) (ns : List Int) (limit : Int) (ps : List (Int × Int)) (c : Int) (tp : Tok) :
    Spec w 8 64 (nat_lit 259) [.ref m, .ref row, .int c tp] (fun h => MachIn w.params h m f ns limit ∧ RowTup h row (.set neg ps)) (fun v nw => nw = [] ∧ v = .bool (inSetB f ps c)) := by
  unfold Spec; k_fill; intros; rename_i hpre hret
  obtain ⟨⟨dm, o, cd, rl, x, tb, st, tk0, hm, hdm, hD, hf, hx, hT⟩, u, rr, e, hr, hR, hE⟩ := hpre
  obtain ⟨kept, marks, choices, changes, t1, t2, t3, t4, t5, t6, t7, t8, t9, t10, t11, u1, u2, u3, u4, rfl⟩ := hD
  have hf' := hf; obtain ⟨dc, e1, e2, e3, e4, v1, v2, v3, v4, v5, v6, hc, hdc⟩ := hf'
  refine wpAny_call ?_
  have hT' := hT; obtain ⟨dxt, rd, f1, f2, z1, z2, n1, n2, htb, hdt, hrd, hlo⟩ := hT'
  k_extra "ENTERC"
  k_extra "STEPSC"
  all_goals first
    | (k_extra "FINVAL"; exact congrArg Value.bool (by simp_all [inSetB]))
    | (k_extra "MYNIL"; k_extra "STEPSC")
--reg
example : True := by
  k_with "call ref" => (k_dflt (refine' Spec.useV (c_is_in_set _ _ _ _ _ _ _ _ _ _) ?k1 ?k2 ?k3 ?k4 ?k5 ?k6 ?k7 ?k8 ?k9 ?_; k_extra "MYVAL"))
  k_with "PRE" => (exact ⟨MachIn.keeps (by assumption) (Fr.keep (by k_asm)), RowTup.keeps (by assumption) (Fr.keep (by k_asm))⟩)
  trivial
--end
theorem c_is_taken (w : World) (m row : Addr) (f : Bool) (ns : List Int) (limit : Int) (r : RRow) (c : Int) (tp : Tok) :
    Spec w 10 80 (nat_lit 254) [.ref m, .ref row, .int c tp] (fun h => MachIn w.params h m f ns limit ∧ RowTup h row r) (fun v nw => nw = [] ∧ v = .bool (takenB f r c)) := by
  unfold Spec; k_fill; intros; rename_i hpre hret
  have hpre' := hpre; have hM := hpre.1; have hR0 := hpre.2
  obtain ⟨⟨dm, o, cd, rl, x, tb, st, tk0, hm, hdm, hD, hf, hx, hT⟩, hr⟩ := hpre'
  obtain ⟨kept, marks, choices, changes, t1, t2, t3, t4, t5, t6, t7, t8, t9, t10, t11, u1, u2, u3, u4, rfl⟩ := hD
  have hf' := hf; obtain ⟨dc, e1, e2, e3, e4, v1, v2, v3, v4, v5, v6, hc, hdc⟩ := hf'
  cases r with
  | char k =>
    obtain ⟨u, u', hr⟩ := hr
    refine wpAny_call ?_
    k_extra "ENTER"
    k_extra "STEPS"
    all_goals (k_extra "FINVAL"; exact congrArg Value.bool (by simp_all [takenB]))
  | any =>
    obtain ⟨u, hr⟩ := hr
    refine wpAny_call ?_
    k_extra "ENTER"
    k_extra "STEPS"
    all_goals (k_extra "FINVAL"; exact congrArg Value.bool (by simp [takenB]))
  | set neg ps =>
    obtain ⟨u, rr, e, hr, hR, hE⟩ := hr
    refine wpAny_call ?_
    k_extra "ENTER"
    k_extra "STEPS"
    all_goals (k_extra "FINVAL"; rfl)
--reg
example : True := by
  k_with "call ref" => (k_dflt (refine' Spec.useV (c_is_taken _ _ _ _ _ _ _ _ _) ?k1 ?k2 ?k3 ?k4 ?k5 ?k6 ?k7 ?k8 ?k9 ?_; k_extra "MYVAL"))
  trivial
--end
theorem c_asked (w : World) (m row : Addr) (f : Bool) (ns : List Int) (limit : Int) (r : RRow) (place : Int) (tp : Tok) :
    Spec w 12 96 (nat_lit 247) [.ref m, .ref row, .int place tp] (fun h => MachIn w.params h m f ns limit ∧ RowTup h row r)
      (fun v nw => nw = [] ∧ ((place < limit ∧ takenB f r (codeAt ns place) = true ∧ ∃ t, v = .int (place + 1) t) ∨ (¬ (place < limit ∧ takenB f r (codeAt ns place) = true) ∧ v = .none))) := by
  unfold Spec; k_fill; intros; rename_i hpre hret
  have hpre' := hpre; have hM := hpre.1; have hR0 := hpre.2
  obtain ⟨⟨dm, o, cd, rl, x, tb, st, tk0, hm, hdm, hD, hf, hx, hT⟩, hr⟩ := hpre'
  obtain ⟨kept, marks, choices, changes, t1, t2, t3, t4, t5, t6, t7, t8, t9, t10, t11, u1, u2, u3, u4, rfl⟩ := hD
  have hx' := hx; obtain ⟨dx, l, e1, e2, y1, y2, y3, n, vs', hx1, hdx, hl', hi', hlen'⟩ := hx'
  cases r with
  | char k =>
    obtain ⟨u, u', hr⟩ := hr
    refine wpAny_call ?_
    k_extra "ENTER"
    k_extra "STEPS"
    · k_extra "FINAS"; exact Or.inl ⟨by assumption, by assumption, _, rfl⟩
    · k_extra "FINAS"; exact Or.inr ⟨by simp_all, rfl⟩
    · k_extra "FINAS"; exact Or.inr ⟨by omega, rfl⟩
  | any =>
    obtain ⟨u, hr⟩ := hr
    refine wpAny_call ?_
    k_extra "ENTER"
    k_extra "STEPS"
    · k_extra "FINAS"; exact Or.inl ⟨by assumption, by assumption, _, rfl⟩
    · k_extra "FINAS"; exact Or.inr ⟨by simp_all, rfl⟩
    · k_extra "FINAS"; exact Or.inr ⟨by omega, rfl⟩
  | set neg ps =>
    obtain ⟨u, rr, e, hr, hR, hE⟩ := hr
    refine wpAny_call ?_
    k_extra "ENTER"
    k_extra "STEPS"
    · k_extra "FINAS"; exact Or.inl ⟨by assumption, by assumption, _, rfl⟩
    · k_extra "FINAS"; exact Or.inr ⟨by simp_all, rfl⟩
    · k_extra "FINAS"; exact Or.inr ⟨by omega, rfl⟩
--reg
example : True := by
  k_with "call ref" => (k_dflt (refine' Spec.use (c_asked _ _ _ _ _ _ _ _ _) ?k1 ?k2 ?k3 ?k4 ?k5 ?k6 ?k7 ?k8 ?k9 ?_; k_extra "MYCALL"; obtain ⟨he9, hv9⟩ := hp9; subst he9; (simp only [List.nil_append] at N9); clear ha9 hs9; (rcases hv9 with ⟨hl9, hb9, t9, hv9⟩ | ⟨hb9, hv9⟩) <;> subst hv9 <;> (try dsimp only) <;> (try k_fold)))
  trivial
--end
section
variable {prog : Program} {w : World} {A : Around} {E : Value → Shared → Prop} {Q : Flow → Shared → Prop} {s : Shared} {env : Env} {h₀ : Heap} {L : Addr}
noncomputable def WStep (h₀ : Heap) (L : Addr) (s : Shared) (J : Nat → (Str → Option Value) → List (Addr × Obj) → Prop) (n : Nat) (Q : Flow → Shared → Prop) (f : Flow) (s₃ : Shared) : Prop :=
  match f with
  | .ret v => Q (.ret v) s₃
  | .brk => Q .next s₃
  | _ => ∃ h' tk m₂ news₂ n', s₃ = { s with heap := h', toks := tk } ∧ Fr h₀ L h' m₂ ∧ News h₀ L h' news₂ ∧ n' < n ∧ J n' m₂ news₂
theorem wstep_ret {J : Nat → (Str → Option Value) → List (Addr × Obj) → Prop} {n : Nat} {v : Value} {s₃ : Shared} (h : Q (.ret v) s₃) : WStep h₀ L s J n Q (.ret v) s₃ := h
theorem wstep_next {J : Nat → (Str → Option Value) → List (Addr × Obj) → Prop} {n n' tk : Nat} {h' : Heap} {m₂ : Str → Option Value} {news₂ news' : List (Addr × Obj)} (F : Fr h₀ L h' m₂) (N : News h₀ L h' news') (hs : ∀ p ∈ news₂, p ∈ news') (hn : n' < n) (hJ : J n' m₂ news₂) :
    WStep h₀ L s J n Q .next { s with heap := h', toks := tk } := ⟨h', tk, m₂, news₂, n', rfl, F, fun p hp => N p (hs p hp), hn, hJ⟩
theorem wstep_cont {J : Nat → (Str → Option Value) → List (Addr × Obj) → Prop} {n n' tk : Nat} {h' : Heap} {m₂ : Str → Option Value} {news₂ news' : List (Addr × Obj)} (F : Fr h₀ L h' m₂) (N : News h₀ L h' news') (hs : ∀ p ∈ news₂, p ∈ news') (hn : n' < n) (hJ : J n' m₂ news₂) :
    WStep h₀ L s J n Q .cont { s with heap := h', toks := tk } := ⟨h', tk, m₂, news₂, n', rfl, F, fun p hp => N p (hs p hp), hn, hJ⟩
theorem while_ret {test : Expr} {body : List Stmt} {pos : Pos} {m : Str → Option Value} {news news' : List (Addr × Obj)} (J : Nat → (Str → Option Value) → List (Addr × Obj) → Prop) (n₀ : Nat)
    (F : Fr h₀ L s.heap m) (N : News h₀ L s.heap news') (hs : ∀ p ∈ news, p ∈ news') (hJ : J n₀ m news)
    (turn : ∀ n m₁ news₁ h₁ tk₁, Fr h₀ L h₁ m₁ → News h₀ L h₁ news₁ → J n m₁ news₁ →
      wpAny (model prog w) A (isTrue test env (eval test env)) (fun b s₂ =>
        if b = true then wpAny (model prog w) A (execs body env) (WStep h₀ L s J n Q) E s₂ else Q .next s₂) E { s with heap := h₁, toks := tk₁ })
    (hE : PassesOwn (model prog w) A env E := by passes_own) :
    wpAny (model prog w) A (exec (.While test body [] pos) env) Q E s := by
  refine wpAny_While (codeAny_whileLoop (fun n s' => ∃ h₁ tk₁ m₁ news₁, s' = { s with heap := h₁, toks := tk₁ } ∧ Fr h₀ L h₁ m₁ ∧ News h₀ L h₁ news₁ ∧ J n m₁ news₁) ?_ n₀ ⟨s.heap, s.toks, m, news, rfl, F, fun p hp => N p (hs p hp), hJ⟩)
  rintro n s' ⟨h₁, tk₁, m₁, news₁, rfl, F₁, N₁, J₁⟩
  refine wpAny_mono (turn n m₁ news₁ h₁ tk₁ F₁ N₁ J₁) (fun b s₂ h₂ => ?_) hE
  cases b with
  | false =>
    simp only [Bool.false_eq_true, if_false] at h₂ ⊢
    exact wpAny_execs_nil h₂
  | true =>
    simp only [if_true] at h₂ ⊢
    refine wpAny_mono h₂ (fun f s₃ h₃ => ?_) hE
    cases f with
    | ret v => exact h₃
    | brk => exact h₃
    | next => obtain ⟨h', tk, m₂, news₂, n', rfl, F₂, N₂, hn, J₂⟩ := h₃; exact ⟨n', hn, h', tk, m₂, news₂, rfl, F₂, N₂, J₂⟩
    | cont => obtain ⟨h', tk, m₂, news₂, n', rfl, F₂, N₂, hn, J₂⟩ := h₃; exact ⟨n', hn, h', tk, m₂, news₂, rfl, F₂, N₂, J₂⟩
end
noncomputable def RowWord (r : RRow) : Str := match r with
  | .char _ => Str.ofString "char" | .any => Str.ofString "any" | .set _ _ => Str.ofString "set"
theorem RowTup.word {h : Heap} {t : Addr} {r : RRow} (x : RowTup h t r) : ∃ u items, IsTup h t (Value.str (RowWord r) u :: items).toArray := by
  cases r with
  | char => obtain ⟨u, u', a⟩ := x; exact ⟨u, _, a⟩
  | any => obtain ⟨u, a⟩ := x; exact ⟨u, _, a⟩
  | set neg ps => obtain ⟨u, rr, e, a, b, c⟩ := x; exact ⟨u, _, a⟩
inductive CodeIn (h : Heap) (cd rl : Addr) (rs : List RRow) (f : Bool) : Prop | mk (a : FoldsOf h cd rl f) (b : rs.length ≤ 3) (vs : List Value) (td : Addr) (u : Tok) (c : h.IsList rl (vs ++ [Value.ref td]).toArray) (d : IsTup h td #[Value.str (Str.ofString "done") u]) (e : vs.length = rs.length)
  (g : ∀ (i : Nat) (r : RRow), rs[i]? = some r → ∃ t, vs[i]? = some (Value.ref t) ∧ RowTup h t r)
theorem CodeIn.keeps {h h' : Heap} {cd rl : Addr} {rs : List RRow} {f : Bool} (x : CodeIn h cd rl rs f) (k : h.StaysIn h') : CodeIn h' cd rl rs f :=
  let ⟨a, b, vs, td, u, c, d, e, g⟩ := x; ⟨a.keeps k, b, vs, td, u, stays_list k c, IsTup.keeps d fun b o e => k b o e, e, fun i r q => let ⟨t, y, z⟩ := g i r q; ⟨t, y, z.keeps k⟩⟩
noncomputable def rowsM (f : Bool) (ns : List Int) (rs : List RRow) (p : Int) : Bool := rs.zipIdx.all fun r => takenB f r.1 (codeAt ns (p + r.2))
noncomputable def runB (f : Bool) (ns : List Int) (rs : List RRow) (limit p : Int) : Bool := rs.zipIdx.all fun r => decide (p + r.2 < limit) && takenB f r.1 (codeAt ns (p + r.2))
theorem run_iff {f : Bool} {ns : List Int} {rs : List RRow} {limit p : Int} : runB f ns rs limit p = true ↔ ∀ (j : Nat) r, rs[j]? = some r → p + j < limit ∧ takenB f r (codeAt ns (p + j)) = true := by
  unfold runB
  rw [List.all_eq_true]
  constructor
  · intro h j r hj
    have := h (r, j) (by rw [List.mem_zipIdx_iff_getElem?]; simpa using hj)
    simpa using this
  · rintro h ⟨r, j⟩ hm
    rw [List.mem_zipIdx_iff_getElem?] at hm
    have := h j r (by simpa using hm)
    simpa using this
theorem mach_now {P : Params} {h₀ h : Heap} {L mm dm cd rl x tb : Addr} {m : Str → Option Value} {news : List (Addr × Obj)} {o : Obj} {f : Bool} {ns : List Int} {steps taken limit : Int}
    (F : Fr h₀ L h m) (N : News h₀ L h news) (hmm : (mm, instObj 269 dm) ∈ news) (hmem : (dm, o) ∈ news) (hD : MachD P o cd x tb steps taken limit) (hf : FoldsOf h₀ cd rl f) (hx : RowIn h₀ x ns) (hT : TableIn h₀ tb) : MachIn P h mm f ns limit :=
  ⟨dm, o, cd, rl, x, tb, steps, taken, (N _ hmm).1, (N _ hmem).1, hD, hf.keeps F.keep, hx.keeps F.keep, hT.keeps F.keep⟩
theorem canonRun {m' : Str → Option Value} {k k' q q' : Int} {t t' : Tok} {c : Value} (h1 : m' (Str.ofString "row") = some (.int k t)) (hk : k = k') (h2 : m' (Str.ofString "place") = some (.int q t')) (hq : q = q') (h3 : m' (Str.ofString "self") = some c) :
    m' = fun y => if y = Str.ofString "row" then some (.int k' t) else if y = Str.ofString "place" then some (.int q' t') else if y = Str.ofString "self" then some c else m' y := by
  subst hk hq
  funext y
  by_cases e : y = Str.ofString "row"
  · simp only [e, if_true]; exact h1
  · simp only [e, if_false]
    by_cases e2 : y = Str.ofString "place"
    · simp only [e2, if_true]; exact h2
    · simp only [e2, if_false]
      by_cases e3 : y = Str.ofString "self"
      · simp only [e3, if_true]; exact h3
      · simp only [e3, if_false]
theorem item_head {prog : Program} {w : World} {A : Around} {E : Value → Shared → Prop} {s : Shared} {h₀ : Heap} {L : Addr} {m : Str → Option Value} {value slice : Expr} {t : Addr} {x : Value} {l : List Value} {u : Tok} {Q : Value → Shared → Prop} (F : Fr h₀ L s.heap m) (ht : IsTup h₀ t (x :: l).toArray) (h : Q x s)
    (hs : subscripted slice false (.ref t) (.int 0 u) = operate [.ref t, .int 0 u] (getItem (.ref t) (.int 0 u)) := by with_unfolding_all rfl) (hg : ∀ r, letTemporaryGo value (.ref t) r = pure () := by intro _; with_unfolding_all rfl) :
    wpAny (model prog w) A (subscriptTail value slice (.ref t) (.int 0 u)) Q E s :=
  item_tupleL (IsTup.keeps ht F.keep) (by decide) (by decide) (j := 0) (by simp [seqIndex?]) rfl h hs hg
theorem row_at {vs : List Value} {td ta : Addr} {i : Nat} (hv : vs[i]? = some (.ref ta)) : (vs ++ [.ref td])[((i : Nat) : Int).toNat]? = some (.ref ta) := by
  have := (List.getElem?_eq_some_iff.mp hv).1
  rw [show ((i : Nat) : Int).toNat = i from rfl, List.getElem?_append_left (by omega)]; exact hv
theorem row_end {vs : List Value} {td : Addr} {i : Nat} (hv : i = vs.length) : (vs ++ [.ref td])[((i : Nat) : Int).toNat]? = some (.ref td) := by
  subst hv; rw [show ((vs.length : Nat) : Int).toNat = vs.length from rfl]; simp
theorem ite_no {c : Prop} [Decidable c] {A B : Prop} (hc : ¬ c) (h : B) : if c then A else B := by rw [if_neg hc]; exact h
theorem ite_yes {c : Prop} [Decidable c] {A B : Prop} (hc : c) (h : A) : if c then A else B := by rw [if_pos hc]; exact h
example : True := by
  k_with "ite" => (k_dflt (refine' ite_no ?k1 ?_; (case k1 => first | (simp only [decide_eq_true_eq]; omega) | (simp only [hw1, hw2, hw3, hw4]; decide))))
  k_with "subscriptTail" => (k_here; (with_reducible show wpAny _ _ (subscriptTail _ _ (Value.ref _) (Value.int (Nat.cast _) _)) _ _ _); (with_unfolding_all refine' item_litK ?k1 ?k2 ?k3 ?k4 ?_ ?k6); k_dflt ((case k6 => with_unfolding_all rfl); (case k1 => exact Fr.lst (by k_asm) hlist); (case k2 => omega); (case k3 => omega); (case k4 => exact hitem); k_whole))
  k_with "subscriptTail" => (k_here; (with_reducible show wpAny _ _ (subscriptTail _ _ (Value.ref _) (Value.int 0 _)) _ _ _); (with_unfolding_all refine' item_head ?k1 ?k2 ?_ ?k6 ?k7); k_dflt ((case k6 => with_unfolding_all rfl); (case k7 => (intro _; with_unfolding_all rfl)); (case k1 => k_asm); (case k2 => exact hword); k_whole))
  k_with "ite" => (k_dflt (refine' ite_yes ?k1 ?_; (case k1 => decide)))
  k_with "compareOp Eq ref ref" => (k_dflt (refine' eq_intsK (vs := []) (us := []) ?k1 .nil ?k2 .nil ?k3 ?_; (case k1 => exact ⟨_, Fr.keep (by k_asm) _ _ hch, rfl, _, rfl⟩); (case k2 => exact News.isList (by k_asm) (by k_mem)); (case k3 => ktr_units)))
  k_with "PRE" => (exact ⟨mach_now (by k_asm) (by assumption) (by k_mem) (by k_mem) ⟨_, _, _, _, _, _, _, _, _, _, _, _, _, _, _, _, _, _, _, rfl⟩ (by assumption) (by assumption) (by assumption), RowTup.keeps (by assumption) (Fr.keep (by k_asm))⟩)
  trivial
inductive RunJ (mm dm : Addr) (MO : Int → Tok → Tok → Obj) (rs : List RRow) (f : Bool) (ns : List Int) (taken limit place : Int) (n : Nat) (m' : Str → Option Value) (nw : List (Addr × Obj)) : Prop
  | mk (i : Nat) (ta tb' : Tok) (tkn : Int) (t6' u3' : Tok) (u' : Str → Option Value) (a : n = rs.length + 1 - i) (b : i ≤ rs.length) (c : tkn ≤ taken + i) (d : nw = [(mm, instObj 269 dm), (dm, MO tkn t6' u3')])
    (e : ∀ (j : Nat) r, j < i → rs[j]? = some r → place + j < limit ∧ takenB f r (codeAt ns (place + j)) = true)
    (g : m' = fun y => if y = Str.ofString "row" then some (Value.int i ta) else if y = Str.ofString "place" then some (Value.int (place + i) tb') else if y = Str.ofString "self" then some (Value.ref mm) else u' y)
theorem c_run (w : World) (mm dm cd rl x tb kept marks choices changes : Addr) (rs : List RRow) (f : Bool) (ns : List Int) (steps taken limit place : Int) (tp t1 t2 t3 t4 t5 t6 t7 t8 t9 t10 t11 u1 u2 u3 u4 : Tok) (hst : taken + 100 ≤ steps) (hp : 0 ≤ place) (hne : @LT.lt Nat _ dm mm) :
    SpecM w 14 128 (nat_lit 226) [.ref mm, .int place tp] [(mm, instObj 269 dm), (dm, machO w.params cd x tb steps taken limit kept marks choices changes t1 t2 t3 t4 t5 t6 t7 t8 t9 t10 t11 u1 u2 u3 u4)]
      (fun g => CodeIn g cd rl rs f ∧ RowIn g x ns ∧ TableIn g tb ∧ g.get? choices = some (listOf #[] 0))
      (fun v nw => (mm, instObj 269 dm) ∈ nw ∧ ∃ taken' t6' u3', taken' ≤ taken + 100 ∧ nw = [(mm, instObj 269 dm), (dm, machO w.params cd x tb steps taken' limit kept marks choices changes t1 t2 t3 t4 t5 t6' t7 t8 t9 t10 t11 u1 u2 u3' u4)] ∧
        if runB f ns rs limit place then ∃ t, v = .int (place + rs.length) t else v = .none) := by
  unfold SpecM; k_fill; intros; rename_i hg hpre hret
  obtain ⟨hC, hx, hT, hch⟩ := hpre
  have hC' := hC; obtain ⟨hf, hrl, vs, td, u, hlist, htd, hvl, hrows⟩ := hC'
  have hf' := hf; obtain ⟨dc, e1, e2, e3, e4, v1, v2, v3, v4, v5, v6, hc, hdc⟩ := hf'
  refine wpAny_call ?_
  k_extra "ENTERM"
  k_extra "STEPS"
  obtain ⟨MO, hMO⟩ : ∃ MO : Int → Tok → Tok → Obj, MO = fun tkn t6' u3' => machO w.params cd x tb steps tkn limit kept marks choices changes t1 t2 t3 t4 t5 t6' t7 t8 t9 t10 t11 u1 u2 u3' u4 := ⟨_, rfl⟩
  refine while_ret (J := RunJ mm dm MO rs f ns taken limit place)
    (rs.length + 1) (by k_asm) (by assumption) (fun _ h => h) ⟨0, _, _, taken, _, _, _, rfl, Nat.zero_le _, by omega, by rw [hMO], fun j r h => absurd h (Nat.not_lt_zero _), canonRun rfl rfl rfl (by simp) rfl⟩ ?_
  rintro n m₁ news₁ h₁ tk₁ F₁ N₁ ⟨i, ta, tb', tkn, t6', u3', u', rfl, hi, htk, rfl, hmatch, rfl⟩
  simp only [hMO] at N₁
  rcases Nat.lt_or_ge i rs.length with hlt | hge
  · obtain ⟨r, hr⟩ : ∃ r, rs[i]? = some r := ⟨rs[i], by simp [hlt]⟩
    obtain ⟨tr, hv, hrt⟩ := hrows i r hr
    obtain ⟨uw, items, hword⟩ := hrt.word
    have hw1 : (RowWord r == Str.ofString "done") = false := by cases r <;> rfl
    have hw2 : (RowWord r == Str.ofString "split") = false := by cases r <;> rfl
    have hw3 : (RowWord r == Str.ofString "jump") = false := by cases r <;> rfl
    have hw4 : (RowWord r == Str.ofString "progress") = false := by cases r <;> rfl
    have hitem := row_at (td := td) hv
    (try dsimp only)
    k_extra "STEPS"
    · (try dsimp only)
      refine' wstep_cont ?kf ?kn ?ks ?kl ⟨i + 1, _, _, _, _, _, _, rfl, hlt, ?ka, ?kd, ?kb, ?kc⟩
      case kf => k_asm
      case kn => assumption
      case kd => rw [hMO]
      case ks => k_extra "SUB"
      case kl => omega
      case ka => omega
      case kb =>
        intro j r' hj hr'
        by_cases e : j = i
        · subst e
          have e := Option.some.inj (hr'.symm.trans hr)
          subst e
          exact ⟨by assumption, by assumption⟩
        · exact hmatch j r' (by omega) hr'
      case kc =>
        refine' canonRun ?a1 ?a2 ?a3 ?a4 ?a5
        case a1 => exact rfl
        case a3 => exact rfl
        case a5 => exact rfl
        case a2 => omega
        case a4 => omega
    · (try dsimp only)
      refine wstep_ret ?_
      k_extra "STEPS"
      refine' fin_m (nw := [_, _]) hret ?kf ?kn ?km ?ko ?kp ?ks ⟨.head _, _, _, _, ?ka, rfl, ?kb⟩
      case kf => k_asm
      case km => assumption
      case kn => assumption
      case ko => assumption
      case kp => assumption
      case ks =>
        refine List.forall_mem_cons.mpr ⟨?_, List.forall_mem_cons.mpr ⟨?_, List.forall_mem_nil _⟩⟩
        · k_mem
        · k_mem
      case kb =>
        rw [if_neg (fun e => ?_)]
        exact hb9 (run_iff.mp e i r hr)
      case ka => omega
  · have hie : i = rs.length := Nat.le_antisymm hi hge
    have hword := htd
    have hitem := row_end (vs := vs) (td := td) (hie.trans hvl.symm)
    (try dsimp only)
    k_extra "STEPS"
    (try dsimp only)
    refine wstep_ret ?_
    k_extra "STEPS"
    refine' fin_m (nw := [_, _]) hret ?kf ?kn ?km ?ko ?kp ?ks ⟨.head _, _, _, _, ?ka, rfl, ?kb⟩
    case kf => k_asm
    case km => assumption
    case kn => assumption
    case ko => assumption
    case kp => assumption
    case ks =>
      refine List.forall_mem_cons.mpr ⟨?_, List.forall_mem_cons.mpr ⟨?_, List.forall_mem_nil _⟩⟩
      · k_mem
      · k_mem
    case kb =>
      rw [if_pos (run_iff.mpr fun j r hj => hmatch j r (by have := (List.getElem?_eq_some_iff.mp hj).1; omega) hj)]
      subst hie
      exact ⟨_, rfl⟩
    case ka => omega
example : True := by
  k_with "last subscriptTail" => (k_here; (with_unfolding_all refine' item_litK ?k1 ?k2 ?k3 ?k4 ?_ ?k6); k_dflt ((case k6 => with_unfolding_all rfl); (case k1 => exact Fr.lst (by k_asm) hkl); (case k2 => decide); (case k3 => decide); (case k4 => exact rfl); k_whole))
  k_with "subscriptTail" => (k_here; (with_unfolding_all refine' item_litK ?k1 ?k2 ?k3 ?k4 ?_ ?k6); k_dflt ((case k6 => with_unfolding_all rfl); (case k1 => exact Fr.lst (by k_asm) hkl); (case k2 => decide); (case k3 => decide); (case k4 => exact rfl); k_whole))
  trivial
theorem c_span (w : World) (mm dm cd x tb kept marks choices changes : Addr) (a b steps taken limit : Int) (tp ta tb' : Tok) (n : Nat) (k : Int) (hk : k = 0) (h0 : 0 ≤ a) (h1 : 0 ≤ b)
    (t1 t2 t3 t4 t5 t6 t7 t8 t9 t10 t11 u1 u2 u3 u4 : Tok) :
    Spec w 4 32 (nat_lit 219) [.ref mm, .int k tp]
      (fun h => h.get? mm = some (instObj 269 dm) ∧ h.get? dm = some (machO w.params cd x tb steps taken limit kept marks choices changes t1 t2 t3 t4 t5 t6 t7 t8 t9 t10 t11 u1 u2 u3 u4) ∧ h.get? kept = some (listOf #[.int a ta, .int b tb'] n))
      (fun v nw => ∃ d t u, v = .ref d ∧ nw = [(d, tupII a b t u)]) := by
  subst hk
  unfold Spec; k_fill; intros; rename_i hpre hret
  obtain ⟨hm, hdm, hk⟩ := hpre
  have hkl : _root_.PySem.Heap.IsList _ kept [Value.int a ta, .int b tb'].toArray := ⟨_, hk, rfl, _, rfl⟩
  refine wpAny_call ?_
  k_extra "ENTER"
  k_extra "STEPS"
  all_goals (refine' fin_sub (nw := [_]) hret ?kf ?kn ?km ?ko ?kp ?ks ⟨_, _, _, rfl, rfl⟩; (case kf => k_asm); (case km => assumption); (case kn => assumption); (case ko => assumption); (case kp => assumption); (case ks => exact List.forall_mem_cons.mpr ⟨by k_mem, List.forall_mem_nil _⟩))
section
variable {s : Shared} {name qual : Str} {body : List Stmt} {scope : Scope} {kV doc pm cdv ct : Value} {an : Option Addr} {ds : List Expr} {T : Addr} {KF : Frag} {o : Obj} {items : Array Value} {n : Nat}
theorem bindsD6_5 {n1 n2 n3 n4 n5 n6 : Str} {a1 a2 a3 a4 a5 a6 : Option Expr} {p1 p2 p3 p4 p5 p6 : Pos} {v1 v2 v3 v4 v5 v6 : Value} {k : Option (Array Value) → Sem (List (Str × Value))} (X : KF.In s.heap) (ho : KF.lookup T = some o) (hs : o.data = .seq items n)
    (h₁ : bindArgs (fnOf name qual ⟨[], [⟨n1, a1, p1⟩, ⟨n2, a2, p2⟩, ⟨n3, a3, p3⟩, ⟨n4, a4, p4⟩, ⟨n5, a5, p5⟩, ⟨n6, a6, p6⟩], none, [], [], none, ds⟩ body scope (.ref T) kV doc pm an cdv ct) ⟨[v1, v2, v3, v4, v5], []⟩ = seqItems? (.ref T) >>= k) (h₂ : k (some items) = pure [(n1, v1), (n2, v2), (n3, v3), (n4, v4), (n5, v5), (n6, v6)]) : BindsTo s (fnOf name qual ⟨[], [⟨n1, a1, p1⟩, ⟨n2, a2, p2⟩, ⟨n3, a3, p3⟩, ⟨n4, a4, p4⟩, ⟨n5, a5, p5⟩, ⟨n6, a6, p6⟩], none, [], [], none, ds⟩ body scope (.ref T) kV doc pm an cdv ct) ⟨[v1, v2, v3, v4, v5], []⟩ [(n1, v1), (n2, v2), (n3, v3), (n4, v4), (n5, v5), (n6, v6)] := binds_K X rfl ho hs h₁ h₂
theorem bindsD3_3 {n1 n2 n3 : Str} {a1 a2 a3 : Option Expr} {p1 p2 p3 : Pos} {v1 v2 v3 : Value} {k : Option (Array Value) → Sem (List (Str × Value))} (X : KF.In s.heap) (ho : KF.lookup T = some o) (hs : o.data = .seq items n)
    (h₁ : bindArgs (fnOf name qual ⟨[], [⟨n1, a1, p1⟩, ⟨n2, a2, p2⟩, ⟨n3, a3, p3⟩], none, [], [], none, ds⟩ body scope (.ref T) kV doc pm an cdv ct) ⟨[v1, v2, v3], []⟩ = seqItems? (.ref T) >>= k) (h₂ : k (some items) = pure [(n1, v1), (n2, v2), (n3, v3)]) : BindsTo s (fnOf name qual ⟨[], [⟨n1, a1, p1⟩, ⟨n2, a2, p2⟩, ⟨n3, a3, p3⟩], none, [], [], none, ds⟩ body scope (.ref T) kV doc pm an cdv ct) ⟨[v1, v2, v3], []⟩ [(n1, v1), (n2, v2), (n3, v3)] := binds_K X rfl ho hs h₁ h₂
theorem bindsD2_1 {n1 n2 : Str} {a1 a2 : Option Expr} {p1 p2 : Pos} {v1 v2 : Value} {k : Option (Array Value) → Sem (List (Str × Value))} (X : KF.In s.heap) (ho : KF.lookup T = some o) (hs : o.data = .seq items n)
    (h₁ : bindArgs (fnOf name qual ⟨[], [⟨n1, a1, p1⟩, ⟨n2, a2, p2⟩], none, [], [], none, ds⟩ body scope (.ref T) kV doc pm an cdv ct) ⟨[v1], []⟩ = seqItems? (.ref T) >>= k) (h₂ : k (some items) = pure [(n1, v1), (n2, v2)]) : BindsTo s (fnOf name qual ⟨[], [⟨n1, a1, p1⟩, ⟨n2, a2, p2⟩], none, [], [], none, ds⟩ body scope (.ref T) kV doc pm an cdv ct) ⟨[v1], []⟩ [(n1, v1), (n2, v2)] := binds_K X rfl ho hs h₁ h₂
end
noncomputable def CodeM (w : World) (D U : Nat) (f : Addr) (args : List Value) (own : List (Addr × Obj)) (pre : Heap → Prop) (post : Value → List (Addr × Obj) → Prop) : Prop :=
  ∀ (p : Program) (loose : List Str) (mean : ExcName → Option Value) (mg mb : Str → Option Value) (dp un : Nat) (gd : Option (List Code)) (cn : Str) (cs : Scope) (a : Addr) (ccd : Value) (cl : List (Str × Addr)) (outer : List Env) (A₀ : Around) (base h₀ g : Heap) (L : Addr) (m : Str → Option Value) (news : List (Addr × Obj)) (s : Shared) (Q E : Value → Shared → Prop),
    Below A₀ base outer h₀ → Fr h₀ L s.heap m → (K w.params).In h₀ → News h₀ L s.heap (own ++ news) → Top p loose mean mg mb h₀ → cs.kind = .function → dp + D < recursionLimit → un + U < cLine →
    (∀ p ∈ news, p.1 ∉ own.map (·.1)) → g = hideAll s.heap (own.map (·.1)) → pre g → RetG g h₀ L m news s Q post →
    codeAny (model PySem.Challenge.rw_pq0312_01.prog w) (ktrTop dp un gd cn cs L a ccd cl outer) (.call (.ref f) ⟨args, []⟩) (fun r s' => match r with | .ok (.ret v) => Q v s' | .ok _ => False | .error e => E e s') s
theorem Spec.of_init {w : World} {D U : Nat} {C fI : Addr} {args : List Value} {pre : Heap → Prop} {post : Value → List (Addr × Obj) → Prop} (hm : makesIn (K w.params) C = true) (hi : findIn (K w.params) (.ref C) "__init__" = some (some (.ref fI))) (hf : isFn (K w.params) (.ref fI) = true)
    (hpre : ∀ h h' : Heap, h.StaysIn h' → pre h → pre h') (h : ∀ x dx, @LT.lt Nat _ dx x → CodeM w D U fI (.ref x :: args) [(x, instObj C dx), (dx, dictOf [] 0)] pre (fun v nw => v = .none ∧ post (.ref x) nw)) : Spec w (D + 2) (U + 8) C args pre post := by
  intro p loose mean mg mb dp un gd cn cs a ccd cl outer A₀ base h₀ L m news s Q E B F X N T hk hd hu hp ret
  refine wpAny_call ?_
  obtain ⟨hh, g₁, d₁, t₁, os⟩ := s
  have lo : ∀ {b : Addr} {o}, hh.get? b = some o → @LT.lt Nat _ b hh.objs.size := fun e => Heap.lt_size e
  have st : hh.StaysIn ((hh.push emptyDict).push (instObj C hh.objs.size)) := fun b o e => Heap.get?_push_of_some _ (Heap.get?_push_of_some _ e)
  have N' := (N.push F emptyDict).push (F.push _) (instObj C hh.objs.size)
  rw [Heap.size_push] at N'
  refine make_core (makes_of (X.keeps F.keep) hm) (looks_findIn (X.keeps F.keep) hi) (fun self => bind_fn (X.keeps F.keep) self (beq_iff_eq.mp hf)) (.inl rfl) ?_
  have none_of : ∀ b : Addr, @LE.le Nat _ hh.objs.size b → hh.get? b = none := fun b hb => Heap.get?_none_of_le hb
  have st' : hh.StaysIn (hideAll ((hh.push emptyDict).push (instObj C hh.objs.size)) [hh.objs.size + 1, hh.objs.size]) := fun b o e => hideAll_get _ (st b o e) fun q => by
    rcases List.mem_cons.mp q with q | q
    · have := lo e; rw [q] at this; exact absurd this (by show ¬ (@LT.lt Nat _ (hh.objs.size + 1) hh.objs.size); omega)
    · have := lo e; rw [List.mem_singleton.mp q] at this; exact absurd this (Nat.lt_irrefl _)
  refine codeAny_mono (h (hh.objs.size + 1) hh.objs.size (Nat.lt_succ_self _) p loose mean mg mb (dp + 1) (un + 1) _ cn cs a ccd cl outer A₀ base h₀ _ L m news ⟨(hh.push emptyDict).push (instObj C hh.objs.size), g₁, d₁, t₁, os⟩ (fun v s' => v = .none ∧ Q (.ref (hh.objs.size + 1)) s') E B ((F.push _).push _) X N' T hk (by omega) (by omega) (fun q hq e => ?_) rfl (hpre _ _ st' hp)
    fun v nw h' tk' F' N' hn S hpost => ⟨hpost.1, ret _ nw h' tk' F' N' (fun q hq => ?_) (fun b o e => S b o (st' b o e)) hpost.2⟩) fun r s' hr => ?_
  · have := lo (N q hq).1
    rcases List.mem_cons.mp e with e | e
    · rw [e] at this; exact absurd this (by show ¬ (@LT.lt Nat _ (hh.objs.size + 1) hh.objs.size); omega)
    · rw [List.mem_singleton.mp e] at this; exact absurd this (Nat.lt_irrefl _)
  · cases e : hh.get? q.1 with
    | none => rfl
    | some o => exact nomatch (st' _ _ e).symm.trans (hn q hq)
  · cases r with
    | ok f => cases f <;> first | exact hr | exact hr.elim
    | error e => exact hr
--reg
example : True := by
  k_with "CODEM" => (k_dflt (refine' enterM ?k1 ?k2 ?k3 ?k4 ?k5 ?kO ?kG ?kA ?kF ?kK ?k6 ?k7 ?k8 ?k9 ?kB ?_ ?c2 ?c3 ?c4 ?c5; (case kA => exact rfl); (case kF => exact rfl); (case kK => assumption); (case k1 => k_asm); (case k2 => k_asm); (case k3 => k_asm); (case k4 => assumption); (case k5 => k_asm); (case kO => assumption); (case kG => assumption); (case k6 => k_is); (case k7 => k_is); (case k8 => ktr_room); (case k9 => first | ((with_reducible refine binds1 ?_); kernel_rfl) | ((with_reducible refine binds2 ?_); kernel_rfl) | ((with_reducible refine binds3 ?_); kernel_rfl) | ((with_reducible refine binds4 ?_); kernel_rfl) | ((with_reducible refine binds5 ?_); kernel_rfl) | ((with_reducible refine binds6 ?_); kernel_rfl) | refine bindsD6_5 (by k_in) (by k_is) rfl rfl rfl | refine bindsD3_3 (by k_in) (by k_is) rfl rfl rfl | refine bindsD2_1 (by k_in) (by k_is) rfl rfl rfl | exact BindsTo.of_eq rfl); (case c5 => decide); (case kB => exact locs rfl); (case c2 => exact rfl); (case c3 => exact rfl); (case c4 => exact rfl); k_whole; intro L' h' tk' F' N' B' X' T' l1 hE'; (dsimp only [updL, List.foldl] at F'); (try k_lt l1); (try dsimp only); (try k_fold)))
  k_with "FIN5" => ((case kf => k_asm); (case km => assumption); (case kn => assumption); (case ko => assumption); (case kp => assumption))
  k_with "SUBN" => (repeat' first | exact List.forall_mem_nil _ | (refine List.forall_mem_cons.mpr ⟨by k_mem, ?_⟩))
  trivial
--end
theorem c_machine (w : World) (cd x tb : Addr) (tp : Tok) :
    Spec w 4 32 (nat_lit 269) [.ref cd, .ref x, .ref tb, .int 0 tp] (fun _ => True) (fun v nw => ∃ mm dm o, v = .ref mm ∧ @LT.lt Nat _ dm mm ∧ nw = [(mm, instObj 269 dm), (dm, o)] ∧ MachD w.params o cd x tb 400000 0 0) := by
  refine Spec.of_init (D := 2) (U := 24) (fI := nat_lit 200) (by kernel_rfl) (by kernel_rfl) (by kernel_rfl) (fun _ _ _ _ => trivial) fun mm dm hlt => ?_
  unfold CodeM; k_fill; intros; rename_i hg hpre hret
  k_extra "CODEM"
  k_extra "STEPS"
  refine' fin_m (nw := [_, _]) hret ?kf ?kn ?km ?ko ?kp ?ks ⟨rfl, _, _, _, rfl, hlt, rfl, ⟨_, _, _, _, _, _, _, _, _, _, _, _, _, _, _, _, _, _, _, rfl⟩⟩
  k_extra "FIN5"
  case ks => k_extra "SUBN"
section
variable {M : Model} {A : Around} {E : Value → Shared → Prop} {s : Shared} {h₀ : Heap} {L C c : Addr} {news : List (Addr × Obj)} {scope : Scope} {cl : List (Str × Addr)} {env : Env} {x : Str} {pos : Pos} {v : Value} {o : Obj} {Q : Value → Shared → Prop}
theorem ld_cell (N : News h₀ L s.heap news) (hc : cl.lookup x = some c) (hm : (c, o) ∈ news) (hd : o.data = .cell (some v)) (h : Q v s)
    (hk : (compEnvC scope cl C env).scope.kind = .function := by rfl) (hx : (compEnvC scope cl C env).kindOf x = some .cell := by rfl) (hb : (x == ("__debug__" : Str)) = false := by decide) :
    wpAny M A (eval (.Name x pos) (compEnvC scope cl C env)) Q E s := wpAny_Name (wpAny_loadName_cell hk hx hc ⟨o, N.get hm, hd⟩ h) hb
end
section
variable {prog : Program} {w : World} {A : Around} {E : Value → Shared → Prop} {s : Shared} {h₀ : Heap} {L : Addr} {m : Str → Option Value} {news : List (Addr × Obj)} {l : Addr} {x : Int} {u : Tok} {Q : Value → Shared → Prop}
theorem mul_lit {a : Int} {t : Tok} {its : Array Value} {c : Nat} (Fm : Fr h₀ L s.heap m) (N : News h₀ L s.heap news) (hm : (l, listOf #[.int a t] c) ∈ news) (h0 : 0 ≤ x) (h1 : x < 100) (e : (List.replicate x.toNat [Value.int a t]).flatten.toArray = its)
    (h : ∀ D h', Fr h₀ L h' m → News h₀ L h' ((D, listOf its 0) :: news) → (∀ p ∈ news, p.1 < D) → Q (.ref D) { s with heap := h' }) : wpAny (model prog w) A (binaryOp .Mult (.ref l) (.int x u)) Q E s :=
  KM.mul (vs := [.int a t]) (ns := [a]) Fm N (News.isList N hm) (.cons _ _ .nil) (by omega) (by omega) (by simp; omega) fun D h' F' N' l1 _ _ _ _ _ _ => h D h' F' (e ▸ N') l1
end
theorem fresh_ne {h₀ h : Heap} {L a b : Addr} {o : Obj} {news : List (Addr × Obj)} (hn : h.get? a = none) (N : News h₀ L h news) (hm : (b, o) ∈ news) : @Ne Nat a b := fun e => by
  have := (N _ hm).1; rw [show a = b from e] at hn; rw [hn] at this; cases this
local macro_rules | `(tactic| lcg_off) => `(tactic| k_extra "LOFF")
--reg
example : True := by
  k_with "LOFF" => (first | exact True.intro | (refine And.intro (LCg.Off3.mem (by with_reducible assumption) (_, _) (by k_mem)) ?_; lcg_off) | (refine And.intro ⟨by first | k_extra "NE" | k_ne, by first | k_extra "NE" | k_ne, by first | k_extra "NE" | k_ne⟩ ?_; lcg_off))
  trivial
--end
noncomputable def tryB (f : Bool) (ns : List Int) (rs : List RRow) (limit p : Int) : Option (Int × Int) := if runB f ns rs limit p then some (p, p + rs.length) else none
--reg
example : True := by
  k_with "CompRest" => (with_unfolding_all (refine LCg.CompRest.succ ?_; intro v' I' oI' C' oC' D' m' h' tk' E' hv' hC' hx' F' N' off' ne'; (first | lcg_open hv' | (obtain ⟨t9', hv9'⟩ := hv'; subst hv9'))))
  k_with "NE" => (exact fresh_ne (by assumption) (by assumption) (by k_mem))
  k_with "MYCALL0" => ((case k1 => k_asm); (case k2 => k_asm); (case k3 => k_asm); (case k4 => k_asm); (case k5 => k_asm); (case k6 => first | exact rfl | assumption); (case k7 => ktr_room); (case k8 => ktr_units); (case k9 => first | exact trivial | k_extra "PRE"))
  k_with "MYCOMP" => (k_dflt (refine LCg.ListComp_U (F₀ := by k_asm) (by rfl) (by decide) (by rfl) (by decide) (by rfl) ?_); k_dflt lcg_toSrc)
  trivial
--end
example : True := by
  k_with "binaryOp Mult ref int" => (k_dflt (refine' mul_lit ?f ?n ?m ?h0 ?h1 ?e ?_; (case f => k_asm); (case n => k_asm); (case m => k_mem); (case h0 => decide); (case h1 => decide); (case e => first | exact (rfl : _ = #[_, _]) | exact (rfl : _ = #[])); intro D' h' F' N' l1; (try k_lt l1)))
  k_with "CompSrc" => (k_dflt (refine LCg.CompSrc.range (n := 1) (by rfl) (by k_asm) (by k_asm) (by assumption) (by first | decide | rfl) (by first | rfl | decide) (by rw [sizeLine_eq]; decide) ?_); intro g'; lcg_lit)
  k_with "eval Name" => (k_here; (with_reducible show wpAny _ _ (eval (Expr.Name _ _) (compEnvC _ _ _ _)) _ _ _); k_dflt (refine' ld_cell ?n ?c ?m ?d ?_ ?a ?b ?e; (case n => k_asm); (case a => rfl); (case b => rfl); (case e => decide); (case c => rfl); (case m => k_mem); (case d => rfl)))
  k_with "PREM" => (exact ⟨CodeIn.keeps (by assumption) hg9, RowIn.keeps (by assumption) hg9, TableIn.keeps (by assumption) hg9, hn9 (_, _) (by k_mem) (by k_ne) (by k_ne)⟩)
  k_with "PRE" => (refine' ⟨?_, ?_, ?_⟩; exact ((by assumption : News _ _ _ _) (mm, _) (by k_mem)).1; exact ((by assumption : News _ _ _ _) (dm, _) (by k_mem)).1; exact ((by assumption : News _ _ _ _) (_, _) (by k_mem)).1)
  k_with "call ref" => (k_dflt (refine' SpecM.use2 (c_run _ _ dm cd rl x tb _ _ _ _ rs f ns _ _ _ _ _ _ _ _ _ _ _ _ _ _ _ _ _ _ _ _ ?hst ?hp ?hne) ?k1 ?k2 ?k3 ?k4 ?k5 ?k6 ?k7 ?k8 ?k9 ?k10 ?k11 ?_; k_extra "MYMUT2"; (case hst => omega); (case hp => omega); (case hne => assumption); intro v9 nw9 h9 tk9 F9 U9 N9 S9 hp9; obtain ⟨tn9, z6, z3, ht9, hn9, hv9⟩ := hp9; subst hn9; (replace U9 := U9 _ (List.Mem.tail _ (List.Mem.head _))); clear N9 S9; (try dsimp only at U9); ((split at hv9 <;> first | (obtain ⟨t9, hv9⟩ := hv9; subst hv9) | subst hv9) <;> (try dsimp only) <;> (try k_fold))))
  k_with "call ref" => (k_dflt (refine' Spec.use (c_span _ _ dm _ _ _ _ _ _ _ _ _ _ _ _ _ _ _ _ _ ?hk ?h0 ?h1 _ _ _ _ _ _ _ _ _ _ _ _ _ _ _) ?k1 ?k2 ?k3 ?k4 ?k5 ?k6 ?k7 ?k8 ?k9 ?_; k_extra "MYCALL0"; (case hk => rfl); (case h0 => assumption); (case h1 => exact Int.add_nonneg (by assumption) (Int.natCast_nonneg _)); intro v9 nw9 h9 tk9 F9 N9 ha9 hs9 hp9; obtain ⟨d9, t9, u9, hv9, hn9⟩ := hp9; subst hv9; subst hn9; (simp only [List.cons_append, List.nil_append] at N9); (replace ha9 := ha9 _ (List.Mem.head _)); clear hs9; (try dsimp only); (try k_fold)))
  trivial
set_option maxHeartbeats 2000000 in
theorem c_match_at (w : World) (mm dm cd rl x tb kept marks choices changes : Addr) (rs : List RRow) (f : Bool) (ns : List Int) (steps taken limit₀ place limit : Int) (tp tl t1 t2 t3 t4 t5 t6 t7 t8 t9 t10 t11 u1 u2 u3 u4 : Tok) (hst : taken + 100 ≤ steps) (hp : 0 ≤ place) (hne : @LT.lt Nat _ dm mm) :
    SpecM w 16 160 (nat_lit 205) [.ref mm, .int place tp, .int limit tl] [(mm, instObj 269 dm), (dm, machO w.params cd x tb steps taken limit₀ kept marks choices changes t1 t2 t3 t4 t5 t6 t7 t8 t9 t10 t11 u1 u2 u3 u4)]
      (fun g => CodeIn g cd rl rs f ∧ RowIn g x ns ∧ TableIn g tb)
      (fun v nw => (mm, instObj 269 dm) ∈ nw ∧ ∃ o' fnd taken', taken' ≤ taken + 100 ∧ MachD w.params o' cd x tb steps taken' limit ∧ nw = (mm, instObj 269 dm) :: (dm, o') :: fnd ∧ FoundAs (tryB f ns rs limit place) v fnd) := by
  unfold SpecM; k_fill; intros; rename_i hg hpre hret
  obtain ⟨hC, hx, hT⟩ := hpre
  have hC' := hC; obtain ⟨hf, hrl, vs, td, u, hlist, htd, hvl, hrows⟩ := hC'
  have hf' := hf; obtain ⟨dc, e1, e2, e3, e4, v1, v2, v3, v4, v5, v6, hc, hdc⟩ := hf'
  refine wpAny_call ?_
  k_extra "ENTERMC"
  k_extra "STEPSC"
  · k_extra "MYCOMP"
    k_extra "STEPSC"
    have hka : ∀ v fnd, FoundAs (some (place, place + rs.length)) v fnd → FoundAs (tryB f ns rs limit place) v fnd := fun v fnd e => by unfold tryB; rw [if_pos (by assumption)]; exact e
    refine' fin_m (nw := [_, _, _, _]) hret ?kf ?kn ?km ?ko ?kp ?ks ⟨.head _, _, _, _, ht9, ⟨_, _, _, _, _, _, _, _, _, _, _, _, _, _, _, _, _, _, _, rfl⟩, rfl, hka _ _ ⟨_, _, _, _, _, rfl, rfl⟩⟩
    k_extra "FIN5"
    case ks => k_extra "SUBN"
  · refine' fin_m (nw := [_, _]) hret ?kf ?kn ?km ?ko ?kp ?ks ⟨.head _, _, [], _, ht9, ⟨_, _, _, _, _, _, _, _, _, _, _, _, _, _, _, _, _, _, _, rfl⟩, rfl, ?ka⟩
    k_extra "FIN5"
    case ks => k_extra "SUBN"
    case ka => unfold tryB; rw [if_neg (by assumption)]; exact ⟨rfl, rfl⟩

noncomputable def MachU (P : Params) (o : Obj) (cd x tb : Addr) : Prop := ∃ steps taken limit, MachD P o cd x tb steps taken limit
example : True := by
  k_with "PREM" => (exact ⟨CodeIn.keeps (by assumption) hg9, RowIn.keeps (by assumption) hg9, TableIn.keeps (by assumption) hg9⟩)
  k_with "call ref" => (k_dflt (refine' SpecM.use2 (c_match_at _ _ dm cd rl x tb _ _ _ _ rs f ns _ _ _ _ _ _ _ _ _ _ _ _ _ _ _ _ _ _ _ _ _ _ ?hst ?hp ?hne) ?k1 ?k2 ?k3 ?k4 ?k5 ?k6 ?k7 ?k8 ?k9 ?k10 ?k11 ?_; k_extra "MYMUT2"; (case hst => omega); (case hp => assumption); (case hne => assumption); intro v9 nw9 h9 tk9 F9 U9 N9 S9 hp9; obtain ⟨o9, f9, tn9, ht9, hD9, hn9, hf9⟩ := hp9; subst hn9; clear U9 S9; (try dsimp only); (try k_fold)))
  trivial
theorem c_tried_at (w : World) (mm dm cd rl x tb : Addr) (o : Obj) (rs : List RRow) (f : Bool) (ns : List Int) (place limit : Int) (tp tl : Tok) (hD : MachU w.params o cd x tb) (hp : 0 ≤ place) (hne : @LT.lt Nat _ dm mm) :
    SpecM w 18 192 (nat_lit 212) [.ref mm, .int place tp, .int limit tl] [(mm, instObj 269 dm), (dm, o)]
      (fun g => CodeIn g cd rl rs f ∧ RowIn g x ns ∧ TableIn g tb)
      (fun v nw => (mm, instObj 269 dm) ∈ nw ∧ ∃ o' fnd, MachU w.params o' cd x tb ∧ nw = (mm, instObj 269 dm) :: (dm, o') :: fnd ∧ FoundAs (tryB f ns rs limit place) v fnd) := by
  obtain ⟨steps, taken, limit₀, kept, marks, choices, changes, t1, t2, t3, t4, t5, t6, t7, t8, t9, t10, t11, u1, u2, u3, u4, rfl⟩ := hD
  unfold SpecM; k_fill; intros; rename_i hg hpre hret
  obtain ⟨hC, hx, hT⟩ := hpre
  refine wpAny_call ?_
  k_extra "ENTERM"
  k_extra "STEPSC"
  refine' fin_m hret ?kf ?kn ?km ?ko ?kp (fun _ h => h) ⟨.head _, _, _, ⟨_, _, _, hD9⟩, rfl, hf9⟩
  k_extra "FIN5"
noncomputable def reFwd (f : Bool) (ns : List Int) (rs : List RRow) (place bound : Int) : Option (Int × Int) :=
  (firstN (fun i => runB f ns rs (min bound ns.length) (place + i)) (min bound ns.length + 1 - place).toNat).map fun (i : Nat) => (place + i, place + i + rs.length)
noncomputable def reBwd (f : Bool) (ns : List Int) (rs : List RRow) (place bound : Int) : Option (Int × Int) :=
  (firstN (fun i => runB f ns rs place (place - i)) (place - (max bound 0 - 1)).toNat).map fun (i : Nat) => (place - i, place - i + rs.length)
--reg
example : True := by
  k_with "MYMUT3" => ((case k1 => k_asm); (case k2 => k_asm); (case k3 => k_asm); (case k4 => k_asm); (case k5 => k_asm); (case k9 => first | exact UpdF.tail (p := (mm, instObj 269 dm)) (Nat.ne_of_gt hlt9) (UpdF.head hoffD) | k_updF); (case k6 => first | exact rfl | assumption); (case k7 => ktr_room); (case k8 => ktr_units); (case k10 => k_mem); (case k11 => (intro g9 hg9 hn9; first | exact trivial | k_extra "PREM")))
  trivial
--end
example : True := by
  k_with "call ref" => (k_dflt (refine' Spec.use (c_machine _ _ _ _ _) ?k1 ?k2 ?k3 ?k4 ?k5 ?k6 ?k7 ?k8 ?k9 ?_; k_extra "MYCALL"; obtain ⟨mm, dm, o9, hv9, hlt9, hn9, hD9⟩ := hp9; subst hv9; subst hn9; (simp only [List.cons_append, List.nil_append] at N9); clear ha9 hs9; (try dsimp only); (try k_fold)))
  k_with "call ref" => (k_dflt (refine' SpecM.use2 (c_tried_at _ _ dm cd rl x tb _ rs f ns _ _ _ _ hU ?hp ?hne) ?k1 ?k2 ?k3 ?k4 ?k5 ?k6 ?k7 ?k8 ?k9 ?k10 ?k11 ?_; k_extra "MYMUT3"; (case hp => omega); (case hne => assumption); intro v9 nw9 h9 tk9 F9 U9 N9 S9 hp9; obtain ⟨o9, f9, hD9, hn9, hf9⟩ := hp9; subst hn9; (replace U9 := U9 _ (List.Mem.tail _ (List.Mem.head _))); clear S9; (try dsimp only at U9); unfold tryB at hf9; (split at hf9 <;> (first | (obtain ⟨l9, d9, t9, u9, k9, hv9, hn9⟩ := hf9; subst hv9; subst hn9; clear U9; skip) | (obtain ⟨hn9, hv9⟩ := hf9; subst hv9; subst hn9; clear N9; skip)) <;> (try dsimp only) <;> (try k_fold))))
  trivial
theorem c_re_forward (w : World) (x tb cd rl : Addr) (rs : List RRow) (f : Bool) (ns : List Int) (place bound : Int) (tp tb' tq : Tok) (hp0 : 0 ≤ place) (hp : place ≤ ns.length) (hb0 : 0 ≤ bound) (hb : bound ≤ ns.length) :
    Spec w 20 224 (nat_lit 301) [.ref x, .ref tb, .int place tp, .ref cd, .int bound tb', .int 0 tq] (fun h => CodeIn h cd rl rs f ∧ RowIn h x ns ∧ TableIn h tb) (fun v nw => FoundAs (reFwd f ns rs place bound) v nw) := by
  unfold Spec; k_fill; intros; rename_i hpre hret
  obtain ⟨hC, hx, hT⟩ := hpre
  have hx' := hx; obtain ⟨dx, l, e1, e2, t1, t2, t3, n, vs', hx1, hdx, hl', hi', hlen'⟩ := hx'
  refine wpAny_call ?_
  k_extra "ENTER"
  k_extra "STEPS"
  have hnl : ¬ ((ns.length : Int) < bound) := by omega
  simp only [if_neg hnl] at *
  with_unfolding_all refine range_up (fun o : Obj => [(mm, instObj 269 dm), (dm, o)]) [Str.ofString "found"] (fun i o => MachU w.params o cd x tb ∧ ∀ j : Nat, j < i → runB f ns rs bound (place + j) = false) o9 rfl (by assumption) (by omega) (by k_asm) (by assumption) (fun _ => rfl) ⟨⟨_, _, _, hD9⟩, fun j hj => absurd hj (Nat.not_lt_zero _)⟩ ?_ ?_
  · intro c i t u h tk own hlt hoff hP F N
    have hU := hP.1
    have hU' := hU
    obtain ⟨steps, taken, limit₀, kept, marks, choices, changes, t1, t2, t3, t4, t5, t6, t7, t8, t9, t10, t11, u1, u2, u3, u4, rfl⟩ := hU'
    have hoffD : ∀ p ∈ own, @Ne Nat p.1 dm := fun p hp => hoff p hp dm (.tail _ (.head _))
    clear hoff
    simp only [List.cons_append, List.nil_append] at N
    (try dsimp only)
    (try k_fold)
    k_extra "STEPS"
    · have hka : ∀ v fnd, FoundAs (some (place + i, place + i + rs.length)) v fnd → FoundAs (reFwd f ns rs place bound) v fnd := fun v fnd e => by
        unfold reFwd; rw [show min bound (ns.length : Int) = bound by omega, firstN_some hP.2 (by assumption) (by omega)]; exact e
      refine' fin_sub (nw := [_, _]) hret ?kf ?kn ?km ?ko ?kp ?ks (hka _ _ ⟨_, _, _, _, _, rfl, rfl⟩)
      k_extra "FIN5"
      case ks => k_extra "SUBN"
    · refine' turn_endG _ ?kf ?kn ?ko ?kl ⟨hD9, ?kq⟩ ?km
      case kf => k_asm
      case kn => assumption
      case ko => exact fun p hp => .tail _ (.tail _ hp)
      case kl => k_extra "SUBN"
      case km => k_extra "SAME"
      case kq =>
        intro j hj
        by_cases e : j = i
        · subst e; simpa using ‹¬ runB _ _ _ _ _ = true›
        · exact hP.2 j (by omega)
  · intro c u h tk hP F N
    (try dsimp only)
    k_extra "STEPS"
    refine' fin_nofound hret ?_ ?kf ?ko ?kp
    case kf => k_asm
    case ko => assumption
    case kp => assumption
    unfold reFwd
    rw [show min bound (ns.length : Int) = bound by omega, firstN_none (fun j hj => hP.2 j (by omega))]; rfl
theorem c_re_backward (w : World) (x tb cd rl : Addr) (rs : List RRow) (f : Bool) (ns : List Int) (place bound : Int) (tp tb' tq : Tok) (hp0 : 0 ≤ place) (hp : place ≤ ns.length) (hb0 : 0 ≤ bound) (hb : bound ≤ ns.length) :
    Spec w 20 224 (nat_lit 308) [.ref x, .ref tb, .int place tp, .ref cd, .int bound tb', .int 0 tq] (fun h => CodeIn h cd rl rs f ∧ RowIn h x ns ∧ TableIn h tb) (fun v nw => FoundAs (reBwd f ns rs place bound) v nw) := by
  unfold Spec; k_fill; intros; rename_i hpre hret
  obtain ⟨hC, hx, hT⟩ := hpre
  have hx' := hx; obtain ⟨dx, l, e1, e2, t1, t2, t3, n, vs', hx1, hdx, hl', hi', hlen'⟩ := hx'
  refine wpAny_call ?_
  k_extra "ENTER"
  k_extra "STEPS"
  with_unfolding_all refine range_down (fun o : Obj => [(mm, instObj 269 dm), (dm, o)]) [Str.ofString "found"] (fun i o => MachU w.params o cd x tb ∧ ∀ j : Nat, j < i → runB f ns rs place (place - j) = false) o9 rfl (by assumption) (by omega) (by k_asm) (by assumption) (fun _ => rfl) ⟨⟨_, _, _, hD9⟩, fun j hj => absurd hj (Nat.not_lt_zero _)⟩ ?_ ?_
  · intro c i t u h tk own hlt hoff hP F N
    have hU := hP.1
    have hU' := hU
    obtain ⟨steps, taken, limit₀, kept, marks, choices, changes, t1, t2, t3, t4, t5, t6, t7, t8, t9, t10, t11, u1, u2, u3, u4, rfl⟩ := hU'
    have hoffD : ∀ p ∈ own, @Ne Nat p.1 dm := fun p hp => hoff p hp dm (.tail _ (.head _))
    clear hoff
    simp only [List.cons_append, List.nil_append] at N
    (try dsimp only)
    (try k_fold)
    k_extra "STEPS"
    · have hka : ∀ v fnd, FoundAs (some (place - i, place - i + rs.length)) v fnd → FoundAs (reBwd f ns rs place bound) v fnd := fun v fnd e => by
        unfold reBwd; rw [firstN_some hP.2 (by assumption) (by omega)]; exact e
      refine' fin_sub (nw := [_, _]) hret ?kf ?kn ?km ?ko ?kp ?ks (hka _ _ ⟨_, _, _, _, _, rfl, rfl⟩)
      k_extra "FIN5"
      case ks => k_extra "SUBN"
    · refine' turn_endG _ ?kf ?kn ?ko ?kl ⟨hD9, ?kq⟩ ?km
      case kf => k_asm
      case kn => assumption
      case ko => exact fun p hp => .tail _ (.tail _ hp)
      case kl => k_extra "SUBN"
      case km => k_extra "SAME"
      case kq =>
        intro j hj
        by_cases e : j = i
        · subst e; simpa using ‹¬ runB _ _ _ _ _ = true›
        · exact hP.2 j (by omega)
  · intro c u h tk hP F N
    (try dsimp only)
    k_extra "STEPS"
    refine' fin_nofound hret ?_ ?kf ?ko ?kp
    case kf => k_asm
    case ko => assumption
    case kp => assumption
    unfold reBwd
    rw [firstN_none (fun j hj => hP.2 j (by omega))]; rfl
--reg
example : True := by
  k_with "call ref" => (k_dflt (refine' Spec.use (c_re_forward _ _ _ _ rl rs f ns _ _ _ _ _ ?h0 ?h1 ?h2 ?h3) ?k1 ?k2 ?k3 ?k4 ?k5 ?k6 ?k7 ?k8 ?k9 ?_; k_extra "MYCALL0"; (case h0 => omega); (case h1 => omega); (case h2 => omega); (case h3 => omega); k_extra "GOTFOUND"))
  k_with "call ref" => (k_dflt (refine' Spec.use (c_re_backward _ _ _ _ rl rs f ns _ _ _ _ _ ?h0 ?h1 ?h2 ?h3) ?k1 ?k2 ?k3 ?k4 ?k5 ?k6 ?k7 ?k8 ?k9 ?_; k_extra "MYCALL0"; (case h0 => omega); (case h1 => omega); (case h2 => omega); (case h3 => omega); k_extra "GOTFOUND"))
  k_with "call ref" => (k_dflt (refine' Spec.use (c_search_forward _ _ _ _ _ ns ws _ _ _ ?h0 ?h1 ?h2 ?h3) ?k1 ?k2 ?k3 ?k4 ?k5 ?k6 ?k7 ?k8 ?k9 ?_; k_extra "MYCALL0"; (case h0 => omega); (case h1 => omega); (case h2 => omega); (case h3 => omega); k_extra "GOTFOUND"))
  k_with "call ref" => (k_dflt (refine' Spec.use (c_search_backward _ _ _ _ _ ns ws _ _ _ ?h0 ?h1 ?h2 ?h3) ?k1 ?k2 ?k3 ?k4 ?k5 ?k6 ?k7 ?k8 ?k9 ?_; k_extra "MYCALL0"; (case h0 => omega); (case h1 => omega); (case h2 => omega); (case h3 => omega); k_extra "GOTFOUND"))
  trivial
--end
section
variable {prog : Program} {w : World} {A : Around} {E : Value → Shared → Prop} {s : Shared} {env : Env} {h₀ : Heap} {L : Addr} {Q : Flow → Shared → Prop} {body : List Stmt} {x : Str}
/-- a turn's end in a loop with an invariant over the frame's map and the ledger -/
noncomputable def JEnd (h₀ : Heap) (L : Addr) (J : (Str → Option Value) → List (Addr × Obj) → Prop) (nx own : List (Addr × Obj)) (s : Shared) (Q : Flow → Shared → Prop) (f : Flow) (s₂ : Shared) : Prop :=
  match f with
  | .ret v => Q (.ret v) s₂
  | .brk => Q .next s₂
  | _ => ∃ h' tk m' news' nx', s₂ = { s with heap := h', toks := tk } ∧ Fr h₀ L h' m' ∧ News h₀ L h' news' ∧ (∀ p ∈ nx', p ∈ news') ∧ (∀ p ∈ own, p ∈ news') ∧ (∀ p ∈ nx', (∃ q ∈ nx, q.1 = p.1) ∨ s.heap.get? p.1 = none) ∧ J m' nx'
theorem jend_ret {J : (Str → Option Value) → List (Addr × Obj) → Prop} {nx own : List (Addr × Obj)} {v : Value} {s₂ : Shared} (h : Q (.ret v) s₂) : JEnd h₀ L J nx own s Q (.ret v) s₂ := h
theorem jend_next {J : (Str → Option Value) → List (Addr × Obj) → Prop} {nx own news' : List (Addr × Obj)} {h' : Heap} {tk : Nat} {m' : Str → Option Value} (nx' : List (Addr × Obj)) (F : Fr h₀ L h' m') (N : News h₀ L h' news') (hs : ∀ p ∈ nx', p ∈ news') (ho : ∀ p ∈ own, p ∈ news')
    (hf : ∀ p ∈ nx', (∃ q ∈ nx, q.1 = p.1) ∨ s.heap.get? p.1 = none) (hJ : J m' nx') : JEnd h₀ L J nx own s Q .next { s with heap := h', toks := tk } := ⟨h', tk, m', news', nx', rfl, F, N, hs, ho, hf, hJ⟩
theorem range_J {r : Addr} {a₀ b₀ : Int} {t₀ u₀ v₀ : Tok} {m₀ : Str → Option Value} {news₀ news' : List (Addr × Obj)} (J : Nat → (Str → Option Value) → List (Addr × Obj) → Prop) (hh : A.handled = none) (hr : IsRange s.heap r a₀ b₀ 1 t₀ u₀ v₀)
    (ha : -(2 ^ 62) ≤ a₀ ∧ a₀ < 2 ^ 62 ∧ -(2 ^ 62) ≤ b₀ ∧ b₀ < 2 ^ 62) (F : Fr h₀ env.locals s.heap m₀) (N : News h₀ env.locals s.heap news') (hs : ∀ p ∈ news₀, p ∈ news') (hj : J 0 m₀ news₀)
    (turn : ∀ (i : Nat) t m₁ nx h tk own, a₀ + i < b₀ → J i m₁ nx → (∀ p ∈ own, ∀ q ∈ nx, q.1 ≠ p.1) → Fr h₀ env.locals h (fun y => if y = x then some (.int (a₀ + i) t) else m₁ y) → News h₀ env.locals h (nx ++ own) →
      wpAny (model prog w) A (execs body env) (JEnd h₀ env.locals (J (i + 1)) nx own { s with heap := h, toks := tk } Q) E { s with heap := h, toks := tk })
    (done : ∀ m₁ nx h tk, J (b₀ - a₀).toNat m₁ nx → Fr h₀ env.locals h m₁ → News h₀ env.locals h nx → Q .next { s with heap := h, toks := tk }) :
    wpAny (model prog w) A (pyIter (.ref r)) (fun it s₂ => LoopAtV prog w A h₀ env x body Q E it s₂) E s := by
  refine wpAny_pyIter_range hr (small_one ha.1 ha.2.1 ha.2.2.1 ha.2.2.2) ?_
  have W : Walks prog w A s.heap.objs.size [s.heap.objs.size] [s.heap.objs.size] (b₀ - a₀).toNat (fun i v => i < (b₀ - a₀).toNat ∧ ∃ t, v = .int (a₀ + i * 1) t)
      (fun i h => IsRangeIter h s.heap.objs.size (a₀ + (i : Nat) * 1) (((b₀ - a₀).toNat : Int) - (i : Nat)) 1) := (Walks.range hh _ a₀ 1 (b₀ - a₀).toNat).bound
  have N₀ : News h₀ env.locals s.heap news₀ := fun p hp => N p (hs p hp)
  refine ⟨_, _, _, _, _, _, m₀, news₀, J, rfl, W, ?_, ?_, ?_, (by show IsRangeIter _ _ _ _ _; rw [rangeSize_nat]; simpa using Heap.get?_push_size _ rfl), F.push _, fun p hp => ⟨Heap.get?_push_of_some _ (N₀ p hp).1, (N₀ p hp).2⟩, hj, ?_, ?_⟩
  · intro hm
    exact absurd F.ns.lt ((List.mem_singleton.mp hm) ▸ Nat.lt_irrefl _)
  · intro b hb
    rw [List.mem_singleton.mp hb]
    exact next_is_new F
  · intro p hp hI
    exact absurd (Heap.lt_size (N₀ p hp).1) ((List.mem_singleton.mp hI) ▸ Nat.lt_irrefl _)
  · rintro i v m₁ nx s₁ own ⟨hh', tk', rfl⟩ hin ⟨_, t, rfl⟩ hJ hoff hown hat _ hst F₁ N₁
    have e1 : a₀ + (i : Int) * 1 = a₀ + (i : Int) := by omega
    rw [e1] at F₁
    have N₂ : News h₀ env.locals hh' (nx ++ own) := fun p hp => N₁ p ((List.mem_append.mp hp).elim (fun h => List.mem_append.mpr (.inr h)) fun h => List.mem_append.mpr (.inl h))
    have hI : hh'.get? s.heap.objs.size = some _ := hst
    refine wpAny_mono (turn i t m₁ nx hh' tk' own (by omega) hJ (fun p hp q hq e => hoff q hq (e ▸ hown p hp)) F₁ N₂) (fun f s₂ p => ?_) fun _ _ e => e
    have fin : ∀ {f}, (f = Flow.next ∨ f = Flow.cont) → JEnd h₀ env.locals (J (i + 1)) nx own { s with heap := hh', toks := tk' } Q f s₂ → LoopStepU h₀ env.locals [s.heap.objs.size] own (J (i + 1)) { s with heap := hh', toks := tk' } .next s₂ := by
      rintro f hf p
      have p' : ∃ h' tk m' news' nx', s₂ = { s with heap := h', toks := tk } ∧ Fr h₀ env.locals h' m' ∧ News h₀ env.locals h' news' ∧ (∀ p ∈ nx', p ∈ news') ∧ (∀ p ∈ own, p ∈ news') ∧ (∀ p ∈ nx', (∃ q ∈ nx, q.1 = p.1) ∨ hh'.get? p.1 = none) ∧ J (i + 1) m' nx' := by
        rcases hf with rfl | rfl <;> exact p
      obtain ⟨h', tk, m', news', nx', e, F', N', h1, h2, h3, h4⟩ := p'
      refine ⟨rfl, h', tk, m', nx', e, F', fun p hp => N' p ((List.mem_append.mp hp).elim (h2 p) (h1 p)), fun p hp hq => ?_, h4⟩
      rcases h3 p hp with ⟨q, hq1, hq2⟩ | h3
      · exact hoff q hq1 (hq2 ▸ hq)
      · rw [List.mem_singleton.mp hq, hI] at h3; cases h3
    cases f with
    | ret v => exact .ret p
    | brk => exact .brk p
    | next => exact .next (fin (.inl rfl) p)
    | cont => exact .cont (fin (.inr rfl) p)
  · rintro h' tk m' news' F' N' _ hJ
    exact done m' news' h' tk hJ F' N'
end
--reg
example : True := by
  k_with "JEnd" => (with_reducible refine jend_ret ?_)
  trivial
--end
theorem found_cases {r : Option (Int × Int)} {v : Value} {nw : List (Addr × Obj)} (h : FoundAs r v nw) : (r = none ∧ nw = [] ∧ v = .none) ∨ ∃ a b l d t u k, r = some (a, b) ∧ v = .ref l ∧ nw = [(l, listOf #[.ref d] k), (d, tupII a b t u)] := by
  rcases r with _ | ⟨a, b⟩
  · exact .inl ⟨rfl, h⟩
  · obtain ⟨l, d, t, u, k, h1, h2⟩ := h; exact .inr ⟨a, b, l, d, t, u, k, rfl, h1, h2⟩
noncomputable def againV (g : Int → Option (Int × Int)) (pos : Bool) : Nat → Int → Option (Int × Int) → Option (Int × Int)
  | 0, _, last => last
  | n + 1, p, _ => match g p with
    | none => none
    | some (a, b) => if (if pos then b else a) = p then some (a, b) else againV g pos n (if pos then b else a) (some (a, b))
--reg
example : True := by
  k_with "GOTFOUND" => (intro v9 nw9 h9 tk9 F9 N9 ha9 hs9 hp9; ((rcases found_cases hp9 with ⟨hr9, hn9, hv9⟩ | ⟨a9, b9, l9, d9, t9, u9, k9, hr9, hv9, hn9⟩) <;> subst hv9 <;> subst hn9 <;> (try simp only [List.cons_append, List.nil_append] at N9) <;> clear hs9 hp9 <;> (try dsimp only) <;> (try k_fold)))
  trivial
--end
theorem canonAgain {m' : Str → Option Value} {p p' : Int} {t : Tok} {fv c cv : Value} (h1 : m' (Str.ofString "place") = some (.int p t)) (hk : p = p') (h2 : m' (Str.ofString "found") = some fv) (h3 : m' (Str.ofString "search") = some c) (h4 : m' (Str.ofString "count") = some cv) :
    m' = fun y => if y = Str.ofString "place" then some (.int p' t) else if y = Str.ofString "found" then some fv else if y = Str.ofString "search" then some c else if y = Str.ofString "count" then some cv else m' y := by
  subst hk
  funext y
  by_cases e : y = Str.ofString "place"
  · simp only [e, if_true]; exact h1
  · simp only [e, if_false]
    by_cases e2 : y = Str.ofString "found"
    · simp only [e2, if_true]; exact h2
    · simp only [e2, if_false]
      by_cases e3 : y = Str.ofString "search"
      · simp only [e3, if_true]; exact h3
      · simp only [e3, if_false]
        by_cases e4 : y = Str.ofString "count"
        · simp only [e4, if_true]; exact h4
        · simp only [e4, if_false]
example : True := by
  k_with "PRE" => (exact hmono _ _ (Fr.keep (by k_asm)) hpre)
  k_with "callWith ref" => (k_dflt (refine' callWith_F ?k1 ?_; (case k1 => exact hfn _ (hmono _ _ (Fr.keep (by k_asm)) hpre)); k_whole))
  k_with "FnAt" => (k_dflt (exact hfn _ (hmono _ _ (Fr.keep (by k_asm)) hpre)))
  k_with "call ref" => (k_dflt (refine' Spec.use (hla _ _ ?h0 ?h1) ?k1 ?k2 ?k3 ?k4 ?k5 ?k6 ?k7 ?k8 ?k9 ?_; k_extra "MYCALL0"; (case h0 => omega); (case h1 => omega); k_extra "GOTFOUND"))
  trivial
inductive AgainJ (la : Addr) (g : Int → Option (Int × Int)) (pos : Bool) (n : Nat) (place hi count : Int) (tc : Tok) (i : Nat) (m : Str → Option Value) (nx : List (Addr × Obj)) : Prop
  | mk (p : Int) (t : Tok) (r : Option (Int × Int)) (fv : Value) (u : Str → Option Value) (j1 : i ≤ n) (j2 : 0 ≤ p) (j3 : p ≤ hi) (j4 : againV g pos (n - i) p r = againV g pos n place none) (j5 : FoundAs r fv nx)
    (j6 : m = fun y => if y = Str.ofString "place" then some (Value.int p t) else if y = Str.ofString "found" then some fv else if y = Str.ofString "search" then some (Value.ref la) else if y = Str.ofString "count" then some (Value.int count tc) else u y)
theorem c_again (w : World) (la : Addr) (g : Int → Option (Int × Int)) (pos : Bool) (n : Nat) (place count hi : Int) (tp tc : Tok) (pre : Heap → Prop) (hmono : ∀ h h' : Heap, h.StaysIn h' → pre h → pre h') (hfn : ∀ h, pre h → FnAt la h)
    (hla : ∀ p t, 0 ≤ p → p ≤ hi → Spec w 24 256 la [.int p t] pre (fun v nw => FoundAs (g p) v nw)) (hg : ∀ p a b, 0 ≤ p → p ≤ hi → g p = some (a, b) → 0 ≤ a ∧ a ≤ hi ∧ 0 ≤ b ∧ b ≤ hi)
    (hn : n ≤ 3) (hc : count = if pos then (n : Int) else -(n : Int)) (hn0 : 0 < n) (hp0 : 0 ≤ place) (hp : place ≤ hi) :
    Spec w 26 288 (nat_lit 315) [.ref la, .int place tp, .int count tc] pre (fun v nw => FoundAs (againV g pos n place none) v nw) := by
  unfold Spec; k_fill; intros; rename_i hpre hret
  refine wpAny_call ?_
  k_extra "ENTER"
  k_extra "STEPS"
  have hb : (if count < 0 then -count else count) = (n : Int) := by rw [hc]; cases pos <;> simp <;> omega
  simp only [hb] at *
  with_unfolding_all refine range_J (AgainJ la g pos n place hi count tc) rfl (by assumption) (by omega) (by k_asm) (by assumption) (fun _ h => h) ⟨place, _, none, _, _, Nat.zero_le _, hp0, hp, rfl, ⟨rfl, rfl⟩, canonAgain rfl rfl rfl rfl rfl⟩ ?turn ?done
  case turn =>
      intro i t m₁ nx h tk own hlt hJ hoff F N
      obtain ⟨p, tp', r, fv, u, hi', h0, h1, hag, hfd, rfl⟩ := hJ
      have hlt' : i + 1 ≤ n := by omega
      obtain ⟨k, hk⟩ : ∃ k, n - i = k + 1 := ⟨n - i - 1, by omega⟩
      have hk' : n - (i + 1) = k := by omega
      rw [hk] at hag
      (try dsimp only)
      (try k_fold)
      k_extra "STEPS"
      · refine' fin_nofound hret ?ke ?kf ?ko ?kp
        case kf => k_asm
        case ko => assumption
        case kp => assumption
        case ke => rw [← hag]; simp [againV, hr9]
      · have hpos : pos = true := by cases pos <;> simp at hc ⊢ <;> omega
        have hka : ∀ v fnd, FoundAs (some (a9, b9)) v fnd → FoundAs (againV g pos n place none) v fnd := fun v fnd e => by
          have e2 : againV g pos n place none = some (a9, b9) := by
            rw [← hag]; (have he9 : b9 = p := by assumption); simp [againV, hr9, hpos, he9]
          rw [e2]; exact e
        refine' fin_sub (nw := [_, _]) hret ?kf ?kn ?km ?ko ?kp ?ks (hka _ _ ⟨_, _, _, _, _, rfl, rfl⟩)
        k_extra "FIN5"
        case ks => k_extra "SUBN"
      · have hpos : pos = true := by cases pos <;> simp at hc ⊢ <;> omega
        have hgr := hg _ _ _ h0 h1 hr9
        refine' jend_next [_, _] ?kf ?kn ?ks ?ko (fun q hq => .inr (ha9 q hq)) ⟨_, _, some (a9, b9), _, _, hlt', hgr.2.2.1, hgr.2.2.2, ?ke, ⟨_, _, _, _, _, rfl, rfl⟩, ?kc⟩
        case kf => k_asm
        case kn => assumption
        case kc => (refine' canonAgain ?a1 ?a2 ?a3 ?a4 ?a5; (case a1 => exact rfl); (case a2 => exact rfl); (case a3 => exact rfl); (case a4 => exact rfl); (case a5 => exact rfl))
        case ks => k_extra "SUBN"
        case ko => exact fun q hq => .tail _ (.tail _ (List.mem_append_right _ hq))
        case ke =>
          rw [← hag, hk']
          (have he9 : ¬ b9 = p := by assumption); simp [againV, hr9, hpos, he9]
      · have hpos : pos = false := by cases pos <;> simp at hc ⊢ <;> omega
        have hka : ∀ v fnd, FoundAs (some (a9, b9)) v fnd → FoundAs (againV g pos n place none) v fnd := fun v fnd e => by
          have e2 : againV g pos n place none = some (a9, b9) := by
            rw [← hag]; (have he9 : a9 = p := by assumption); simp [againV, hr9, hpos, he9]
          rw [e2]; exact e
        refine' fin_sub (nw := [_, _]) hret ?kf ?kn ?km ?ko ?kp ?ks (hka _ _ ⟨_, _, _, _, _, rfl, rfl⟩)
        k_extra "FIN5"
        case ks => k_extra "SUBN"
      · have hpos : pos = false := by cases pos <;> simp at hc ⊢ <;> omega
        have hgr := hg _ _ _ h0 h1 hr9
        refine' jend_next [_, _] ?kf ?kn ?ks ?ko (fun q hq => .inr (ha9 q hq)) ⟨_, _, some (a9, b9), _, _, hlt', hgr.1, hgr.2.1, ?ke, ⟨_, _, _, _, _, rfl, rfl⟩, ?kc⟩
        case kf => k_asm
        case kn => assumption
        case kc => (refine' canonAgain ?b1 ?b2 ?b3 ?b4 ?b5; (case b1 => exact rfl); (case b2 => exact rfl); (case b3 => exact rfl); (case b4 => exact rfl); (case b5 => exact rfl))
        case ks => k_extra "SUBN"
        case ko => exact fun q hq => .tail _ (.tail _ (List.mem_append_right _ hq))
        case ke =>
          rw [← hag, hk']
          (have he9 : ¬ a9 = p := by assumption); simp [againV, hr9, hpos, he9]
  case done =>
      intro m₁ nx h tk hJ F N
      obtain ⟨p, tp', r, fv, u, hi', h0, h1, hag, hfd, rfl⟩ := hJ
      have hr : r = againV g pos n place none := by rw [← hag, show n - ((n : Int) - 0).toNat = 0 by omega]; rfl
      (try dsimp only)
      k_extra "STEPS"
      refine' fin_sub (nw := nx) hret ?kf ?kn ?km ?ko ?kp (fun _ h => h) (hr ▸ hfd)
      k_extra "FIN5"
inductive Pc | a | b | ab | na | dot
noncomputable def pcodes : Pc → List Int
  | .a => [97] | .b => [98] | .ab => [91, 97, 98, 93] | .na => [91, 94, 97, 93] | .dot => [46]
noncomputable def prow : Pc → RRow
  | .a => .char 97 | .b => .char 98 | .ab => .set false [(97, 97), (98, 98)] | .na => .set true [(97, 97)] | .dot => .any
section
variable {prog : Program} {w : World} {A : Around} {E : Value → Shared → Prop} {s : Shared} {h₀ : Heap} {L : Addr} {m : Str → Option Value}
theorem item_nat {l : Addr} {vs : List Value} {ns : List Int} {k c : Int} {u : Tok} {Q : Value → Shared → Prop} {value slice : Expr} (q : Nat) (F : Fr h₀ L s.heap m) (hl : h₀.IsList l vs.toArray) (hi : IntsAre vs ns) (hb : ns.length ≤ 40) (e : ns[q]? = some c) (hk : k = q)
    (h : ∀ t, Q (.int c t) s) (hs : subscripted slice false (.ref l) (.int k u) = operate [.ref l, .int k u] (getItem (.ref l) (.int k u)) := by with_unfolding_all rfl) :
    wpAny (model prog w) A (subscriptTail value slice (.ref l) (.int k u)) Q E s := by
  subst hk
  have hq := (List.getElem?_eq_some_iff.mp e).1
  refine item_anyK (F.lst hl) hi (by omega) (by omega) (by omega) (fun t => ?_) hs
  have e2 : ns.getD ((q : Nat) : Int).toNat 0 = c := by rw [show ((q : Nat) : Int).toNat = q from rfl, List.getD_eq_getElem?_getD, e]; rfl
  rw [e2]; exact h t
end
theorem inst_mix {h₀ h : Heap} {L x C dx : Addr} {od : Obj} {m : Str → Option Value} {news : List (Addr × Obj)} (hx : h₀.get? x = some (instObj C dx)) (F : Fr h₀ L h m) (N : News h₀ L h news) (hm : (dx, od) ∈ news) : InstAt h x (instObj C dx) C (some od) :=
  ⟨F.keep _ _ hx, rfl, rfl, (N _ hm).1⟩
noncomputable def AllNe (a : Addr) (news : List (Addr × Obj)) : Prop := ∀ p ∈ news, @Ne Nat a p.1
theorem allNe_of {h₀ h : Heap} {L a : Addr} {news : List (Addr × Obj)} (hn : h.get? a = none) (N : News h₀ L h news) : AllNe a news := fun p hp e => by
  have := (N p hp).1; rw [show a = p.1 from e] at hn; rw [hn] at this; cases this
theorem allNe_get {a b : Addr} {o : Obj} {news : List (Addr × Obj)} (z : AllNe a news) (hm : (b, o) ∈ news) : @Ne Nat a b := z _ hm
theorem allNe_tog {a b : Addr} {o : Obj} {news : List (Addr × Obj)} (z : AllNe a news) (hm : (b, o) ∈ news) : @Ne Nat b a := fun e => z _ hm e.symm
local macro_rules | `(tactic| k_inst) => `(tactic| k_extra "KINST")
--reg
example : True := by
  k_with "KNE" => (refine neN ?_; (try dsimp only); first | exact allNe_get (by with_reducible assumption) (by k_mem) | exact allNe_tog (by with_reducible assumption) (by k_mem) | fail)
  k_with "KINST" => (exact inst_mix (by assumption) (by k_asm) (by k_asm) (by k_mem))
  trivial
--end
noncomputable abbrev parsO (P : Params) (cl fl : Addr) (place : Int) (t1 t2 t3 t4 u1 u2 : Tok) : Obj :=
  dictOf [⟨PyData.keyHash P (Str.ofString "codes"), .str (Str.ofString "codes") t1, .ref cl⟩, ⟨PyData.keyHash P (Str.ofString "place"), .str (Str.ofString "place") t2, .int place u1⟩,
    ⟨PyData.keyHash P (Str.ofString "frames"), .str (Str.ofString "frames") t3, .ref fl⟩, ⟨PyData.keyHash P (Str.ofString "groups"), .str (Str.ofString "groups") t4, .int 0 u2⟩] 4
noncomputable abbrev frameO (P : Params) (dl nl : Addr) (b : Bool) (t1 t2 t3 t4 t5 u1 u2 : Tok) : Obj :=
  dictOf [⟨PyData.keyHash P (Str.ofString "word"), .str (Str.ofString "word") t1, .str (Str.ofString "top") u1⟩, ⟨PyData.keyHash P (Str.ofString "number"), .str (Str.ofString "number") t2, .int 0 u2⟩,
    ⟨PyData.keyHash P (Str.ofString "done"), .str (Str.ofString "done") t3, .ref dl⟩, ⟨PyData.keyHash P (Str.ofString "nodes"), .str (Str.ofString "nodes") t4, .ref nl⟩, ⟨PyData.keyHash P (Str.ofString "is_loose"), .str (Str.ofString "is_loose") t5, .bool b⟩] 5
noncomputable def ParsFacts (h : Heap) (pp pd cl fl fp fd : Addr) (ns : List Int) : Prop := h.get? pp = some (instObj 528 pd) ∧ (∃ kf, h.get? fl = some (listOf #[.ref fp] kf)) ∧ h.get? fp = some (instObj 390 fd) ∧ ∃ vs, h.IsList cl vs.toArray ∧ IntsAre vs ns ∧ ns.length ≤ 40
theorem ParsFacts.keeps {h h' : Heap} {pp pd cl fl fp fd : Addr} {ns : List Int} (x : ParsFacts h pp pd cl fl fp fd ns) (k : h.StaysIn h') : ParsFacts h' pp pd cl fl fp fd ns :=
  let ⟨a, ⟨kf, b⟩, c, vs, d, e⟩ := x; ⟨k _ _ a, ⟨kf, k _ _ b⟩, k _ _ c, vs, stays_list k d, e⟩
theorem SpecM.useG {w : World} {D U : Nat} {f : Addr} {args : List Value} {own rest : List (Addr × Obj)} {pre : Heap → Prop} {post : Value → List (Addr × Obj) → Prop} (h : SpecM w D U f args own pre post)
    {p : Program} {loose : List Str} {mean : ExcName → Option Value} {mg mb : Str → Option Value} {dp un : Nat} {gd : Option (List Code)} {cn : Str} {cs : Scope} {a : Addr} {ccd : Value} {cl : List (Str × Addr)} {outer : List Env} {A₀ : Around} {base h₀ : Heap} {L : Addr} {m : Str → Option Value} {news : List (Addr × Obj)} {s : Shared} {Q E : Value → Shared → Prop}
    (B : Below A₀ base outer h₀) (F : Fr h₀ L s.heap m) (X : (K w.params).In h₀) (N : News h₀ L s.heap news) (T : Top p loose mean mg mb h₀) (hk : cs.kind = .function) (hd : dp + D < recursionLimit) (hu : un + U < cLine)
    (hs : ∀ q ∈ own ++ rest, q ∈ news) (hoff : ∀ q ∈ rest, ∀ r ∈ own, @Ne Nat q.1 r.1) (hp : ∀ g, h₀.StaysIn g → (∀ q ∈ rest, g.get? q.1 = some q.2) → pre g)
    (ret : ∀ v nw h' tk', Fr h₀ L h' m → News h₀ L h' (nw ++ rest) → (∀ q ∈ nw, (∃ r ∈ own, q.1 = r.1) ∨ s.heap.get? q.1 = none) → post v nw → Q v { s with heap := h', toks := tk' }) :
    wpAny (model PySem.Challenge.rw_pq0312_01.prog w) (ktrTop dp un gd cn cs L a ccd cl outer) (call (.ref f) args) Q E s := by
  have N' : News h₀ L s.heap (own ++ rest) := fun q hq => N q (hs q hq)
  have hoff' : ∀ q ∈ rest, q.1 ∉ own.map (·.1) := fun q hq e => by
    obtain ⟨r, hr, e⟩ := List.mem_map.mp e
    exact hoff q hq r hr e.symm
  refine h _ _ _ _ _ _ _ _ _ _ _ _ _ _ _ _ _ _ _ _ rest _ _ _ B F X N' T hk hd hu hoff' rfl (hp _ (fun b o e => hideAll_get _ (F.keep b o e) fun q => ?_) fun q hq => hideAll_get _ (N' q (List.mem_append_right _ hq)).1 (hoff' q hq))
    fun v nw h' tk' F' N'' hf S' hpost => ret v nw h' tk' F' N'' (fun q hq => ?_) hpost
  · obtain ⟨r, hr, e'⟩ := List.mem_map.mp q
    have := (N' r (List.mem_append_left _ hr)).2.2
    rw [e', e] at this; cases this
  · by_cases e : q.1 ∈ own.map (·.1)
    · obtain ⟨r, hr, e'⟩ := List.mem_map.mp e; exact .inl ⟨r, hr, e'.symm⟩
    · right
      cases e2 : s.heap.get? q.1 with
      | none => rfl
      | some o => have := hf q hq; rw [hideAll_get _ e2 e] at this; cases this
theorem UpdF.mem {d : Addr} {o o' : Obj} {l : List (Addr × Obj)} {g : Obj → List (Addr × Obj)} (V : UpdF d o l g) {q : Addr × Obj} (hq : q ∈ g o') : q = (d, o') ∨ (q ∈ l ∧ q.1 ≠ d) := by
  obtain ⟨a, b, rfl, hu, h1, h2⟩ := UpdF.split V
  rw [hu] at hq
  rcases List.mem_append.mp hq with hq | hq
  · exact .inr ⟨List.mem_append_left _ hq, h1 q hq⟩
  · rcases List.mem_cons.mp hq with rfl | hq
    · exact .inl rfl
    · exact .inr ⟨List.mem_append_right _ (.tail _ hq), h2 q hq⟩
theorem UpdF.self {d : Addr} {o : Obj} {l : List (Addr × Obj)} {g : Obj → List (Addr × Obj)} (V : UpdF d o l g) : (d, o) ∈ l := by
  obtain ⟨a, b, rfl, hu, h1, h2⟩ := UpdF.split V
  exact List.mem_append_right _ (.head _)
theorem SpecM.useU2 {w : World} {D U : Nat} {f : Addr} {args : List Value} {d1 d2 : Addr} {o1 o2 : Obj} {pre : Heap → Prop} {post : Value → List (Addr × Obj) → Prop} (h : SpecM w D U f args [(d1, o1), (d2, o2)] pre post)
    {p : Program} {loose : List Str} {mean : ExcName → Option Value} {mg mb : Str → Option Value} {dp un : Nat} {gd : Option (List Code)} {cn : Str} {cs : Scope} {a : Addr} {ccd : Value} {cl : List (Str × Addr)} {outer : List Env} {A₀ : Around} {base h₀ : Heap} {L : Addr} {m : Str → Option Value} {news : List (Addr × Obj)} {u1 : Obj → List (Addr × Obj)} {u2 : Obj → Obj → List (Addr × Obj)} {s : Shared} {Q E : Value → Shared → Prop}
    (B : Below A₀ base outer h₀) (F : Fr h₀ L s.heap m) (X : (K w.params).In h₀) (N : News h₀ L s.heap news) (T : Top p loose mean mg mb h₀) (hk : cs.kind = .function) (hd : dp + D < recursionLimit) (hu : un + U < cLine)
    (V1 : UpdF d1 o1 news u1) (V2 : ∀ o, UpdF d2 o2 (u1 o) (u2 o)) (hne : @Ne Nat d1 d2) (hp : ∀ g, h₀.StaysIn g → (∀ q ∈ news, q.1 ≠ d1 → q.1 ≠ d2 → g.get? q.1 = some q.2) → pre g)
    (ret : ∀ v nw h' tk', Fr h₀ L h' m → (∀ o1' o2', (d1, o1') ∈ nw → (d2, o2') ∈ nw → News h₀ L h' (u2 o1' o2')) → News h₀ L h' nw → (∀ q ∈ nw, q.1 = d1 ∨ q.1 = d2 ∨ s.heap.get? q.1 = none) → post v nw → Q v { s with heap := h', toks := tk' }) :
    wpAny (model PySem.Challenge.rw_pq0312_01.prog w) (ktrTop dp un gd cn cs L a ccd cl outer) (call (.ref f) args) Q E s := by
  have m2 : (d2, o2) ∈ news := by
    rcases UpdF.mem V1 (UpdF.self (V2 o1)) with e | e
    · exact absurd (congrArg Prod.fst e).symm hne
    · exact e.1
  have hin : ∀ q ∈ [(d1, o1), (d2, o2)] ++ news.filter (fun q => decide (@Ne Nat q.1 d1 ∧ @Ne Nat q.1 d2)), q ∈ news := fun q hq => by
    rcases List.mem_append.mp hq with hq | hq
    · rcases List.mem_cons.mp hq with rfl | hq
      · exact UpdF.self V1
      · rw [List.mem_singleton.mp hq]; exact m2
    · exact (List.mem_filter.mp hq).1
  refine SpecM.useG h B F X N T hk hd hu hin (fun q hq r hr => ?_) (fun g hg hq => hp g hg fun q h1 h2 h3 => hq q (List.mem_filter.mpr ⟨h1, decide_eq_true ⟨h2, h3⟩⟩)) fun v nw h' tk' F' N' hf hpost => ret v nw h' tk' F' (fun o1' o2' h1 h2 q hq => ?_) (fun q hq => N' q (List.mem_append_left _ hq)) (fun q hq => ?_) hpost
  · have := of_decide_eq_true (List.mem_filter.mp hq).2
    rcases List.mem_cons.mp hr with rfl | hr
    · exact this.1
    · rw [List.mem_singleton.mp hr]; exact this.2
  · rcases UpdF.mem (V2 o1') hq with rfl | ⟨hq, n2⟩
    · exact N' _ (List.mem_append_left _ h2)
    · rcases UpdF.mem V1 hq with rfl | ⟨hq, n1⟩
      · exact N' _ (List.mem_append_left _ h1)
      · exact N' _ (List.mem_append_right _ (List.mem_filter.mpr ⟨hq, decide_eq_true ⟨n1, n2⟩⟩))
  · rcases hf q hq with ⟨r, hr, e⟩ | e
    · rcases List.mem_cons.mp hr with rfl | hr
      · exact .inl e
      · rw [List.mem_singleton.mp hr] at e; exact .inr (.inl e)
    · exact .inr (.inr e)
theorem c_sign_of (w : World) (c : Int) (tp : Tok) (h0 : 0 ≤ c) (h1 : c < 128) :
    Spec w 2 16 (nat_lit 331) [.int c tp] (fun _ => True) (fun v nw => nw = [] ∧ ∃ t, v = .str ⟨#[c.toNat]⟩ t) := by
  unfold Spec; k_fill; intros; rename_i hret
  refine wpAny_call ?_
  k_extra "ENTER"
  k_extra "STEPS"
  all_goals k_extra "FINSTR"
  rfl
--reg
example : True := by
  k_with "ITEMN" => (k_here; (with_reducible show wpAny _ _ (subscriptTail _ _ (Value.ref _) (Value.int _ _)) _ _ _); (with_unfolding_all first
    | (refine' item_nat _ ?k1 ?k2 ?k3 ?kb ?k4 ?k5 ?_ ?k7; (case k1 => k_asm); (case k3 => with_reducible assumption); (case k2 => with_reducible assumption); (case kb => with_reducible assumption); (case k4 => exact hc0); (case k5 => omega); (case k7 => with_unfolding_all rfl); k_whole)
    | (refine' item_nat _ ?k1 ?k2 ?k3 ?kb ?k4 ?k5 ?_ ?k7; (case k1 => k_asm); (case k3 => with_reducible assumption); (case k2 => with_reducible assumption); (case kb => with_reducible assumption); (case k4 => exact hc1); (case k5 => omega); (case k7 => with_unfolding_all rfl); k_whole)
    | (refine' item_nat _ ?k1 ?k2 ?k3 ?kb ?k4 ?k5 ?_ ?k7; (case k1 => k_asm); (case k3 => with_reducible assumption); (case k2 => with_reducible assumption); (case kb => with_reducible assumption); (case k4 => exact hc2); (case k5 => omega); (case k7 => with_unfolding_all rfl); k_whole)
    | (refine' item_nat _ ?k1 ?k2 ?k3 ?kb ?k4 ?k5 ?_ ?k7; (case k1 => k_asm); (case k3 => with_reducible assumption); (case k2 => with_reducible assumption); (case kb => with_reducible assumption); (case k4 => exact hc3); (case k5 => omega); (case k7 => with_unfolding_all rfl); k_whole)); intro _)
  k_with "subscriptTail" => (k_extra "ITEMN")
  k_with "subscriptTail Name Name ref int" => (k_extra "ITEMN")
  k_with "subscriptTail Name BinOp ref int" => (k_extra "ITEMN")
  trivial
--end
theorem c_code (w : World) (pp pd cl fl : Addr) (ns : List Int) (q : Nat) (c : Int) (t1 t2 t3 t4 u1 u2 : Tok) (hc0 : ns[q]? = some c) :
    SpecM w 2 16 (nat_lit 422) [.ref pp] [(pd, parsO w.params cl fl q t1 t2 t3 t4 u1 u2)]
      (fun g => g.get? pp = some (instObj 528 pd) ∧ ∃ vs, g.IsList cl vs.toArray ∧ IntsAre vs ns ∧ ns.length ≤ 40)
      (fun v nw => ∃ u1' t, nw = [(pd, parsO w.params cl fl (q + 1 : Nat) t1 t2 t3 t4 u1' u2)] ∧ v = .int c t) := by
  unfold SpecM; k_fill; intros; rename_i hg hpre hret
  obtain ⟨hpp, vs, hl, hi, hlen⟩ := hpre
  have hq := (List.getElem?_eq_some_iff.mp hc0).1
  refine wpAny_call ?_
  k_extra "ENTERM"
  k_extra "STEPS"
  refine' fin_m (nw := [_]) hret ?kf ?kn ?km ?ko ?kp ?ks ⟨_, _, rfl, rfl⟩
  k_extra "FIN5"
  case ks => k_extra "SUBN"
theorem c_top (w : World) (pp pd cl fl fp : Addr) (q : Int) (t1 t2 t3 t4 u1 u2 : Tok) (kf : Nat) :
    Spec w 2 16 (nat_lit 415) [.ref pp] (fun h => h.get? pp = some (instObj 528 pd) ∧ h.get? pd = some (parsO w.params cl fl q t1 t2 t3 t4 u1 u2) ∧ h.get? fl = some (listOf #[.ref fp] kf)) (fun v nw => nw = [] ∧ v = .ref fp) := by
  unfold Spec; k_fill; intros; rename_i hpre hret
  obtain ⟨hpp, hpd, hfl⟩ := hpre
  have hkl : _root_.PySem.Heap.IsList _ fl [Value.ref fp].toArray := ⟨_, hfl, rfl, _, rfl⟩
  refine wpAny_call ?_
  k_extra "ENTER"
  k_extra "STEPS"
  all_goals k_extra "FINVAL"
  rfl
theorem c_put (w : World) (fp fd dl nl : Addr) (nodes : List Value) (kn : Nat) (node : Value) (b : Bool) (f1 f2 f3 f4 f5 g1 g2 : Tok) (hn : nodes.length ≤ 3) (hne : @Ne Nat nl fd) :
    SpecM w 2 16 (nat_lit 373) [.ref fp, node] [(nl, listOf nodes.toArray kn), (fd, frameO w.params dl nl b f1 f2 f3 f4 f5 g1 g2)]
      (fun g => g.get? fp = some (instObj 390 fd))
      (fun v nw => nw = [(nl, listOf (nodes ++ [node]).toArray (kn + 1)), (fd, frameO w.params dl nl false f1 f2 f3 f4 f5 g1 g2)] ∧ v = .none) := by
  unfold SpecM; k_fill; intros; rename_i hg hpre hret
  refine wpAny_call ?_
  k_extra "ENTERM"
  k_extra "STEPS"
  simp only [List.push_toArray] at *
  refine' fin_m (nw := [_, _]) hret ?kf ?kn ?km ?ko ?kp ?ks ⟨rfl, rfl⟩
  k_extra "FIN5"
  case ks => k_extra "SUBN"
--reg
example : True := by
  k_with "call ref" => (k_dflt (refine' Spec.use (c_sign_of _ _ _ ?h0 ?h1) ?k1 ?k2 ?k3 ?k4 ?k5 ?k6 ?k7 ?k8 ?k9 ?_; k_extra "MYCALL0"; (case h0 => decide); (case h1 => decide); intro v9 nw9 h9 tk9 F9 N9 ha9 hs9 hp9; obtain ⟨he9, t9, hv9⟩ := hp9; subst he9; subst hv9; (simp only [List.nil_append] at N9); clear ha9 hs9; (try dsimp only); (try k_fold)))
  k_with "call ref" => (k_dflt (refine' SpecM.use (c_code _ _ pd cl fl ns _ _ _ _ _ _ _ _ ?hc) ?k1 ?k2 ?k3 ?k4 ?k5 ?k6 ?k7 ?k8 ?k9 ?k10 ?_; k_extra "MYMUT"; (case hc => exact hc0); intro v9 nw9 h9 tk9 F9 U9 N9 S9 hp9; obtain ⟨p9, t9, hn9, hv9⟩ := hp9; subst hn9; subst hv9; (replace U9 := U9 _ (List.Mem.head _)); clear N9 S9; (try dsimp only at U9); (try dsimp only); (try k_fold)))
  k_with "call ref" => (k_dflt (refine' Spec.useV (c_top _ _ pd cl fl fp _ _ _ _ _ _ _ kf) ?k1 ?k2 ?k3 ?k4 ?k5 ?k6 ?k7 ?k8 ?k9 ?_; k_extra "MYVAL"))
  trivial
--end
theorem c_read_class (w : World) (cl : Addr) (ns : List Int) (q : Nat) (c : Int) (k : Int) (tp : Tok) (hk : k = q) (hc0 : ns[q]? = some c) (hc : c ≠ 91) :
    Spec w 2 16 (nat_lit 117) [.ref cl, .int k tp] (fun h => ListIn h cl ns) (fun v nw => nw = [] ∧ v = .none) := by
  unfold Spec; k_fill; intros; rename_i hpre hret
  obtain ⟨vs, hl, hi, hlen⟩ := hpre
  have hq := (List.getElem?_eq_some_iff.mp hc0).1
  refine wpAny_call ?_
  k_extra "ENTER"
  k_extra "STEPS"
  all_goals k_extra "FINVAL"
  all_goals rfl
theorem c_read_part (w : World) (cl : Addr) (ns : List Int) (q : Nat) (c c' : Int) (k : Int) (tp : Tok) (hk : k = q) (hc0 : ns[q]? = some c) (hc1 : ns[q + 1]? = some c') (hc : c' ≠ 45) :
    Spec w 2 16 (nat_lit 124) [.ref cl, .int k tp] (fun h => ListIn h cl ns) (fun v nw => ∃ d1 d2 t u t', v = .ref d1 ∧ nw = [(d1, { cls := .type "tuple", data := .seq #[.ref d2, .int (k + 1) t'] }), (d2, tupII c c t u)]) := by
  unfold Spec; k_fill; intros; rename_i hpre hret
  obtain ⟨vs, hl, hi, hlen⟩ := hpre
  have hq := (List.getElem?_eq_some_iff.mp hc0).1
  have hq1 := (List.getElem?_eq_some_iff.mp hc1).1
  refine wpAny_call ?_
  k_extra "ENTER"
  k_extra "STEPS"
  · exfalso; omega
  · refine' fin_sub (nw := [_, _]) hret ?kf ?kn ?km ?ko ?kp ?ks ⟨_, _, _, _, _, rfl, rfl⟩
    k_extra "FIN5"
    case ks => k_extra "SUBN"
  · refine' fin_sub (nw := [_, _]) hret ?kf ?kn ?km ?ko ?kp ?ks ⟨_, _, _, _, _, rfl, rfl⟩
    k_extra "FIN5"
    case ks => k_extra "SUBN"
noncomputable abbrev tupO (its : Array Value) : Obj := { cls := .type "tuple", data := .seq its }
theorem isTup_of {h : Heap} {d : Addr} {its : Array Value} (e : h.get? d = some (tupO its)) : IsTup h d its := ⟨_, e, rfl, _, rfl⟩
theorem set_row1 {h : Heap} {d r e p : Addr} {a b : Int} {u t t' : Tok} {neg : Bool} (h1 : h.get? d = some (tupO #[.str (Str.ofString "set") u, .bool neg, .ref r, .ref e])) (h2 : h.get? e = some (tupO #[])) (h3 : h.get? r = some (tupO #[.ref p])) (h4 : h.get? p = some (tupII a b t t')) : RowTup h d (.set neg [(a, b)]) :=
  ⟨u, r, e, isTup_of h1, ⟨_, isTup_of h3, rfl, Nat.le_of_ble_eq_true rfl, fun i v hv => by
    match i, hv with
    | 0, hv => exact ⟨p, a, b, t, t', rfl, by simpa using hv.symm, isTup_of h4⟩
    | n + 1, hv => simp at hv⟩, isTup_of h2⟩
theorem set_row2 {h : Heap} {d r e p p' : Addr} {a b a' b' : Int} {u t t' v v' : Tok} {neg : Bool} (h1 : h.get? d = some (tupO #[.str (Str.ofString "set") u, .bool neg, .ref r, .ref e])) (h2 : h.get? e = some (tupO #[])) (h3 : h.get? r = some (tupO #[.ref p, .ref p'])) (h4 : h.get? p = some (tupII a b t t')) (h5 : h.get? p' = some (tupII a' b' v v')) : RowTup h d (.set neg [(a, b), (a', b')]) :=
  ⟨u, r, e, isTup_of h1, ⟨_, isTup_of h3, rfl, Nat.le_of_ble_eq_true rfl, fun i v hv => by
    match i, hv with
    | 0, hv => exact ⟨p, a, b, t, t', rfl, by simpa using hv.symm, isTup_of h4⟩
    | 1, hv => exact ⟨p', a', b', _, _, rfl, by simpa using hv.symm, isTup_of h5⟩
    | n + 2, hv => simp at hv⟩, isTup_of h2⟩
theorem set_row1L {d r e p : Addr} {a b : Int} {u t t' : Tok} {neg : Bool} (h : Heap) (hh : ∀ q ∈ [(d, tupO #[.str (Str.ofString "set") u, .bool neg, .ref r, .ref e]), (e, tupO #[]), (r, tupO #[.ref p]), (p, tupII a b t t')], h.get? q.1 = some q.2) : RowTup h d (.set neg [(a, b)]) :=
  set_row1 (hh (_, _) (.head _)) (hh (_, _) (.tail _ (.head _))) (hh (_, _) (.tail _ (.tail _ (.head _)))) (hh (_, _) (.tail _ (.tail _ (.tail _ (.head _)))))
theorem set_row2L {d r e p p' : Addr} {a b a' b' : Int} {u t t' v v' : Tok} {neg : Bool} (h : Heap) (hh : ∀ q ∈ [(d, tupO #[.str (Str.ofString "set") u, .bool neg, .ref r, .ref e]), (e, tupO #[]), (r, tupO #[.ref p, .ref p']), (p, tupII a b t t'), (p', tupII a' b' v v')], h.get? q.1 = some q.2) : RowTup h d (.set neg [(a, b), (a', b')]) :=
  set_row2 (hh (_, _) (.head _)) (hh (_, _) (.tail _ (.head _))) (hh (_, _) (.tail _ (.tail _ (.head _)))) (hh (_, _) (.tail _ (.tail _ (.tail _ (.head _))))) (hh (_, _) (.tail _ (.tail _ (.tail _ (.tail _ (.head _))))))
example : True := by
  k_with "PRE" => (exact ListIn.keeps (by assumption) (Fr.keep (by k_asm)))
  k_with "call ref" => (k_dflt (refine' Spec.use (c_read_class _ _ ns _ _ _ _ ?hk hc0 ?hc) ?k1 ?k2 ?k3 ?k4 ?k5 ?k6 ?k7 ?k8 ?k9 ?_; (case hk => omega); k_extra "MYCALL0"; (case hc => decide); intro v9 nw9 h9 tk9 F9 N9 ha9 hs9 hp9; obtain ⟨he9, hv9⟩ := hp9; subst he9; subst hv9; (simp only [List.nil_append] at N9); clear ha9 hs9; (try dsimp only); (try k_fold)))
  k_with "call ref" => (k_dflt (refine' Spec.use (c_read_class _ _ ns _ _ _ _ ?hk hc1 ?hc) ?k1 ?k2 ?k3 ?k4 ?k5 ?k6 ?k7 ?k8 ?k9 ?_; (case hk => omega); k_extra "MYCALL0"; (case hc => decide); intro v9 nw9 h9 tk9 F9 N9 ha9 hs9 hp9; obtain ⟨he9, hv9⟩ := hp9; subst he9; subst hv9; (simp only [List.nil_append] at N9); clear ha9 hs9; (try dsimp only); (try k_fold)))
  k_with "call ref" => (k_dflt (refine' Spec.use (c_read_part _ _ ns _ _ _ _ _ ?hk hc0 hc1 ?hc) ?k1 ?k2 ?k3 ?k4 ?k5 ?k6 ?k7 ?k8 ?k9 ?_; (case hk => omega); k_extra "MYCALL0"; (case hc => decide); intro v9 nw9 h9 tk9 F9 N9 ha9 hs9 hp9; obtain ⟨d9, e9, t9, u9, w9, hv9, hn9⟩ := hp9; subst hv9; subst hn9; (simp only [List.cons_append, List.nil_append] at N9); (have z1 := allNe_of (ha9 (d9, _) (List.Mem.head _)) (by assumption)); (have z2 := allNe_of (ha9 (e9, _) (List.Mem.tail _ (List.Mem.head _))) (by assumption)); clear ha9 hs9; (try dsimp only); (try k_fold)))
  k_with "call ref" => (k_dflt (refine' Spec.use (c_read_part _ _ ns _ _ _ _ _ ?hk hc1 hc2 ?hc) ?k1 ?k2 ?k3 ?k4 ?k5 ?k6 ?k7 ?k8 ?k9 ?_; (case hk => omega); k_extra "MYCALL0"; (case hc => decide); intro v9 nw9 h9 tk9 F9 N9 ha9 hs9 hp9; obtain ⟨d9, e9, t9, u9, w9, hv9, hn9⟩ := hp9; subst hv9; subst hn9; (simp only [List.cons_append, List.nil_append] at N9); (have z1 := allNe_of (ha9 (d9, _) (List.Mem.head _)) (by assumption)); (have z2 := allNe_of (ha9 (e9, _) (List.Mem.tail _ (List.Mem.head _))) (by assumption)); clear ha9 hs9; (try dsimp only); (try k_fold)))
  trivial
theorem c_set_ab (w : World) (cl : Addr) (ns : List Int) (q : Nat) (tp : Tok) (hc0 : ns[q]? = some 97) (hc1 : ns[q + 1]? = some 98) (hc2 : ns[q + 2]? = some 93) :
    Spec w 5 40 (nat_lit 131) [.ref cl, .int q tp] (fun h => ListIn h cl ns) (fun v nw => ∃ D d e r p p' t u a1 a2 b1 b2, v = .ref D ∧ nw = [(D, tupO #[.ref d, .int ((q : Int) + 1 + 1 + 1) t]), (d, tupO #[.str (Str.ofString "set") u, .bool false, .ref r, .ref e]), (e, tupO #[]), (r, tupO #[.ref p, .ref p']), (p, tupII 97 97 a1 a2), (p', tupII 98 98 b1 b2)]) := by
  unfold Spec; k_fill; intros; rename_i hpre hret
  have hpre' := hpre; obtain ⟨vs, hl, hi, hlen⟩ := hpre'
  have hq := (List.getElem?_eq_some_iff.mp hc2).1
  refine wpAny_call ?_
  k_extra "ENTER"
  k_extra "STEPS"
  k_dflt (refine whl_start 100 ?_)
  k_extra "STEPS"
  refine' fin_sub hret ?kf ?kn ?km ?ko ?kp ?ks ⟨_, _, _, _, _, _, _, _, _, _, _, _, rfl, rfl⟩
  k_extra "FIN5"
  case ks => k_extra "SUBN"
theorem c_set_na (w : World) (cl : Addr) (ns : List Int) (q : Nat) (tp : Tok) (hc0 : ns[q]? = some 94) (hc1 : ns[q + 1]? = some 97) (hc2 : ns[q + 2]? = some 93) :
    Spec w 5 40 (nat_lit 131) [.ref cl, .int q tp] (fun h => ListIn h cl ns) (fun v nw => ∃ D d e r p t u a1 a2, v = .ref D ∧ nw = [(D, tupO #[.ref d, .int ((q : Int) + 1 + 1 + 1) t]), (d, tupO #[.str (Str.ofString "set") u, .bool true, .ref r, .ref e]), (e, tupO #[]), (r, tupO #[.ref p]), (p, tupII 97 97 a1 a2)]) := by
  unfold Spec; k_fill; intros; rename_i hpre hret
  have hpre' := hpre; obtain ⟨vs, hl, hi, hlen⟩ := hpre'
  have hq := (List.getElem?_eq_some_iff.mp hc2).1
  refine wpAny_call ?_
  k_extra "ENTER"
  k_extra "STEPS"
  k_dflt (refine whl_start 100 ?_)
  k_extra "STEPS"
  refine' fin_sub hret ?kf ?kn ?km ?ko ?kp ?ks ⟨_, _, _, _, _, _, _, _, _, rfl, rfl⟩
  k_extra "FIN5"
  case ks => k_extra "SUBN"
example : True := by
  k_with "PREM" => (exact hg9 _ _ hfp)
  k_with "PREM" => (exact ⟨hg9 _ _ hpp, vs, stays_list hg9 hl, hi, hlen⟩)
  k_with "PRE" => (exact ⟨(Fr.keep (by k_asm)) _ _ hpp, ((by assumption : News _ _ _ _) (pd, _) (by k_mem)).1, (Fr.keep (by k_asm)) _ _ hfl⟩)
  k_with "PRE" => (exact ⟨vs, stays_list (Fr.keep (by k_asm)) hl, hi, hlen⟩)
  k_with "ite" => (k_dflt (refine' ite_no ?k1 ?_; (case k1 => decide +kernel)))
  k_with "ite" => (k_dflt (refine' ite_yes ?k1 ?_; (case k1 => decide +kernel)))
  k_with "call ref" => (k_dflt (refine' SpecM.useU2 (c_put _ fp fd dl nl _ _ _ _ _ _ _ _ _ _ _ ?hn ?hne2) ?k1 ?k2 ?k3 ?k4 ?k5 ?k6 ?k7 ?k8 ?k9 ?k10 ?hne ?k11 ?_; (case k1 => k_asm); (case k2 => k_asm); (case k3 => k_asm); (case k4 => k_asm); (case k5 => k_asm); (case k6 => first | exact rfl | assumption); (case k7 => ktr_room); (case k8 => ktr_units); (case k9 => k_updF); (case k10 => (intro o9; (try dsimp only); k_updF)); (case k11 => (intro g9 hg9 hn9; k_extra "PREM")); (case hn => assumption); (case hne2 => k_ne); (case hne => k_ne); intro v9 nw9 h9 tk9 F9 U9 N9 S9 hp9; obtain ⟨hn9, hv9⟩ := hp9; subst hn9; subst hv9; (replace U9 := U9 _ _ (List.Mem.head _) (List.Mem.tail _ (List.Mem.head _))); clear N9 S9; (try dsimp only at U9); (try dsimp only); (try k_fold)))
  trivial
theorem any_rowL {d : Addr} {u : Tok} (h : Heap) (hh : ∀ q ∈ [(d, tupO #[.str (Str.ofString "any") u])], h.get? q.1 = some q.2) : RowTup h d .any := ⟨u, isTup_of (hh (_, _) (.head _))⟩
theorem char_rowL {d : Addr} {c : Int} {u t : Tok} (h : Heap) (hh : ∀ q ∈ [(d, tupO #[.str (Str.ofString "char") u, .int c t])], h.get? q.1 = some q.2) : RowTup h d (.char c) := ⟨u, t, isTup_of (hh (_, _) (.head _))⟩
theorem c_step_dot (w : World) (pp pd cl fl fp fd dl nl : Addr) (ns : List Int) (q : Nat) (nodes : List Value) (kn : Nat) (b : Bool) (t1 t2 t3 t4 u1 u2 f1 f2 f3 f4 f5 g1 g2 : Tok) (hne : @Ne Nat pd nl ∧ @Ne Nat pd fd ∧ @Ne Nat nl fd) (hn : nodes.length ≤ 3)
    (hc0 : ns[q]? = some 46) :
    SpecM w 12 96 (nat_lit 436) [.ref pp] [(pd, parsO w.params cl fl q t1 t2 t3 t4 u1 u2), (nl, listOf nodes.toArray kn), (fd, frameO w.params dl nl b f1 f2 f3 f4 f5 g1 g2)]
      (fun g => ParsFacts g pp pd cl fl fp fd ns)
      (fun v nw => ∃ u1' d ex, v = .none ∧ nw = [(pd, parsO w.params cl fl (q + 1 : Nat) t1 t2 t3 t4 u1' u2), (nl, listOf (nodes ++ [Value.ref d]).toArray (kn + 1)), (fd, frameO w.params dl nl false f1 f2 f3 f4 f5 g1 g2)] ++ ex ∧
        (∀ p ∈ ex, @Ne Nat p.1 pd ∧ @Ne Nat p.1 nl ∧ @Ne Nat p.1 fd) ∧ ∀ h : Heap, (∀ p ∈ ex, h.get? p.1 = some p.2) → RowTup h d .any) := by
  unfold SpecM; k_fill; intros; rename_i hg hpre hret
  obtain ⟨hpp, ⟨kf, hfl⟩, hfp, vs, hl, hi, hlen⟩ := hpre
  have hq := (List.getElem?_eq_some_iff.mp hc0).1
  refine wpAny_call ?_
  k_extra "ENTERM"
  k_extra "STEPS"
  refine' fin_m hret ?kf ?kn ?km ?ko ?kp ?ks ⟨_, _, _, rfl, rfl, ?ka, any_rowL⟩
  k_extra "FIN5"
  case ks => k_extra "SUBN"
  case ka => exact List.forall_mem_cons.mpr ⟨⟨by k_ne, by k_ne, by k_ne⟩, List.forall_mem_nil _⟩
theorem c_step_a (w : World) (pp pd cl fl fp fd dl nl : Addr) (ns : List Int) (q : Nat) (nodes : List Value) (kn : Nat) (b : Bool) (t1 t2 t3 t4 u1 u2 f1 f2 f3 f4 f5 g1 g2 : Tok) (hne : @Ne Nat pd nl ∧ @Ne Nat pd fd ∧ @Ne Nat nl fd) (hn : nodes.length ≤ 3)
    (hc0 : ns[q]? = some 97) :
    SpecM w 12 96 (nat_lit 436) [.ref pp] [(pd, parsO w.params cl fl q t1 t2 t3 t4 u1 u2), (nl, listOf nodes.toArray kn), (fd, frameO w.params dl nl b f1 f2 f3 f4 f5 g1 g2)]
      (fun g => ParsFacts g pp pd cl fl fp fd ns)
      (fun v nw => ∃ u1' d ex, v = .none ∧ nw = [(pd, parsO w.params cl fl (q + 1 : Nat) t1 t2 t3 t4 u1' u2), (nl, listOf (nodes ++ [Value.ref d]).toArray (kn + 1)), (fd, frameO w.params dl nl false f1 f2 f3 f4 f5 g1 g2)] ++ ex ∧
        (∀ p ∈ ex, @Ne Nat p.1 pd ∧ @Ne Nat p.1 nl ∧ @Ne Nat p.1 fd) ∧ ∀ h : Heap, (∀ p ∈ ex, h.get? p.1 = some p.2) → RowTup h d (.char 97)) := by
  unfold SpecM; k_fill; intros; rename_i hg hpre hret
  obtain ⟨hpp, ⟨kf, hfl⟩, hfp, vs, hl, hi, hlen⟩ := hpre
  have hq := (List.getElem?_eq_some_iff.mp hc0).1
  refine wpAny_call ?_
  k_extra "ENTERM"
  k_extra "STEPS"
  refine' fin_m hret ?kf ?kn ?km ?ko ?kp ?ks ⟨_, _, _, rfl, rfl, ?ka, char_rowL⟩
  k_extra "FIN5"
  case ks => k_extra "SUBN"
  case ka => exact List.forall_mem_cons.mpr ⟨⟨by k_ne, by k_ne, by k_ne⟩, List.forall_mem_nil _⟩
theorem c_step_b (w : World) (pp pd cl fl fp fd dl nl : Addr) (ns : List Int) (q : Nat) (nodes : List Value) (kn : Nat) (b : Bool) (t1 t2 t3 t4 u1 u2 f1 f2 f3 f4 f5 g1 g2 : Tok) (hne : @Ne Nat pd nl ∧ @Ne Nat pd fd ∧ @Ne Nat nl fd) (hn : nodes.length ≤ 3)
    (hc0 : ns[q]? = some 98) :
    SpecM w 12 96 (nat_lit 436) [.ref pp] [(pd, parsO w.params cl fl q t1 t2 t3 t4 u1 u2), (nl, listOf nodes.toArray kn), (fd, frameO w.params dl nl b f1 f2 f3 f4 f5 g1 g2)]
      (fun g => ParsFacts g pp pd cl fl fp fd ns)
      (fun v nw => ∃ u1' d ex, v = .none ∧ nw = [(pd, parsO w.params cl fl (q + 1 : Nat) t1 t2 t3 t4 u1' u2), (nl, listOf (nodes ++ [Value.ref d]).toArray (kn + 1)), (fd, frameO w.params dl nl false f1 f2 f3 f4 f5 g1 g2)] ++ ex ∧
        (∀ p ∈ ex, @Ne Nat p.1 pd ∧ @Ne Nat p.1 nl ∧ @Ne Nat p.1 fd) ∧ ∀ h : Heap, (∀ p ∈ ex, h.get? p.1 = some p.2) → RowTup h d (.char 98)) := by
  unfold SpecM; k_fill; intros; rename_i hg hpre hret
  obtain ⟨hpp, ⟨kf, hfl⟩, hfp, vs, hl, hi, hlen⟩ := hpre
  have hq := (List.getElem?_eq_some_iff.mp hc0).1
  refine wpAny_call ?_
  k_extra "ENTERM"
  k_extra "STEPS"
  refine' fin_m hret ?kf ?kn ?km ?ko ?kp ?ks ⟨_, _, _, rfl, rfl, ?ka, char_rowL⟩
  k_extra "FIN5"
  case ks => k_extra "SUBN"
  case ka => exact List.forall_mem_cons.mpr ⟨⟨by k_ne, by k_ne, by k_ne⟩, List.forall_mem_nil _⟩
example : True := by
  k_with "call ref" => (k_dflt (refine' Spec.use (c_set_ab _ cl ns (q + 1) _ hc1 hc2 hc3) ?k1 ?k2 ?k3 ?k4 ?k5 ?k6 ?k7 ?k8 ?k9 ?_; k_extra "MYCALL"; obtain ⟨D9, d9, e9, r9, p9, q9, t9, u9, a1, a2, b1, b2, hv9, hn9⟩ := hp9; subst hv9; subst hn9; (simp only [List.cons_append, List.nil_append] at N9); (have z1 := allNe_of (ha9 (D9, _) (List.Mem.head _)) (by assumption)); (have z2 := allNe_of (ha9 (d9, _) (List.Mem.tail _ (List.Mem.head _))) (by assumption)); (have z3 := allNe_of (ha9 (e9, _) (List.Mem.tail _ (List.Mem.tail _ (List.Mem.head _)))) (by assumption)); (have z4 := allNe_of (ha9 (r9, _) (List.Mem.tail _ (List.Mem.tail _ (List.Mem.tail _ (List.Mem.head _))))) (by assumption)); (have z5 := allNe_of (ha9 (p9, _) (List.Mem.tail _ (List.Mem.tail _ (List.Mem.tail _ (List.Mem.tail _ (List.Mem.head _)))))) (by assumption)); (have z6 := allNe_of (ha9 (q9, _) (List.Mem.tail _ (List.Mem.tail _ (List.Mem.tail _ (List.Mem.tail _ (List.Mem.tail _ (List.Mem.head _))))))) (by assumption)); clear ha9 hs9; (try dsimp only); (try k_fold)))
  k_with "call ref" => (k_dflt (refine' Spec.use (c_set_na _ cl ns (q + 1) _ hc1 hc2 hc3) ?k1 ?k2 ?k3 ?k4 ?k5 ?k6 ?k7 ?k8 ?k9 ?_; k_extra "MYCALL"; obtain ⟨D9, d9, e9, r9, p9, t9, u9, a1, a2, hv9, hn9⟩ := hp9; subst hv9; subst hn9; (simp only [List.cons_append, List.nil_append] at N9); (have z1 := allNe_of (ha9 (D9, _) (List.Mem.head _)) (by assumption)); (have z2 := allNe_of (ha9 (d9, _) (List.Mem.tail _ (List.Mem.head _))) (by assumption)); (have z3 := allNe_of (ha9 (e9, _) (List.Mem.tail _ (List.Mem.tail _ (List.Mem.head _)))) (by assumption)); (have z4 := allNe_of (ha9 (r9, _) (List.Mem.tail _ (List.Mem.tail _ (List.Mem.tail _ (List.Mem.head _))))) (by assumption)); (have z5 := allNe_of (ha9 (p9, _) (List.Mem.tail _ (List.Mem.tail _ (List.Mem.tail _ (List.Mem.tail _ (List.Mem.head _)))))) (by assumption)); clear ha9 hs9; (try dsimp only); (try k_fold)))
  trivial
theorem c_step_ab (w : World) (pp pd cl fl fp fd dl nl : Addr) (ns : List Int) (q : Nat) (nodes : List Value) (kn : Nat) (b : Bool) (t1 t2 t3 t4 u1 u2 f1 f2 f3 f4 f5 g1 g2 : Tok) (hne : @Ne Nat pd nl ∧ @Ne Nat pd fd ∧ @Ne Nat nl fd) (hn : nodes.length ≤ 3)
    (hc0 : ns[q]? = some 91) (hc1 : ns[q + 1]? = some 97) (hc2 : ns[q + 1 + 1]? = some 98) (hc3 : ns[q + 1 + 2]? = some 93) :
    SpecM w 12 96 (nat_lit 436) [.ref pp] [(pd, parsO w.params cl fl q t1 t2 t3 t4 u1 u2), (nl, listOf nodes.toArray kn), (fd, frameO w.params dl nl b f1 f2 f3 f4 f5 g1 g2)]
      (fun g => ParsFacts g pp pd cl fl fp fd ns)
      (fun v nw => ∃ u1' d ex, v = .none ∧ nw = [(pd, parsO w.params cl fl (((q + 1 : Nat) : Int) + 1 + 1 + 1) t1 t2 t3 t4 u1' u2), (nl, listOf (nodes ++ [Value.ref d]).toArray (kn + 1)), (fd, frameO w.params dl nl false f1 f2 f3 f4 f5 g1 g2)] ++ ex ∧
        (∀ p ∈ ex, @Ne Nat p.1 pd ∧ @Ne Nat p.1 nl ∧ @Ne Nat p.1 fd) ∧ ∀ h : Heap, (∀ p ∈ ex, h.get? p.1 = some p.2) → RowTup h d (.set false [(97, 97), (98, 98)])) := by
  unfold SpecM; k_fill; intros; rename_i hg hpre hret
  obtain ⟨hpp, ⟨kf, hfl⟩, hfp, vs, hl, hi, hlen⟩ := hpre
  have hq := (List.getElem?_eq_some_iff.mp hc0).1
  refine wpAny_call ?_
  k_extra "ENTERM"
  k_extra "STEPS"
  refine' fin_m hret ?kf ?kn ?km ?ko ?kp ?ks ⟨_, _, _, rfl, rfl, ?ka, set_row2L⟩
  k_extra "FIN5"
  case ks => k_extra "SUBN"
  case ka => repeat' first | exact List.forall_mem_nil _ | (refine List.forall_mem_cons.mpr ⟨⟨by k_ne, by k_ne, by k_ne⟩, ?_⟩)
theorem c_step_na (w : World) (pp pd cl fl fp fd dl nl : Addr) (ns : List Int) (q : Nat) (nodes : List Value) (kn : Nat) (b : Bool) (t1 t2 t3 t4 u1 u2 f1 f2 f3 f4 f5 g1 g2 : Tok) (hne : @Ne Nat pd nl ∧ @Ne Nat pd fd ∧ @Ne Nat nl fd) (hn : nodes.length ≤ 3)
    (hc0 : ns[q]? = some 91) (hc1 : ns[q + 1]? = some 94) (hc2 : ns[q + 1 + 1]? = some 97) (hc3 : ns[q + 1 + 2]? = some 93) :
    SpecM w 12 96 (nat_lit 436) [.ref pp] [(pd, parsO w.params cl fl q t1 t2 t3 t4 u1 u2), (nl, listOf nodes.toArray kn), (fd, frameO w.params dl nl b f1 f2 f3 f4 f5 g1 g2)]
      (fun g => ParsFacts g pp pd cl fl fp fd ns)
      (fun v nw => ∃ u1' d ex, v = .none ∧ nw = [(pd, parsO w.params cl fl (((q + 1 : Nat) : Int) + 1 + 1 + 1) t1 t2 t3 t4 u1' u2), (nl, listOf (nodes ++ [Value.ref d]).toArray (kn + 1)), (fd, frameO w.params dl nl false f1 f2 f3 f4 f5 g1 g2)] ++ ex ∧
        (∀ p ∈ ex, @Ne Nat p.1 pd ∧ @Ne Nat p.1 nl ∧ @Ne Nat p.1 fd) ∧ ∀ h : Heap, (∀ p ∈ ex, h.get? p.1 = some p.2) → RowTup h d (.set true [(97, 97)])) := by
  unfold SpecM; k_fill; intros; rename_i hg hpre hret
  obtain ⟨hpp, ⟨kf, hfl⟩, hfp, vs, hl, hi, hlen⟩ := hpre
  have hq := (List.getElem?_eq_some_iff.mp hc0).1
  refine wpAny_call ?_
  k_extra "ENTERM"
  k_extra "STEPS"
  refine' fin_m hret ?kf ?kn ?km ?ko ?kp ?ks ⟨_, _, _, rfl, rfl, ?ka, set_row1L⟩
  k_extra "FIN5"
  case ks => k_extra "SUBN"
  case ka => repeat' first | exact List.forall_mem_nil _ | (refine List.forall_mem_cons.mpr ⟨⟨by k_ne, by k_ne, by k_ne⟩, ?_⟩)
theorem SpecM.mono {w : World} {D U : Nat} {f : Addr} {args : List Value} {own : List (Addr × Obj)} {pre : Heap → Prop} {post post' : Value → List (Addr × Obj) → Prop} (h : SpecM w D U f args own pre post) (hp : ∀ v nw, post v nw → post' v nw) : SpecM w D U f args own pre post' := by
  intro p loose mean mg mb dp un gd cn cs a ccd cl outer A₀ base h₀ g L m news s Q E B F X N T hk hd hu hoff hg hpre ret
  exact h p loose mean mg mb dp un gd cn cs a ccd cl outer A₀ base h₀ g L m news s Q E B F X N T hk hd hu hoff hg hpre fun v nw h' tk' F' N' hn S hpost => ret v nw h' tk' F' N' hn S (hp _ _ hpost)
noncomputable def codesAt (ns : List Int) (q : Nat) (cs : List Int) : Prop := ∀ j c, cs[j]? = some c → ns[q + j]? = some c
noncomputable def RowLed (ex : List (Addr × Obj)) (d : Addr) (r : RRow) : Prop := ∀ h : Heap, (∀ p ∈ ex, h.get? p.1 = some p.2) → RowTup h d r
noncomputable def OffOwn (ex : List (Addr × Obj)) (pd nl fd : Addr) : Prop := ∀ p ∈ ex, @Ne Nat p.1 pd ∧ @Ne Nat p.1 nl ∧ @Ne Nat p.1 fd
theorem c_step (w : World) (pp pd cl fl fp fd dl nl : Addr) (ns : List Int) (q : Nat) (nodes : List Value) (kn : Nat) (b : Bool) (t1 t2 t3 t4 u1 u2 f1 f2 f3 f4 f5 g1 g2 : Tok) (hne : @Ne Nat pd nl ∧ @Ne Nat pd fd ∧ @Ne Nat nl fd) (hn : nodes.length ≤ 3) (pc : Pc) (hc : codesAt ns q (pcodes pc)) :
    SpecM w 12 96 (nat_lit 436) [.ref pp] [(pd, parsO w.params cl fl q t1 t2 t3 t4 u1 u2), (nl, listOf nodes.toArray kn), (fd, frameO w.params dl nl b f1 f2 f3 f4 f5 g1 g2)]
      (fun g => ParsFacts g pp pd cl fl fp fd ns)
      (fun v nw => ∃ u1' d ex, v = .none ∧ nw = [(pd, parsO w.params cl fl (q + (pcodes pc).length : Nat) t1 t2 t3 t4 u1' u2), (nl, listOf (nodes ++ [Value.ref d]).toArray (kn + 1)), (fd, frameO w.params dl nl false f1 f2 f3 f4 f5 g1 g2)] ++ ex ∧ OffOwn ex pd nl fd ∧ RowLed ex d (prow pc)) := by
  cases pc with
  | a => exact (c_step_a w pp pd cl fl fp fd dl nl ns q nodes kn b t1 t2 t3 t4 u1 u2 f1 f2 f3 f4 f5 g1 g2 hne hn (hc 0 97 rfl)).mono fun v nw h => h
  | b => exact (c_step_b w pp pd cl fl fp fd dl nl ns q nodes kn b t1 t2 t3 t4 u1 u2 f1 f2 f3 f4 f5 g1 g2 hne hn (hc 0 98 rfl)).mono fun v nw h => h
  | dot => exact (c_step_dot w pp pd cl fl fp fd dl nl ns q nodes kn b t1 t2 t3 t4 u1 u2 f1 f2 f3 f4 f5 g1 g2 hne hn (hc 0 46 rfl)).mono fun v nw h => h
  | ab => exact (c_step_ab w pp pd cl fl fp fd dl nl ns q nodes kn b t1 t2 t3 t4 u1 u2 f1 f2 f3 f4 f5 g1 g2 hne hn (hc 0 91 rfl) (hc 1 97 rfl) (hc 2 98 rfl) (hc 3 93 rfl)).mono fun v nw h => h
  | na => exact (c_step_na w pp pd cl fl fp fd dl nl ns q nodes kn b t1 t2 t3 t4 u1 u2 f1 f2 f3 f4 f5 g1 g2 hne hn (hc 0 91 rfl) (hc 1 94 rfl) (hc 2 97 rfl) (hc 3 93 rfl)).mono fun v nw h => h
section
variable {prog : Program} {w : World} {A : Around} {E : Value → Shared → Prop} {s : Shared} {h₀ : Heap} {L : Addr} {m : Str → Option Value}
theorem len_base {l : Addr} {vs : List Value} {Q : Value → Shared → Prop} (F : Fr h₀ L s.heap m) (hl : h₀.IsList l vs.toArray) (hb : vs.length ≤ 1000) (h : ∀ t, Q (.int vs.length t) { s with toks := s.toks + 1 + 1 }) : wpAny (model prog w) A (call (.builtin "len") [.ref l]) Q E s := by
  refine len_list (F.lst hl) (by simp; omega) ?_
  rw [List.size_toArray]; exact h _
end
--reg
example : True := by
  k_with "LENB" => (k_here; (with_reducible show wpAny _ _ (call (Value.builtin "len") [Value.ref _]) _ _ _); k_dflt (refine' len_base ?k1 ?k2 ?k4 ?_; (case k1 => k_asm); (case k2 => exact hkl); (case k4 => exact Nat.le_of_ble_eq_true rfl); k_whole; intro _))
  k_with "ITEMB" => (k_here; (with_unfolding_all refine' item_litK ?k1 ?k2 ?k3 ?k4 ?_ ?k6); k_dflt ((case k6 => with_unfolding_all rfl); (case k1 => exact Fr.lst (by k_asm) hkl); (case k2 => decide); (case k3 => decide); (case k4 => exact rfl); k_whole))
  trivial
--end
example : True := by
  k_with "call builtin:len" => (k_extra "LENB")
  k_with "subscriptTail Name Constant ref int" => (k_extra "ITEMB")
  k_with "ite" => (k_dflt (refine' ite_no ?k1 ?_; (case k1 => first | decide +kernel | simp; done)))
  k_with "ite" => (k_dflt (refine' ite_yes ?k1 ?_; (case k1 => first | decide +kernel | simp; done)))
  trivial
theorem c_joined1 (w : World) (nl : Addr) (v1 : Value) (kn : Nat) : Spec w 2 16 (nat_lit 352) [.ref nl] (fun h => h.get? nl = some (listOf #[v1] kn)) (fun v nw => nw = [] ∧ v = v1) := by
  unfold Spec; k_fill; intros; rename_i hnl hret
  have hkl : _root_.PySem.Heap.IsList _ nl [v1].toArray := ⟨_, hnl, rfl, _, rfl⟩
  refine wpAny_call ?_
  k_extra "ENTER"
  k_extra "STEPS"
  k_extra "FINVAL"
  rfl
theorem c_joined2 (w : World) (nl : Addr) (v1 v2 : Value) (kn : Nat) : Spec w 2 16 (nat_lit 352) [.ref nl] (fun h => h.get? nl = some (listOf #[v1, v2] kn)) (fun v nw => ∃ S T u, v = .ref S ∧ nw = [(S, tupO #[.str (Str.ofString "seq") u, .ref T]), (T, tupO #[v1, v2])]) := by
  unfold Spec; k_fill; intros; rename_i hnl hret
  have hkl : _root_.PySem.Heap.IsList _ nl [v1, v2].toArray := ⟨_, hnl, rfl, _, rfl⟩
  refine wpAny_call ?_
  k_extra "ENTER"
  k_extra "STEPS"
  refine' fin_sub (nw := [_, _]) hret ?kf ?kn ?km ?ko ?kp ?ks ⟨_, _, _, rfl, rfl⟩
  k_extra "FIN5"
  case ks => k_extra "SUBN"
theorem c_joined3 (w : World) (nl : Addr) (v1 v2 v3 : Value) (kn : Nat) : Spec w 2 16 (nat_lit 352) [.ref nl] (fun h => h.get? nl = some (listOf #[v1, v2, v3] kn)) (fun v nw => ∃ S T u, v = .ref S ∧ nw = [(S, tupO #[.str (Str.ofString "seq") u, .ref T]), (T, tupO #[v1, v2, v3])]) := by
  unfold Spec; k_fill; intros; rename_i hnl hret
  have hkl : _root_.PySem.Heap.IsList _ nl [v1, v2, v3].toArray := ⟨_, hnl, rfl, _, rfl⟩
  refine wpAny_call ?_
  k_extra "ENTER"
  k_extra "STEPS"
  refine' fin_sub (nw := [_, _]) hret ?kf ?kn ?km ?ko ?kp ?ks ⟨_, _, _, rfl, rfl⟩
  k_extra "FIN5"
  case ks => k_extra "SUBN"
--reg
example : True := by
  k_with "call ref" => (k_dflt (refine' Spec.useV (c_joined1 _ _ v1 kn) ?k1 ?k2 ?k3 ?k4 ?k5 ?k6 ?k7 ?k8 ?k9 ?_; k_extra "MYVAL"))
  k_with "call ref" => (k_dflt (refine' Spec.use (c_joined2 _ _ v1 v2 kn) ?k1 ?k2 ?k3 ?k4 ?k5 ?k6 ?k7 ?k8 ?k9 ?_; k_extra "MYCALL"; obtain ⟨S9, T9, u9, hv9, hn9⟩ := hp9; subst hv9; subst hn9; (simp only [List.cons_append, List.nil_append] at N9); clear ha9 hs9; (try dsimp only); (try k_fold)))
  k_with "call ref" => (k_dflt (refine' Spec.use (c_joined3 _ _ v1 v2 v3 kn) ?k1 ?k2 ?k3 ?k4 ?k5 ?k6 ?k7 ?k8 ?k9 ?_; k_extra "MYCALL"; obtain ⟨S9, T9, u9, hv9, hn9⟩ := hp9; subst hv9; subst hn9; (simp only [List.cons_append, List.nil_append] at N9); clear ha9 hs9; (try dsimp only); (try k_fold)))
  trivial
--end
example : True := by
  k_with "PRE" => (exact (Fr.keep (by k_asm)) _ _ hnl)
  k_with "compareOp Eq ref ref" => (k_dflt (refine' eq_intsK (vs := []) (us := []) ?k1 .nil ?k2 .nil ?k3 ?_; (case k1 => exact ⟨_, Fr.keep (by k_asm) _ _ hdl, rfl, _, rfl⟩); (case k2 => exact News.isList (by k_asm) (by k_mem)); (case k3 => ktr_units)))
  trivial
theorem c_node1 (w : World) (fp fd dl nl : Addr) (v1 : Value) (kn kd : Nat) (b : Bool) (f1 f2 f3 f4 f5 g1 g2 : Tok) : Spec w 4 112 (nat_lit 387) [.ref fp] (fun h => h.get? fp = some (instObj 390 fd) ∧ h.get? fd = some (frameO w.params dl nl b f1 f2 f3 f4 f5 g1 g2) ∧ h.get? dl = some (listOf #[] kd) ∧ h.get? nl = some (listOf #[v1] kn)) (fun v nw => nw = [] ∧ v = v1) := by
  unfold Spec; k_fill; intros; rename_i hpre hret
  obtain ⟨hfp, hfd, hdl, hnl⟩ := hpre
  refine wpAny_call ?_
  k_extra "ENTER"
  k_extra "STEPS"
  k_extra "FINVAL"
  rfl
theorem c_node2 (w : World) (fp fd dl nl : Addr) (v1 v2 : Value) (kn kd : Nat) (b : Bool) (f1 f2 f3 f4 f5 g1 g2 : Tok) : Spec w 4 112 (nat_lit 387) [.ref fp] (fun h => h.get? fp = some (instObj 390 fd) ∧ h.get? fd = some (frameO w.params dl nl b f1 f2 f3 f4 f5 g1 g2) ∧ h.get? dl = some (listOf #[] kd) ∧ h.get? nl = some (listOf #[v1, v2] kn)) (fun v nw => ∃ S T u, v = .ref S ∧ nw = [(S, tupO #[.str (Str.ofString "seq") u, .ref T]), (T, tupO #[v1, v2])]) := by
  unfold Spec; k_fill; intros; rename_i hpre hret
  obtain ⟨hfp, hfd, hdl, hnl⟩ := hpre
  refine wpAny_call ?_
  k_extra "ENTER"
  k_extra "STEPS"
  refine' fin_sub (nw := [_, _]) hret ?kf ?kn ?km ?ko ?kp ?ks ⟨_, _, _, rfl, rfl⟩
  k_extra "FIN5"
  case ks => k_extra "SUBN"
theorem c_node3 (w : World) (fp fd dl nl : Addr) (v1 v2 v3 : Value) (kn kd : Nat) (b : Bool) (f1 f2 f3 f4 f5 g1 g2 : Tok) : Spec w 4 112 (nat_lit 387) [.ref fp] (fun h => h.get? fp = some (instObj 390 fd) ∧ h.get? fd = some (frameO w.params dl nl b f1 f2 f3 f4 f5 g1 g2) ∧ h.get? dl = some (listOf #[] kd) ∧ h.get? nl = some (listOf #[v1, v2, v3] kn)) (fun v nw => ∃ S T u, v = .ref S ∧ nw = [(S, tupO #[.str (Str.ofString "seq") u, .ref T]), (T, tupO #[v1, v2, v3])]) := by
  unfold Spec; k_fill; intros; rename_i hpre hret
  obtain ⟨hfp, hfd, hdl, hnl⟩ := hpre
  refine wpAny_call ?_
  k_extra "ENTER"
  k_extra "STEPS"
  refine' fin_sub (nw := [_, _]) hret ?kf ?kn ?km ?ko ?kp ?ks ⟨_, _, _, rfl, rfl⟩
  k_extra "FIN5"
  case ks => k_extra "SUBN"
noncomputable def allCodes (pcs : List Pc) : List Int := pcs.flatMap pcodes
noncomputable def offN (pcs : List Pc) (i : Nat) : Nat := (allCodes (pcs.take i)).length
theorem pcodes_pos (p : Pc) : 0 < (pcodes p).length := by cases p <;> decide
theorem allCodes_append (a b : List Pc) : allCodes (a ++ b) = allCodes a ++ allCodes b := by simp [allCodes, List.flatMap_append]
theorem codes_split {pcs : List Pc} {i : Nat} {p : Pc} (h : pcs[i]? = some p) : allCodes pcs = allCodes (pcs.take i) ++ pcodes p ++ allCodes (pcs.drop (i + 1)) := by
  obtain ⟨hi, e⟩ := List.getElem?_eq_some_iff.mp h
  conv => lhs; rw [← List.take_append_drop i pcs, List.drop_eq_getElem_cons hi, e]
  rw [allCodes_append]
  simp [allCodes, List.append_assoc]
theorem offN_succ {pcs : List Pc} {i : Nat} {p : Pc} (h : pcs[i]? = some p) : offN pcs (i + 1) = offN pcs i + (pcodes p).length := by
  obtain ⟨hi, e⟩ := List.getElem?_eq_some_iff.mp h
  unfold offN
  rw [← List.take_append_getElem hi, allCodes_append, e]
  simp [allCodes]
theorem offN_lt {pcs : List Pc} {i : Nat} {p : Pc} (h : pcs[i]? = some p) : offN pcs i < (allCodes pcs).length := by
  rw [codes_split h]
  have := pcodes_pos p
  simp only [List.length_append, offN]; omega
theorem offN_all {pcs : List Pc} : offN pcs pcs.length = (allCodes pcs).length := by unfold offN; rw [List.take_length]
theorem codesAt_off {pcs : List Pc} {i : Nat} {p : Pc} (h : pcs[i]? = some p) : codesAt (allCodes pcs) (offN pcs i) (pcodes p) := fun j c hc => by
  have hj := (List.getElem?_eq_some_iff.mp hc).1
  rw [codes_split h, List.append_assoc, offN, List.getElem?_append_right (by omega), Nat.add_sub_cancel_left, List.getElem?_append_left hj]; exact hc
theorem RowLed.mono {ex ex' : List (Addr × Obj)} {d : Addr} {r : RRow} (x : RowLed ex d r) (h : ∀ p ∈ ex, p ∈ ex') : RowLed ex' d r := fun hh hx => x hh fun p hp => hx p (h p hp)
theorem canonSelf {m' : Str → Option Value} {c : Value} (h3 : m' (Str.ofString "self") = some c) : m' = fun y => if y = Str.ofString "self" then some c else m' y := by
  funext y
  by_cases e : y = Str.ofString "self"
  · simp only [e, if_true]; exact h3
  · simp only [e, if_false]
noncomputable def NodeLed (nw : List (Addr × Obj)) (v : Value) (pcs : List Pc) : Prop := match pcs with
  | [p] => ∃ d, v = .ref d ∧ RowLed nw d (prow p)
  | ps => ∃ S T u its, v = .ref S ∧ (S, tupO #[.str (Str.ofString "seq") u, .ref T]) ∈ nw ∧ (T, tupO its) ∈ nw ∧ its.size = ps.length ∧ ∀ (i : Nat) p, ps[i]? = some p → ∃ d, its[i]? = some (.ref d) ∧ RowLed nw d (prow p)
theorem node_led1 {ex nw : List (Addr × Obj)} {d1 : Addr} {p1 : Pc} (hr1 : RowLed ex d1 (prow p1)) (h : ∀ q ∈ ex, q ∈ nw) : NodeLed nw (.ref d1) [p1] := ⟨d1, rfl, hr1.mono h⟩
theorem node_led2 {ex nw : List (Addr × Obj)} {S T d1 d2 : Addr} {u : Tok} {p1 p2 : Pc} (hr1 : RowLed ex d1 (prow p1)) (hr2 : RowLed ex d2 (prow p2)) (hS : (S, tupO #[.str (Str.ofString "seq") u, .ref T]) ∈ nw) (hT : (T, tupO #[.ref d1, .ref d2]) ∈ nw) (h : ∀ q ∈ ex, q ∈ nw) : NodeLed nw (.ref S) [p1, p2] :=
  ⟨S, T, u, _, rfl, hS, hT, rfl, fun j p hj => by
    match j, hj with
    | 0, hj => obtain rfl : p1 = p := by simpa using hj
               exact ⟨d1, rfl, hr1.mono h⟩
    | 1, hj => obtain rfl : p2 = p := by simpa using hj
               exact ⟨d2, rfl, hr2.mono h⟩
    | n + 2, hj => simp at hj⟩
theorem node_led3 {ex nw : List (Addr × Obj)} {S T d1 d2 d3 : Addr} {u : Tok} {p1 p2 p3 : Pc} (hr1 : RowLed ex d1 (prow p1)) (hr2 : RowLed ex d2 (prow p2)) (hr3 : RowLed ex d3 (prow p3)) (hS : (S, tupO #[.str (Str.ofString "seq") u, .ref T]) ∈ nw) (hT : (T, tupO #[.ref d1, .ref d2, .ref d3]) ∈ nw) (h : ∀ q ∈ ex, q ∈ nw) : NodeLed nw (.ref S) [p1, p2, p3] :=
  ⟨S, T, u, _, rfl, hS, hT, rfl, fun j p hj => by
    match j, hj with
    | 0, hj => obtain rfl : p1 = p := by simpa using hj
               exact ⟨d1, rfl, hr1.mono h⟩
    | 1, hj => obtain rfl : p2 = p := by simpa using hj
               exact ⟨d2, rfl, hr2.mono h⟩
    | 2, hj => obtain rfl : p3 = p := by simpa using hj
               exact ⟨d3, rfl, hr3.mono h⟩
    | n + 3, hj => simp at hj⟩
theorem pcs3 {pcs : List Pc} (h1 : 1 ≤ pcs.length) (h3 : pcs.length ≤ 3) : (∃ a, pcs = [a]) ∨ (∃ a b, pcs = [a, b]) ∨ ∃ a b c, pcs = [a, b, c] := by
  match pcs, h1, h3 with
  | [a], _, _ => exact .inl ⟨a, rfl⟩
  | [a, b], _, _ => exact .inr (.inl ⟨a, b, rfl⟩)
  | [a, b, c], _, _ => exact .inr (.inr ⟨a, b, c, rfl⟩)
  | _ :: _ :: _ :: _ :: _, _, h => exact absurd h (by simp)
theorem list1 {α : Type} {l : List α} {a : α} (h : l.length = 1) (h0 : l[0]? = some a) : l = [a] := by
  match l, h with
  | [b], _ => simpa using h0
theorem list2 {α : Type} {l : List α} {a b : α} (h : l.length = 2) (h0 : l[0]? = some a) (h1 : l[1]? = some b) : l = [a, b] := by
  match l, h with
  | [x, y], _ => simp at h0 h1; rw [h0, h1]
theorem list3 {α : Type} {l : List α} {a b c : α} (h : l.length = 3) (h0 : l[0]? = some a) (h1 : l[1]? = some b) (h2 : l[2]? = some c) : l = [a, b, c] := by
  match l, h with
  | [x, y, z], _ => simp at h0 h1 h2; rw [h0, h1, h2]
example : True := by
  k_with "PRE" => (exact ⟨(Fr.keep (by k_asm)) _ _ hpp, ((by assumption : News _ _ _ _) (pd, _) (by k_mem)).1, (Fr.keep (by k_asm)) _ _ hfl⟩)
  k_with "PRE" => (refine' ⟨(Fr.keep (by k_asm)) _ _ hfp, ?_, (Fr.keep (by k_asm)) _ _ hdl, ?_⟩; exact ((by assumption : News _ _ _ _) (fd, _) (by k_mem)).1; exact ((by assumption : News _ _ _ _) (nl, _) (by k_mem)).1)
  k_with "call ref" => (k_dflt (refine' Spec.useV (c_node1 _ fp fd dl nl (.ref d1) i kd b f1 f2 f3 f4 f5 g1 g2) ?k1 ?k2 ?k3 ?k4 ?k5 ?k6 ?k7 ?k8 ?k9 ?_; k_extra "MYVAL"))
  k_with "call ref" => (k_dflt (refine' Spec.use (c_node2 _ fp fd dl nl (.ref d1) (.ref d2) i kd b f1 f2 f3 f4 f5 g1 g2) ?k1 ?k2 ?k3 ?k4 ?k5 ?k6 ?k7 ?k8 ?k9 ?_; k_extra "MYCALL"; obtain ⟨S9, T9, w9, hv9, hn9⟩ := hp9; subst hv9; subst hn9; (simp only [List.cons_append, List.nil_append] at N9); clear ha9 hs9; (try dsimp only); (try k_fold)))
  k_with "call ref" => (k_dflt (refine' Spec.use (c_node3 _ fp fd dl nl (.ref d1) (.ref d2) (.ref d3) i kd b f1 f2 f3 f4 f5 g1 g2) ?k1 ?k2 ?k3 ?k4 ?k5 ?k6 ?k7 ?k8 ?k9 ?_; k_extra "MYCALL"; obtain ⟨S9, T9, w9, hv9, hn9⟩ := hp9; subst hv9; subst hn9; (simp only [List.cons_append, List.nil_append] at N9); clear ha9 hs9; (try dsimp only); (try k_fold)))
  k_with "PREM" => (exact ParsFacts.keeps ⟨hpp, ⟨kf, hfl⟩, hfp, vs, hl, hi, hlen⟩ hg9)
  k_with "call ref" => (k_dflt (refine' SpecM.useG (rest := ex) (c_step _ _ pd cl fl fp fd dl nl (allCodes pcs) (offN pcs i) nodes i b t1 t2 t3 t4 u1' u2 f1 f2 f3 f4 f5 g1 g2 hne ?hn pc hcat) ?k1 ?k2 ?k3 ?k4 ?k5 ?k6 ?k7 ?k8 ?k9 ?k10 ?k11 ?_; (case k1 => k_asm); (case k2 => k_asm); (case k3 => k_asm); (case k4 => k_asm); (case k5 => k_asm); (case k9 => exact fun q hq => hq); (case k6 => first | exact rfl | assumption); (case k7 => ktr_room); (case k8 => ktr_units); (case k10 => exact hoffx); (case k11 => (intro g9 hg9 hn9; k_extra "PREM")); (case hn => omega); intro v9 nw9 h9 tk9 F9 N9 hf9 hp9; obtain ⟨p9, d9, ex9, hv9, hn9, ho9, hr9⟩ := hp9; subst hv9; subst hn9; (try dsimp only); (try k_fold)))
  k_with "call builtin:len" => (k_extra "LENB")
  k_with "ite" => (k_dflt (refine' ite_no ?k1 ?_; (case k1 => first | decide +kernel | simp; done)))
  trivial
inductive WholeJ (pp pd nl fd : Addr) (PO : Int → Tok → Obj) (FO : Bool → Obj) (pcs : List Pc) (n : Nat) (m' : Str → Option Value) (nw : List (Addr × Obj)) : Prop
  | mk (i : Nat) (u1' : Tok) (nodes : List Value) (b : Bool) (ex : List (Addr × Obj)) (u' : Str → Option Value) (a : n = pcs.length - i) (c : i ≤ pcs.length) (d : nodes.length = i) (e : nw = [(pd, PO (offN pcs i : Nat) u1'), (nl, listOf nodes.toArray i), (fd, FO b)] ++ ex) (o : OffOwn ex pd nl fd)
    (r : ∀ (j : Nat) p, j < i → pcs[j]? = some p → ∃ d, nodes[j]? = some (Value.ref d) ∧ RowLed ex d (prow p)) (g : m' = fun y => if y = Str.ofString "self" then some (Value.ref pp) else u' y)
theorem c_whole (w : World) (pp pd cl fl fp fd dl nl : Addr) (pcs : List Pc) (kd : Nat) (t1 t2 t3 t4 u1 u2 f1 f2 f3 f4 f5 g1 g2 : Tok) (hne : @Ne Nat pd nl ∧ @Ne Nat pd fd ∧ @Ne Nat nl fd) (hp1 : 1 ≤ pcs.length) (hp3 : pcs.length ≤ 3) :
    SpecM w 16 200 (nat_lit 429) [.ref pp] [(pd, parsO w.params cl fl 0 t1 t2 t3 t4 u1 u2), (nl, listOf #[] 0), (fd, frameO w.params dl nl true f1 f2 f3 f4 f5 g1 g2)]
      (fun g => ParsFacts g pp pd cl fl fp fd (allCodes pcs) ∧ g.get? dl = some (listOf #[] kd))
      (fun v nw => ∃ pl u1', (pd, parsO w.params cl fl pl t1 t2 t3 t4 u1' u2) ∈ nw ∧ NodeLed nw v pcs) := by
  unfold SpecM; k_fill; intros; rename_i hg hpre hret
  obtain ⟨⟨hpp, ⟨kf, hfl⟩, hfp, vs, hl, hi, hlen⟩, hdl⟩ := hpre
  have hkl : _root_.PySem.Heap.IsList _ fl [Value.ref fp].toArray := ⟨_, hfl, rfl, _, rfl⟩
  refine wpAny_call ?_
  k_extra "ENTERM"
  k_extra "STEPS"
  obtain ⟨PO, hPO⟩ : ∃ PO : Int → Tok → Obj, PO = fun k u1' => parsO w.params cl fl k t1 t2 t3 t4 u1' u2 := ⟨_, rfl⟩
  obtain ⟨FO, hFO⟩ : ∃ FO : Bool → Obj, FO = fun b => frameO w.params dl nl b f1 f2 f3 f4 f5 g1 g2 := ⟨_, rfl⟩
  refine while_ret (J := WholeJ pp pd nl fd PO FO pcs)
    pcs.length (by k_asm) (by assumption) (fun _ h => h) ⟨0, _, [], _, [], _, rfl, Nat.zero_le _, rfl, (by rw [hPO, hFO] <;> rfl), (fun _ h => nomatch h), fun j p h => absurd h (Nat.not_lt_zero _), canonSelf rfl⟩ ?_
  rintro n m₁ news₁ h₁ tk₁ F₁ N₁ ⟨i, u1', nodes, b, ex, u', rfl, hik, hnl, rfl, hox, hrows, rfl⟩
  simp only [hPO, hFO] at N₁
  have hoffx : ∀ q ∈ ex, ∀ r ∈ [(pd, parsO w.params cl fl (offN pcs i : Nat) t1 t2 t3 t4 u1' u2), (nl, listOf nodes.toArray i), (fd, frameO w.params dl nl b f1 f2 f3 f4 f5 g1 g2)], @Ne Nat q.1 r.1 := fun q hq r hr => by
    obtain ⟨a, b, c⟩ := hox q hq
    rcases List.mem_cons.mp hr with rfl | hr
    · exact a
    · rcases List.mem_cons.mp hr with rfl | hr
      · exact b
      · rw [List.mem_singleton.mp hr]; exact c
  rcases Nat.lt_or_ge i pcs.length with hlt | hge
  · obtain ⟨pc, hpc⟩ : ∃ pc, pcs[i]? = some pc := ⟨pcs[i], by simp [hlt]⟩
    have hcat := codesAt_off hpc
    have hol := offN_lt hpc
    (try dsimp only)
    k_extra "STEPS"
    refine' wstep_next (news₂ := [(pd, parsO w.params cl fl (offN pcs i + (pcodes pc).length : Nat) t1 t2 t3 t4 p9 u2), (nl, listOf (nodes ++ [Value.ref d9]).toArray (i + 1)), (fd, frameO w.params dl nl false f1 f2 f3 f4 f5 g1 g2)] ++ (ex9 ++ ex)) ?kf ?kn ?ks ?kl ⟨i + 1, p9, nodes ++ [.ref d9], false, ex9 ++ ex, _, rfl, hlt, ?ka, ?kb, ?kc, ?kd, ?ke⟩
    case kf => k_asm
    case kn => assumption
    case ks => rw [List.append_assoc]; exact fun _ h => h
    case kl => omega
    case ka => simp [hnl]
    case kb => rw [offN_succ hpc, hPO, hFO] <;> rfl
    case kc => exact fun q hq => (List.mem_append.mp hq).elim (ho9 q) (hox q)
    case ke => (refine' canonSelf ?x1; (case x1 => exact rfl))
    case kd =>
      intro j p hj hp
      by_cases e : j = i
      · subst e
        have e := Option.some.inj (hp.symm.trans hpc)
        subst e
        exact ⟨d9, by rw [List.getElem?_append_right (by omega), hnl, Nat.sub_self]; rfl, hr9.mono fun q hq => List.mem_append_left _ hq⟩
      · obtain ⟨d, h1, h2⟩ := hrows j p (by omega) hp
        exact ⟨d, by rw [List.getElem?_append_left (by omega)]; exact h1, h2.mono fun q hq => List.mem_append_right _ hq⟩
  · have hie : i = pcs.length := Nat.le_antisymm hik hge
    have hol : offN pcs i = (allCodes pcs).length := by rw [hie]; exact offN_all
    simp only [List.cons_append, List.nil_append] at N₁
    rcases pcs3 hp1 hp3 with ⟨p1, rfl⟩ | ⟨p1, p2, rfl⟩ | ⟨p1, p2, p3, rfl⟩
    · obtain ⟨d1, h1, hr1⟩ := hrows 0 p1 (by rw [hie]; simp) rfl
      obtain rfl := list1 (hnl.trans hie) h1
      (try dsimp only)
      k_extra "STEPS"
      refine' fin_m hret ?kf ?kn ?km ?ko ?kp (fun _ h => h) ⟨_, _, .head _, node_led1 hr1 ?kz1⟩
      k_extra "FIN5"
      case kz1 => exact fun q hq => .tail _ (.tail _ (.tail _ hq))
    · obtain ⟨d1, h1, hr1⟩ := hrows 0 p1 (by rw [hie]; simp) rfl
      obtain ⟨d2, h2, hr2⟩ := hrows 1 p2 (by rw [hie]; simp) rfl
      obtain rfl := list2 (hnl.trans hie) h1 h2
      (try dsimp only)
      k_extra "STEPS"
      refine' fin_m hret ?kf ?kn ?km ?ko ?kp (fun _ h => h) ⟨_, _, .tail _ (.tail _ (.head _)), node_led2 hr1 hr2 (.head _) (.tail _ (.head _)) ?kz2⟩
      k_extra "FIN5"
      case kz2 => exact fun q hq => .tail _ (.tail _ (.tail _ (.tail _ (.tail _ hq))))
    · obtain ⟨d1, h1, hr1⟩ := hrows 0 p1 (by rw [hie]; simp) rfl
      obtain ⟨d2, h2, hr2⟩ := hrows 1 p2 (by rw [hie]; simp) rfl
      obtain ⟨d3, h3, hr3⟩ := hrows 2 p3 (by rw [hie]; simp) rfl
      obtain rfl := list3 (hnl.trans hie) h1 h2 h3
      (try dsimp only)
      k_extra "STEPS"
      refine' fin_m hret ?kf ?kn ?km ?ko ?kp (fun _ h => h) ⟨_, _, .tail _ (.tail _ (.head _)), node_led3 hr1 hr2 hr3 (.head _) (.tail _ (.head _)) ?kz3⟩
      k_extra "FIN5"
      case kz3 => exact fun q hq => .tail _ (.tail _ (.tail _ (.tail _ (.tail _ hq))))
theorem c_frame (w : World) (g1 g2 : Tok) :
    Spec w 4 32 (nat_lit 390) [.str (Str.ofString "top") g1, .int 0 g2] (fun _ => True) (fun v nw => ∃ fp fd dl nl f1 f2 f3 f4 f5, v = .ref fp ∧ nw = [(fp, instObj 390 fd), (fd, frameO w.params dl nl true f1 f2 f3 f4 f5 g1 g2), (dl, listOf #[] 0), (nl, listOf #[] 0)] ∧ @Ne Nat nl fd ∧ @Ne Nat fp fd ∧ @Ne Nat fp nl ∧ @Ne Nat dl fd ∧ @Ne Nat dl nl) := by
  refine Spec.of_init (D := 2) (U := 24) (fI := nat_lit 366) (by kernel_rfl) (by kernel_rfl) (by kernel_rfl) (fun _ _ _ _ => trivial) fun mm dm hlt => ?_
  unfold CodeM; k_fill; intros; rename_i hg hpre hret
  k_extra "CODEM"
  k_extra "STEPS"
  refine' fin_m hret ?kf ?kn ?km ?ko ?kp ?ks ⟨rfl, _, _, _, _, _, _, _, _, _, rfl, rfl, ?z1, ?z2, ?z3, ?z4, ?z5⟩
  k_extra "FIN5"
  case ks => k_extra "SUBN"
  case z1 => k_ne
  case z2 => k_ne
  case z3 => k_ne
  case z4 => k_ne
  case z5 => k_ne
example : True := by
  k_with "call ref" => (k_dflt (refine' Spec.use (c_frame _ _ _) ?k1 ?k2 ?k3 ?k4 ?k5 ?k6 ?k7 ?k8 ?k9 ?_; k_extra "MYCALL"; obtain ⟨fp9, fd9, dl9, nl9, f1, f2, f3, f4, f5, hv9, hn9, y1, y2, y3, y4, y5⟩ := hp9; subst hv9; subst hn9; (simp only [List.cons_append, List.nil_append] at N9); (have z1 := allNe_of (ha9 (fp9, _) (List.Mem.head _)) (by assumption)); (have z2 := allNe_of (ha9 (fd9, _) (List.Mem.tail _ (List.Mem.head _))) (by assumption)); (have z3 := allNe_of (ha9 (dl9, _) (List.Mem.tail _ (List.Mem.tail _ (List.Mem.head _)))) (by assumption)); (have z4 := allNe_of (ha9 (nl9, _) (List.Mem.tail _ (List.Mem.tail _ (List.Mem.tail _ (List.Mem.head _))))) (by assumption)); clear ha9 hs9; (try dsimp only); (try k_fold)))
  trivial
theorem c_pars (w : World) (cl : Addr) :
    Spec w 8 64 (nat_lit 528) [.ref cl] (fun _ => True) (fun v nw => ∃ pp pd fl fp fd dl nl kf t1 t2 t3 t4 u1 u2 f1 f2 f3 f4 f5 g1 g2, v = .ref pp ∧
      nw = [(pp, instObj 528 pd), (pd, parsO w.params cl fl 0 t1 t2 t3 t4 u1 u2), (fl, listOf #[.ref fp] kf), (fp, instObj 390 fd), (fd, frameO w.params dl nl true f1 f2 f3 f4 f5 g1 g2), (dl, listOf #[] 0), (nl, listOf #[] 0)] ∧
      (@Ne Nat pd nl ∧ @Ne Nat pd fd ∧ @Ne Nat nl fd) ∧ (∀ q ∈ [pp, fl, fp, dl], @Ne Nat q pd ∧ @Ne Nat q nl ∧ @Ne Nat q fd)) := by
  refine Spec.of_init (D := 6) (U := 56) (fI := nat_lit 408) (by kernel_rfl) (by kernel_rfl) (by kernel_rfl) (fun _ _ _ _ => trivial) fun mm dm hlt => ?_
  unfold CodeM; k_fill; intros; rename_i hg hpre hret
  k_extra "CODEM"
  k_extra "STEPS"
  refine' fin_m hret ?kf ?kn ?km ?ko ?kp ?ks ⟨rfl, _, _, _, _, _, _, _, _, _, _, _, _, _, _, _, _, _, _, _, _, _, rfl, rfl, ⟨?z1, ?z2, ?z3⟩, ?z4⟩
  k_extra "FIN5"
  case ks => k_extra "SUBN"
  case z1 => k_ne
  case z2 => k_ne
  case z3 => k_ne
  case z4 => repeat' first | exact List.forall_mem_nil _ | (refine List.forall_mem_cons.mpr ⟨⟨by k_ne, by k_ne, by k_ne⟩, ?_⟩)
noncomputable def ParsedAs (pcs : List Pc) (v : Value) (nw : List (Addr × Obj)) : Prop := ∃ D nv t ex, v = .ref D ∧ nw = (D, tupO #[nv, .int 0 t]) :: ex ∧ NodeLed ex nv pcs
theorem NodeLed.mono {nw nw' : List (Addr × Obj)} {v : Value} {pcs : List Pc} (x : NodeLed nw v pcs) (h : ∀ q ∈ nw, q ∈ nw') : NodeLed nw' v pcs := by
  match pcs, x with
  | [p], ⟨d, e, r⟩ => exact ⟨d, e, r.mono h⟩
  | [], ⟨S, T, u, its, e, a, b, c, k⟩ => exact ⟨S, T, u, its, e, h _ a, h _ b, c, fun i p hp => let ⟨d, e1, e2⟩ := k i p hp; ⟨d, e1, e2.mono h⟩⟩
  | _ :: _ :: _, ⟨S, T, u, its, e, a, b, c, k⟩ => exact ⟨S, T, u, its, e, h _ a, h _ b, c, fun i p hp => let ⟨d, e1, e2⟩ := k i p hp; ⟨d, e1, e2.mono h⟩⟩
example : True := by
  k_with "call ref" => (k_dflt (refine' Spec.use (c_pars _ _) ?k1 ?k2 ?k3 ?k4 ?k5 ?k6 ?k7 ?k8 ?k9 ?_; k_extra "MYCALL"; obtain ⟨pp, pd, fl, fp, fd, dl, nl, kf, t1, t2, t3, t4, u1, u2, f1, f2, f3, f4, f5, g1, g2, hv9, hn9, hne9, hoq9⟩ := hp9; subst hv9; subst hn9; (simp only [List.cons_append, List.nil_append] at N9); clear ha9 hs9; (try dsimp only); (try k_fold)))
  k_with "PREM" => (exact ⟨⟨hn9 (pp, _) (.head _), ⟨kf, hn9 (fl, _) (.tail _ (.head _))⟩, hn9 (fp, _) (.tail _ (.tail _ (.head _))), vs, stays_list hg9 hl, hi, hlen⟩, hn9 (dl, _) (.tail _ (.tail _ (.tail _ (.head _))))⟩)
  k_with "call ref" => (k_dflt (refine' SpecM.useG (rest := [(pp, instObj 528 pd), (fl, listOf #[.ref fp] kf), (fp, instObj 390 fd), (dl, listOf #[] 0)]) (c_whole _ pp pd cl fl fp fd dl nl pcs 0 t1 t2 t3 t4 u1 u2 f1 f2 f3 f4 f5 g1 g2 hne9 hp1 hp3) ?k1 ?k2 ?k3 ?k4 ?k5 ?k6 ?k7 ?k8 ?k9 ?k10 ?k11 ?_; (case k1 => k_asm); (case k2 => k_asm); (case k3 => k_asm); (case k4 => k_asm); (case k5 => k_asm); (case k9 => (simp only [List.cons_append, List.nil_append]; k_extra "SUBN")); (case k6 => first | exact rfl | assumption); (case k7 => ktr_room); (case k8 => ktr_units); (case k10 => exact off_three hoq9); (case k11 => (intro g9 hg9 hn9; k_extra "PREM")); intro v9 nw9 h9 tk9 F9 N9 hf9 hp9; obtain ⟨pl9, w9, hm9, hL9⟩ := hp9; (try dsimp only); (try k_fold)))
  trivial
theorem off_three {a b c d pd nl fd : Addr} {o1 o2 o3 p1 p2 p3 p4 : Obj} (h : ∀ q ∈ [a, b, c, d], @Ne Nat q pd ∧ @Ne Nat q nl ∧ @Ne Nat q fd) : ∀ q ∈ [(a, p1), (b, p2), (c, p3), (d, p4)], ∀ r ∈ [(pd, o1), (nl, o2), (fd, o3)], @Ne Nat q.1 r.1 := fun q hq r hr => by
  have hq' : q.1 ∈ [a, b, c, d] := List.mem_map_of_mem (f := Prod.fst) hq
  obtain ⟨x, y, z⟩ := h _ hq'
  rcases List.mem_cons.mp hr with rfl | hr
  · exact x
  · rcases List.mem_cons.mp hr with rfl | hr
    · exact y
    · rw [List.mem_singleton.mp hr]; exact z
theorem c_parsed (w : World) (cl : Addr) (pcs : List Pc) (hp1 : 1 ≤ pcs.length) (hp3 : pcs.length ≤ 3) :
    Spec w 20 240 (nat_lit 539) [.ref cl] (fun h => ListIn h cl (allCodes pcs)) (fun v nw => ParsedAs pcs v nw) := by
  unfold Spec; k_fill; intros; rename_i hpre hret
  obtain ⟨vs, hl, hi, hlen⟩ := hpre
  refine wpAny_call ?_
  k_extra "ENTER"
  k_extra "STEPS"
  refine' fin_sub hret ?kf ?kn ?km ?ko ?kp (fun _ h => h) ⟨_, _, _, _, rfl, rfl, hL9.mono ?kz⟩
  k_extra "FIN5"
  case kz => exact fun q hq => List.mem_append_left _ hq
noncomputable abbrev compO (P : Params) (f : Bool) (rl pl wl : Addr) (t1 t2 t3 t4 t5 t6 u1 u2 : Tok) : Obj :=
  dictOf [⟨PyData.keyHash P (Str.ofString "folds"), .str (Str.ofString "folds") t1, .bool f⟩, ⟨PyData.keyHash P (Str.ofString "rows"), .str (Str.ofString "rows") t2, .ref rl⟩,
    ⟨PyData.keyHash P (Str.ofString "places"), .str (Str.ofString "places") t3, .ref pl⟩, ⟨PyData.keyHash P (Str.ofString "labels"), .str (Str.ofString "labels") t4, .int 0 u1⟩,
    ⟨PyData.keyHash P (Str.ofString "marks"), .str (Str.ofString "marks") t5, .int 0 u2⟩, ⟨PyData.keyHash P (Str.ofString "waiting"), .str (Str.ofString "waiting") t6, .ref wl⟩] 6
theorem c_comp (w : World) (f : Bool) :
    Spec w 4 32 (nat_lit 639) [.bool f] (fun _ => True) (fun v nw => ∃ cc cd rl pl wl t1 t2 t3 t4 t5 t6 u1 u2, v = .ref cc ∧ nw = [(cc, instObj 639 cd), (cd, compO w.params f rl pl wl t1 t2 t3 t4 t5 t6 u1 u2), (rl, listOf #[] 0), (wl, listOf #[] 0)] ∧
      @Ne Nat rl wl ∧ (@Ne Nat cc rl ∧ @Ne Nat cc wl) ∧ (@Ne Nat cd rl ∧ @Ne Nat cd wl)) := by
  refine Spec.of_init (D := 2) (U := 24) (fI := nat_lit 575) (by kernel_rfl) (by kernel_rfl) (by kernel_rfl) (fun _ _ _ _ => trivial) fun mm dm hlt => ?_
  unfold CodeM; k_fill; intros; rename_i hg hpre hret
  k_extra "CODEM"
  k_extra "STEPS"
  refine' fin_m hret ?kf ?kn ?km ?ko ?kp ?ks ⟨rfl, _, _, _, _, _, _, _, _, _, _, _, _, _, rfl, rfl, ?z1, ⟨?z2, ?z3⟩, ⟨?z4, ?z5⟩⟩
  k_extra "FIN5"
  case ks => k_extra "SUBN"
  case z1 => k_ne
  case z2 => k_ne
  case z3 => k_ne
  case z4 => k_ne
  case z5 => k_ne
inductive CompFacts (P : Params) (h : Heap) (cc cd rl wl : Addr) (f : Bool) : Prop | mk (a : h.get? cc = some (instObj 639 cd)) (pl t1 t2 t3 t4 t5 t6 u1 u2) (b : h.get? cd = some (compO P f rl pl wl t1 t2 t3 t4 t5 t6 u1 u2))
theorem CompFacts.keeps {P : Params} {h h' : Heap} {cc cd rl wl : Addr} {f : Bool} (x : CompFacts P h cc cd rl wl f) (k : h.StaysIn h') : CompFacts P h' cc cd rl wl f :=
  let ⟨a, pl, t1, t2, t3, t4, t5, t6, u1, u2, b⟩ := x; ⟨k _ _ a, pl, t1, t2, t3, t4, t5, t6, u1, u2, k _ _ b⟩
example : True := by
  k_with "call builtin:len" => (k_here; (with_reducible show wpAny _ _ (call (Value.builtin "len") [Value.ref _]) _ _ _); k_dflt (refine' len_base ?k1 ?k2 ?k4 ?_; (case k1 => k_asm); (case k2 => exact hkr); (case k4 => first | assumption | exact Nat.le_of_ble_eq_true rfl); k_whole; intro _))
  k_with "call builtin:len" => (k_here; (with_reducible show wpAny _ _ (call (Value.builtin "len") [Value.ref _]) _ _ _); k_dflt (refine' KM.len_K (n := ws.length) ?k1 ?k2 ?k3 ?k4 ?_; (case k1 => k_asm); (case k2 => k_mem); (case k3 => exact List.size_toArray); (case k4 => omega); k_whole))
  k_with "call builtin:len" => (k_here; (with_reducible show wpAny _ _ (call (Value.builtin "len") [Value.ref _]) _ _ _); k_dflt (refine' KM.len_K (n := 1) ?k1 ?k2 ?k3 ?k4 ?_; (case k1 => k_asm); (case k2 => k_mem); (case k3 => exact rfl); (case k4 => decide); k_whole))
  k_with "call builtin:len" => (k_here; (with_reducible show wpAny _ _ (call (Value.builtin "len") [Value.ref _]) _ _ _); k_dflt (refine' KM.len_K (n := 2) ?k1 ?k2 ?k3 ?k4 ?_; (case k1 => k_asm); (case k2 => k_mem); (case k3 => exact rfl); (case k4 => decide); k_whole))
  k_with "call builtin:len" => (k_here; (with_reducible show wpAny _ _ (call (Value.builtin "len") [Value.ref _]) _ _ _); k_dflt (refine' KM.len_K (n := 3) ?k1 ?k2 ?k3 ?k4 ?_; (case k1 => k_asm); (case k2 => k_mem); (case k3 => exact rfl); (case k4 => decide); k_whole))
  k_with "ite" => (k_dflt (refine' ite_no ?k1 ?_; (case k1 => (simp only [List.length_cons, List.length_nil, decide_eq_true_eq]; omega))))
  trivial
theorem c_wait2 (w : World) (cc cd rl wl tl : Addr) (f : Bool) (rows ws : List Value) (kr kw kt : Nat) (a b : Value) (hr : rows.length ≤ 10) (hw : ws.length ≤ 10) (hne : @Ne Nat wl tl) :
    SpecM w 4 32 (nat_lit 589) [.ref cc, .ref tl] [(wl, listOf ws.toArray kw), (tl, listOf #[a, b] kt)]
      (fun g => CompFacts w.params g cc cd rl wl f ∧ g.get? rl = some (listOf rows.toArray kr))
      (fun v nw => v = .none ∧ ∃ k, nw = [(wl, listOf (ws ++ [b, a]).toArray k), (tl, listOf #[a, b] kt)]) := by
  unfold SpecM; k_fill; intros; rename_i hg hpre hret
  obtain ⟨⟨hcc, pl, t1, t2, t3, t4, t5, t6, u1, u2, hcd⟩, hrl⟩ := hpre
  have hkr : _root_.PySem.Heap.IsList _ rl rows.toArray := ⟨_, hrl, rfl, _, rfl⟩
  have hr' : rows.length ≤ 1000 := by omega
  refine wpAny_call ?_
  k_extra "ENTERM"
  k_extra "STEPS"
  k_extra "STEPSL"
  simp only [List.push_toArray, List.append_assoc, List.cons_append, List.nil_append] at *
  refine' fin_m (nw := [_, _]) hret ?kf ?kn ?km ?ko ?kp ?ks ⟨rfl, _, rfl⟩
  k_extra "FIN5"
  case ks => k_extra "SUBN"
theorem c_wait3 (w : World) (cc cd rl wl tl : Addr) (f : Bool) (rows ws : List Value) (kr kw kt : Nat) (a b c : Value) (hr : rows.length ≤ 10) (hw : ws.length ≤ 10) (hne : @Ne Nat wl tl) :
    SpecM w 4 32 (nat_lit 589) [.ref cc, .ref tl] [(wl, listOf ws.toArray kw), (tl, listOf #[a, b, c] kt)]
      (fun g => CompFacts w.params g cc cd rl wl f ∧ g.get? rl = some (listOf rows.toArray kr))
      (fun v nw => v = .none ∧ ∃ k, nw = [(wl, listOf (ws ++ [c, b, a]).toArray k), (tl, listOf #[a, b, c] kt)]) := by
  unfold SpecM; k_fill; intros; rename_i hg hpre hret
  obtain ⟨⟨hcc, pl, t1, t2, t3, t4, t5, t6, u1, u2, hcd⟩, hrl⟩ := hpre
  have hkr : _root_.PySem.Heap.IsList _ rl rows.toArray := ⟨_, hrl, rfl, _, rfl⟩
  have hr' : rows.length ≤ 1000 := by omega
  refine wpAny_call ?_
  k_extra "ENTERM"
  k_extra "STEPS"
  k_extra "STEPSL"
  simp only [List.push_toArray, List.append_assoc, List.cons_append, List.nil_append] at *
  refine' fin_m (nw := [_, _]) hret ?kf ?kn ?km ?ko ?kp ?ks ⟨rfl, _, rfl⟩
  k_extra "FIN5"
  case ks => k_extra "SUBN"
theorem plain_tup {P : Params} {h : Heap} (X : (K P).In h) : IsTup h (nat_lit 540) #[(.str (Str.ofString "any") (nat_lit 1003)), (.str (Str.ofString "set") (nat_lit 1004)), (.str (Str.ofString "syntax") (nat_lit 1005)), (.str (Str.ofString "at") (nat_lit 1006)), (.str (Str.ofString "back") (nat_lit 1007))] := ⟨_, X _ (o540 P) (by kernel_rfl), rfl, _, rfl⟩
example : True := by
  k_with "compareOp In str ref" => (k_here; (with_reducible show wpAny _ _ (compareOp CmpOp.In (Value.str _ _) (Value.ref _)) _ _ _); (with_unfolding_all refine' in_tuple_strs ?k1 ?k2 ?_; (case k1 => exact plain_tup (by k_in)); (case k2 => kde_strs); k_whole))
  k_with "ite" => (k_dflt (refine' ite_yes ?k1 ?_; (case k1 => decide +kernel)))
  k_with "ite" => (k_dflt (refine' ite_no ?k1 ?_; (case k1 => decide +kernel)))
  trivial
theorem c_node_row (w : World) (cc cd rl wl d : Addr) (f : Bool) (rows : List Value) (kr : Nat) (r : RRow) (hchar : ∀ k, r = .char k → dcase k = k) (hr : rows.length ≤ 10) :
    SpecM w 6 48 (nat_lit 601) [.ref cc, .ref d] [(rl, listOf rows.toArray kr)]
      (fun g => CompFacts w.params g cc cd rl wl f ∧ RowTup g d r)
      (fun v nw => v = .none ∧ ∃ d' ex, nw = [(rl, listOf (rows ++ [Value.ref d']).toArray (kr + 1))] ++ ex ∧ (∀ p ∈ ex, @Ne Nat p.1 rl) ∧ ((d' = d ∧ ex = []) ∨ RowLed ex d' r)) := by
  unfold SpecM; k_fill; intros; rename_i hg hpre hret
  obtain ⟨⟨hcc, pl, t1, t2, t3, t4, t5, t6, u1, u2, hcd⟩, hrow⟩ := hpre
  cases r with
  | char k =>
    obtain ⟨u, u', hrow⟩ := hrow
    refine wpAny_call ?_
    k_extra "ENTERM"
    k_extra "STEPS"
    · have hk := hchar k rfl
      simp only [List.push_toArray, hk] at *
      refine' fin_m hret ?kf ?kn ?km ?ko ?kp ?ks ⟨rfl, _, _, rfl, ?ka, .inr char_rowL⟩
      k_extra "FIN5"
      case ks => k_extra "SUBN"
      case ka => exact List.forall_mem_cons.mpr ⟨by k_ne, List.forall_mem_nil _⟩
    · simp only [List.push_toArray] at *
      refine' fin_m hret ?kf ?kn ?km ?ko ?kp ?ks ⟨rfl, _, _, rfl, ?ka, .inr char_rowL⟩
      k_extra "FIN5"
      case ks => k_extra "SUBN"
      case ka => exact List.forall_mem_cons.mpr ⟨by k_ne, List.forall_mem_nil _⟩
  | any =>
    obtain ⟨u, hrow⟩ := hrow
    refine wpAny_call ?_
    k_extra "ENTERM"
    k_extra "STEPS"
    simp only [List.push_toArray] at *
    refine' fin_m hret ?kf ?kn ?km ?ko ?kp ?ks ⟨rfl, d, [], rfl, (fun _ h => nomatch h), .inl ⟨rfl, rfl⟩⟩
    k_extra "FIN5"
    case ks => k_extra "SUBN"
  | set neg ps =>
    obtain ⟨u, rr, e, hrow, hR, hE⟩ := hrow
    refine wpAny_call ?_
    k_extra "ENTERM"
    k_extra "STEPS"
    simp only [List.push_toArray] at *
    refine' fin_m hret ?kf ?kn ?km ?ko ?kp ?ks ⟨rfl, d, [], rfl, (fun _ h => nomatch h), .inl ⟨rfl, rfl⟩⟩
    k_extra "FIN5"
    case ks => k_extra "SUBN"
section
variable {prog : Program} {w : World} {A : Around} {E : Value → Shared → Prop} {s : Shared} {h₀ : Heap} {L : Addr} {m : Str → Option Value} {env : Env} {news : List (Addr × Obj)}
theorem comp_tuple {elt iter : Expr} {x : Str} {px : Pos} {scope : Scope} {cl : List (Str × Addr)} {pos : Pos} {T : Addr} {its : Array Value} {Q : Value → Shared → Prop}
    (hh : A.handled = none) (hsz : its.size ≤ sizeLine) (F : Fr h₀ L s.heap m) (N : News h₀ L s.heap news) (hT : h₀.IsTuple T its)
    (hclos : closureFor scope env = pure cl) (hcell : ∀ y ∈ scope.names, y.2 ≠ .cell) (hkind : scope.kind = .function)
    (hnames : ∀ y ∈ scope.names, y.2 = .local → scope.names.lookup y.1 = some .local) (hx : scope.names.lookup x = some .local)
    (hi : wpAny (model prog w) A (eval iter env) (fun xv s₁ => xv = .ref T ∧ ∃ tk, s₁ = { s with toks := tk }) E s)
    (R : ∀ g tk, LCg.CompRest prog w A h₀ L m env elt x scope cl { s with heap := g, toks := tk } (fun _ => True) (fun i v => its[i]? = some v) (LCg.FinE h₀ L m { s with heap := g, toks := tk } Q) its.size 0 [] news)
    (hs : ∀ x, foldedSetIterable iter env x = pure x := by intro _; rfl) :
    wpAny (model prog w) A (eval (.ListComp elt [⟨.Name x px, iter, [], 0⟩] scope pos) env) Q E s := by
  rw [eval_ListComp]
  refine wpAny_comprehension_free (use := none) rfl hs hclos hkind hnames (wpAny_mono hi (fun xv s₁ h₁ => ?_) fun _ _ e => e)
  obtain ⟨rfl, tk₁, rfl⟩ := h₁
  have hTs : s.heap.IsTuple T its := hT.at fun o e => F.keep _ o e
  have hlt : T < s.heap.objs.size := by obtain ⟨_, e, _⟩ := hTs; exact Heap.lt_size e
  refine wpAny_pyIter_tuple hTs ?_
  have up : ∀ b o, s.heap.get? b = some o → (s.heap.push { cls := .type "tuple_iterator", dict := none, data := .fields #[.ref T, .int 0 0] }).get? b = some o := fun b o e => Heap.get?_push_of_some _ e
  refine LCg.block_U (S := fun _ => True) (Walks.tuple hh s.heap.objs.size T (Nat.ne_of_lt hlt) its) hsz (fun i h st => by obtain ⟨o, e, _⟩ := st.1; exact ⟨o, e⟩)
    (fun i h h' o nw st e e' k _ _ => ⟨by obtain ⟨o', q, r⟩ := st.1; rw [e] at q; cases q; exact ⟨o, e', r⟩, hT.at fun o e => k _ o e⟩) hcell hkind hx ⟨⟨_, Heap.get?_push_size _ rfl, rfl, rfl⟩, hTs.at fun o e => up _ o e⟩ (fun b hb => ?_)
    (F.keeps up) (N.grown up) (Nat.ne_of_lt F.ns.lt) (next_is_new F) (fun p hp => Nat.ne_of_lt (Heap.lt_size (N p hp).1)) trivial (R _ _) ?_
  · show b < (s.heap.push _).objs.size
    rw [Heap.size_push]
    rcases List.mem_cons.mp hb with rfl | hb
    · exact Nat.lt_succ_self _
    · rw [List.mem_singleton.mp hb]; exact Nat.lt_succ_of_lt hlt
  · intro D C h tk m' ys news' F' N' o1 hn hC₀ hD₀ hCL hDL hCD offC fin
    refine ⟨m', hn, fun h'' hs'' => fin D h'' tk (F'.change hs'' hCL hC₀) (fun p hp => ?_) o1⟩
    refine ⟨hs''.extBut _ _ ?_ (N' p hp).1, (N' p hp).2⟩
    rcases List.mem_cons.mp hp with rfl | hp
    · exact Ne.symm hCD
    · exact offC p hp
end
example : True := by
  k_with "MYTUP" => (k_dflt (refine' comp_tuple ?k1 ?k2 ?k3 ?k4 ?k5 ?k6 ?k7 ?k8 ?k9 ?k10 ?hi ?R ?hs; (case k1 => exact rfl); (case k3 => k_asm); (case k4 => k_asm); (case k5 => exact hT); (case k2 => (rw [sizeLine_eq]; exact Nat.le_of_ble_eq_true rfl)); (case k6 => exact rfl); (case k7 => decide); (case k8 => exact rfl); (case k9 => decide); (case k10 => exact rfl); (case hs => (intro _; rfl)); (case hi => k_extra "STEPSC"); intro g' tk'; lcg_lit))
  k_with "PREM" => (exact ⟨CompFacts.keeps ⟨hcc, pl, t1, t2, t3, t4, t5, t6, u1, u2, hcd⟩ hg9, hg9 _ _ hrl⟩)
  k_with "call ref" => (k_dflt (refine' SpecM.useU2 (c_wait2 _ cc cd rl wl _ f rows ws kr _ _ _ _ hr hw ?hne2) ?k1 ?k2 ?k3 ?k4 ?k5 ?k6 ?k7 ?k8 ?k9 ?k10 ?hne ?k11 ?_; (case k1 => k_asm); (case k2 => k_asm); (case k3 => k_asm); (case k4 => k_asm); (case k5 => k_asm); (case k6 => first | exact rfl | assumption); (case k7 => ktr_room); (case k8 => ktr_units); (case k9 => k_updF); (case k10 => (intro o9; (try dsimp only); k_updF)); (case k11 => (intro g9 hg9 hn9; k_extra "PREM")); (case hne2 => k_ne); (case hne => k_ne); intro v9 nw9 h9 tk9 F9 U9 N9 S9 hp9; obtain ⟨hv9, k9, hn9⟩ := hp9; subst hn9; subst hv9; (replace U9 := U9 _ _ (List.Mem.head _) (List.Mem.tail _ (List.Mem.head _))); clear N9 S9; (try dsimp only at U9); (try dsimp only); (try k_fold)))
  k_with "call ref" => (k_dflt (refine' SpecM.useU2 (c_wait3 _ cc cd rl wl _ f rows ws kr _ _ _ _ _ hr hw ?hne2) ?k1 ?k2 ?k3 ?k4 ?k5 ?k6 ?k7 ?k8 ?k9 ?k10 ?hne ?k11 ?_; (case k1 => k_asm); (case k2 => k_asm); (case k3 => k_asm); (case k4 => k_asm); (case k5 => k_asm); (case k6 => first | exact rfl | assumption); (case k7 => ktr_room); (case k8 => ktr_units); (case k9 => k_updF); (case k10 => (intro o9; (try dsimp only); k_updF)); (case k11 => (intro g9 hg9 hn9; k_extra "PREM")); (case hne2 => k_ne); (case hne => k_ne); intro v9 nw9 h9 tk9 F9 U9 N9 S9 hp9; obtain ⟨hv9, k9, hn9⟩ := hp9; subst hn9; subst hv9; (replace U9 := U9 _ _ (List.Mem.head _) (List.Mem.tail _ (List.Mem.head _))); clear N9 S9; (try dsimp only at U9); (try dsimp only); (try k_fold)))
  k_with "compareOp In str ref" => (k_here; (with_reducible show wpAny _ _ (compareOp CmpOp.In (Value.str _ _) (Value.ref _)) _ _ _); (with_unfolding_all refine' in_tuple_strs ?k1 ?k2 ?_; (case k1 => exact plain_tup (by k_in)); (case k2 => kde_strs); k_whole))
  k_with "ite" => (k_dflt (refine' ite_yes ?k1 ?_; (case k1 => decide +kernel)))
  k_with "ite" => (k_dflt (refine' ite_no ?k1 ?_; (case k1 => decide +kernel)))
  trivial
theorem c_node_seq2 (w : World) (cc cd rl wl S T d1 d2 : Addr) (f : Bool) (rows ws : List Value) (kr kw : Nat) (u : Tok) (hr : rows.length ≤ 10) (hw : ws.length ≤ 10) :
    SpecM w 8 80 (nat_lit 601) [.ref cc, .ref S] [(wl, listOf ws.toArray kw)]
      (fun g => CompFacts w.params g cc cd rl wl f ∧ g.get? rl = some (listOf rows.toArray kr) ∧ IsTup g S #[.str (Str.ofString "seq") u, .ref T] ∧ g.IsTuple T #[.ref d1, .ref d2])
      (fun v nw => v = .none ∧ ∃ k t1 t2 u1 u2, nw = [(wl, listOf (ws ++ [Value.ref t2, .ref t1]).toArray k), (t1, tupO #[.str (Str.ofString "node") u1, .ref d1]), (t2, tupO #[.str (Str.ofString "node") u2, .ref d2])] ∧ @Ne Nat t1 wl ∧ @Ne Nat t2 wl) := by
  unfold SpecM; k_fill; intros; rename_i hg hpre hret
  obtain ⟨⟨hcc, pl, t1, t2, t3, t4, t5, t6, u1, u2, hcd⟩, hrl, hrow, hT⟩ := hpre
  refine wpAny_call ?_
  k_extra "ENTERM"
  k_extra "STEPSC"
  k_extra "MYTUP"
  k_extra "STEPSC"
  refine' fin_m hret ?kf ?kn ?km ?ko ?kp ?ks ⟨rfl, _, _, _, _, _, rfl, ?z1, ?z2⟩
  k_extra "FIN5"
  case ks => k_extra "SUBN"
  case z1 => k_ne
  case z2 => k_ne
theorem c_node_seq3 (w : World) (cc cd rl wl S T d1 d2 d3 : Addr) (f : Bool) (rows ws : List Value) (kr kw : Nat) (u : Tok) (hr : rows.length ≤ 10) (hw : ws.length ≤ 10) :
    SpecM w 8 80 (nat_lit 601) [.ref cc, .ref S] [(wl, listOf ws.toArray kw)]
      (fun g => CompFacts w.params g cc cd rl wl f ∧ g.get? rl = some (listOf rows.toArray kr) ∧ IsTup g S #[.str (Str.ofString "seq") u, .ref T] ∧ g.IsTuple T #[.ref d1, .ref d2, .ref d3])
      (fun v nw => v = .none ∧ ∃ k t1 t2 t3 u1 u2 u3, nw = [(wl, listOf (ws ++ [Value.ref t3, .ref t2, .ref t1]).toArray k), (t1, tupO #[.str (Str.ofString "node") u1, .ref d1]), (t2, tupO #[.str (Str.ofString "node") u2, .ref d2]), (t3, tupO #[.str (Str.ofString "node") u3, .ref d3])] ∧ @Ne Nat t1 wl ∧ @Ne Nat t2 wl ∧ @Ne Nat t3 wl) := by
  unfold SpecM; k_fill; intros; rename_i hg hpre hret
  obtain ⟨⟨hcc, pl, t1, t2, t3, t4, t5, t6, u1, u2, hcd⟩, hrl, hrow, hT⟩ := hpre
  refine wpAny_call ?_
  k_extra "ENTERM"
  k_extra "STEPSC"
  k_extra "MYTUP"
  k_extra "STEPSC"
  refine' fin_m hret ?kf ?kn ?km ?ko ?kp ?ks ⟨rfl, _, _, _, _, _, _, _, rfl, ?z1, ?z2, ?z3⟩
  k_extra "FIN5"
  case ks => k_extra "SUBN"
  case z1 => k_ne
  case z2 => k_ne
  case z3 => k_ne
section
variable {prog : Program} {w : World} {A : Around} {E : Value → Shared → Prop} {s : Shared} {env : Env} {h₀ : Heap} {L : Addr} {Q : Flow → Shared → Prop} {body : List Stmt} {x : Str}
theorem list_J {l : Addr} {its : Array Value} {m₀ : Str → Option Value} {news₀ news' : List (Addr × Obj)} (J : Nat → (Str → Option Value) → List (Addr × Obj) → Prop) (hh : A.handled = none) (hl : h₀.IsList l its)
    (F : Fr h₀ env.locals s.heap m₀) (N : News h₀ env.locals s.heap news') (hs : ∀ p ∈ news₀, p ∈ news') (hj : J 0 m₀ news₀)
    (turn : ∀ (i : Nat) v m₁ nx h tk own, its[i]? = some v → J i m₁ nx → (∀ p ∈ own, ∀ q ∈ nx, q.1 ≠ p.1) → Fr h₀ env.locals h (fun y => if y = x then some v else m₁ y) → News h₀ env.locals h (nx ++ own) →
      wpAny (model prog w) A (execs body env) (JEnd h₀ env.locals (J (i + 1)) nx own { s with heap := h, toks := tk } Q) E { s with heap := h, toks := tk })
    (done : ∀ m₁ nx h tk, J its.size m₁ nx → Fr h₀ env.locals h m₁ → News h₀ env.locals h nx → Q .next { s with heap := h, toks := tk }) :
    wpAny (model prog w) A (pyIter (.ref l)) (fun it s₂ => LoopAtV prog w A h₀ env x body Q E it s₂) E s := by
  have hls : s.heap.IsList l its := F.lst hl
  have hlt : l < s.heap.objs.size := by obtain ⟨_, e, _⟩ := hls; exact Heap.lt_size e
  refine wpAny_pyIter_list hls ?_
  have N₀ : News h₀ env.locals s.heap news₀ := fun p hp => N p (hs p hp)
  have up : ∀ b o, s.heap.get? b = some o → (s.heap.push { cls := .type "list_iterator", data := .fields #[.ref l, .int 0 0] }).get? b = some o := fun b o e => Heap.get?_push_of_some _ e
  refine ⟨s.heap.objs.size, [s.heap.objs.size, l], [s.heap.objs.size], its.size, fun i v => its[i]? = some v, fun i h => h.IsListIter s.heap.objs.size l i ∧ h.IsList l its, m₀, news₀, J, rfl, Walks.list hh s.heap.objs.size l (Nat.ne_of_lt hlt) its, ?_, ?_, ?_, ⟨⟨_, Heap.get?_push_size _ rfl, rfl, rfl⟩, hls.push _⟩, F.push _, fun p hp => ⟨up _ _ (N₀ p hp).1, (N₀ p hp).2⟩, hj, ?_, ?_⟩
  · intro hm
    rcases List.mem_cons.mp hm with hm | hm
    · exact absurd F.ns.lt (hm ▸ Nat.lt_irrefl _)
    · have := F.above
      obtain ⟨_, e, _⟩ := hl
      have h2 := Heap.lt_size e
      rw [← List.mem_singleton.mp hm] at h2
      exact absurd h2 (Nat.not_lt.mpr this)
  · intro b hb
    rw [List.mem_singleton.mp hb]
    exact next_is_new F
  · intro p hp hI
    exact absurd (Heap.lt_size (N₀ p hp).1) ((List.mem_singleton.mp hI) ▸ Nat.lt_irrefl _)
  · rintro i v m₁ nx s₁ own ⟨hh', tk', rfl⟩ hin hv hJ hoff hown hat _ hst F₁ N₁
    have N₂ : News h₀ env.locals hh' (nx ++ own) := fun p hp => N₁ p ((List.mem_append.mp hp).elim (fun h => List.mem_append.mpr (.inr h)) fun h => List.mem_append.mpr (.inl h))
    obtain ⟨oI, hI, _⟩ : ∃ o, hh'.get? s.heap.objs.size = some o ∧ True := by obtain ⟨o, e, _⟩ := hst.1; exact ⟨o, e, trivial⟩
    refine wpAny_mono (turn i v m₁ nx hh' tk' own hv hJ (fun p hp q hq e => ?_) F₁ N₂) (fun f s₂ p => ?_) fun _ _ e => e
    · rcases List.mem_cons.mp (hown p hp) with h | h
      · exact hoff q hq (by rw [e, h]; exact List.mem_singleton.mpr rfl)
      · obtain ⟨o, eo, _⟩ := hl
        have := (N₂ q (List.mem_append_left _ hq)).2.2
        rw [e, List.mem_singleton.mp h, eo] at this; cases this
    have fin : ∀ {f}, (f = Flow.next ∨ f = Flow.cont) → JEnd h₀ env.locals (J (i + 1)) nx own { s with heap := hh', toks := tk' } Q f s₂ → LoopStepU h₀ env.locals [s.heap.objs.size] own (J (i + 1)) { s with heap := hh', toks := tk' } .next s₂ := by
      rintro f hf p
      have p' : ∃ h' tk m' news' nx', s₂ = { s with heap := h', toks := tk } ∧ Fr h₀ env.locals h' m' ∧ News h₀ env.locals h' news' ∧ (∀ p ∈ nx', p ∈ news') ∧ (∀ p ∈ own, p ∈ news') ∧ (∀ p ∈ nx', (∃ q ∈ nx, q.1 = p.1) ∨ hh'.get? p.1 = none) ∧ J (i + 1) m' nx' := by
        rcases hf with rfl | rfl <;> exact p
      obtain ⟨h', tk, m', news', nx', e, F', N', h1, h2, h3, h4⟩ := p'
      refine ⟨rfl, h', tk, m', nx', e, F', fun p hp => N' p ((List.mem_append.mp hp).elim (h2 p) (h1 p)), fun p hp hq => ?_, h4⟩
      rcases h3 p hp with ⟨q, hq1, hq2⟩ | h3
      · exact hoff q hq1 (hq2 ▸ hq)
      · rw [List.mem_singleton.mp hq, hI] at h3; cases h3
    cases f with
    | ret v => exact .ret p
    | brk => exact .brk p
    | next => exact .next (fin (.inl rfl) p)
    | cont => exact .cont (fin (.inr rfl) p)
  · rintro h' tk m' news' F' N' _ hJ
    exact done m' news' h' tk hJ F' N'
end
theorem canonFound {m' : Str → Option Value} {c fv : Value} (h2 : m' (Str.ofString "found") = some fv) (h3 : m' (Str.ofString "self") = some c) :
    m' = fun y => if y = Str.ofString "found" then some fv else if y = Str.ofString "self" then some c else m' y := by
  funext y
  by_cases e2 : y = Str.ofString "found"
  · simp only [e2, if_true]; exact h2
  · simp only [e2, if_false]
    by_cases e3 : y = Str.ofString "self"
    · simp only [e3, if_true]; exact h3
    · simp only [e3, if_false]
inductive PlainRow (h : Heap) (v : Value) : Prop | mk (t : Addr) (W : Str) (u : Tok) (items : List Value) (a : v = .ref t) (b : IsTup h t (Value.str W u :: items).toArray) (c : (W == Str.ofString "split") = false) (d : (W == Str.ofString "progress") = false) (e : (W == Str.ofString "jump") = false)
example : True := by
  k_with "HEAD0" => (k_here; (with_reducible show wpAny _ _ (subscriptTail _ _ (Value.ref _) (Value.int 0 _)) _ _ _); (with_unfolding_all refine' item_head ?k1 ?k2 ?_ ?k6 ?k7); k_dflt ((case k6 => with_unfolding_all rfl); (case k7 => (intro _; with_unfolding_all rfl)); (case k1 => k_asm); (case k2 => exact hword); k_whole))
  k_with "subscriptTail Name Constant ref int" => (k_extra "HEAD0")
  k_with "subscriptTail" => (k_extra "HEAD0")
  k_with "call builtin:list.append" => (k_here; (with_reducible show wpAny _ _ (call (Value.builtin _) [Value.ref _, _]) _ _ _); k_dflt (refine' append_K ?k1 ?k2 ?k3 ?_ ?z; (case k1 => k_asm); (case k2 => k_asm); (case k3 => exact Upd.head hofl); (case z => (rw [sizeLine_eq, List.size_toArray]; exact Nat.le_trans htake (by decide))); k_whole); intro h' F' N')
  k_with "ite" => (k_dflt (refine' ite_no ?k1 ?_; (case k1 => (simp only [hw1, hw2, hw3]; decide))))
  trivial
set_option maxHeartbeats 500000 in
theorem c_settled (w : World) (cc cd rl wl : Addr) (f : Bool) (rowsV : List Value) (kr : Nat) (hn : rowsV.length ≤ 4) :
    Spec w 4 64 (nat_lit 636) [.ref cc] (fun h => CompFacts w.params h cc cd rl wl f ∧ h.get? rl = some (listOf rowsV.toArray kr) ∧ ∀ v ∈ rowsV, PlainRow h v) (fun v nw => ∃ fl k, v = .ref fl ∧ nw = [(fl, listOf rowsV.toArray k)]) := by
  unfold Spec; k_fill; intros; rename_i hpre hret
  obtain ⟨⟨hcc, pl, t1, t2, t3, t4, t5, t6, u1, u2, hcd⟩, hrl, hrows⟩ := hpre
  refine wpAny_call ?_
  k_extra "ENTER"
  k_extra "STEPS"
  with_unfolding_all refine list_J (its := rowsV.toArray) (fun i m nx => ∃ (fl : Addr) (k : Nat) (u : Str → Option Value), nx = [(fl, listOf (rowsV.take i).toArray k)] ∧ m = fun y => if y = Str.ofString "found" then some (.ref fl) else if y = Str.ofString "self" then some (.ref cc) else u y) rfl ⟨_, hrl, rfl, _, rfl⟩ (by k_asm) (by assumption) (fun _ h => h) ⟨_, _, _, rfl, canonFound rfl rfl⟩ ?turn ?done
  case turn =>
    intro i v m₁ nx h tk own hv hJ hoff F N
    obtain ⟨fl, k, u, rfl, rfl⟩ := hJ
    have hv' : rowsV[i]? = some v := by simpa using hv
    have hil := (List.getElem?_eq_some_iff.mp hv').1
    obtain ⟨t, W, u', items, rfl, hword, hw1, hw2, hw3⟩ := hrows v (List.mem_of_getElem? hv')
    have hofl : ∀ p ∈ own, @Ne Nat p.1 fl := fun p hp e => hoff p hp _ (.head _) e.symm
    have htake : (rowsV.take i).length ≤ 4 := by rw [List.length_take]; omega
    simp only [List.cons_append, List.nil_append] at N
    (try dsimp only)
    (try k_fold)
    k_extra "STEPS"
    have ht : (rowsV.take i).toArray.push (Value.ref t) = (rowsV.take (i + 1)).toArray := by rw [List.push_toArray, List.take_add_one, hv']; rfl
    simp only [ht] at *
    refine' jend_next [(fl, listOf (rowsV.take (i + 1)).toArray (k + 1))] ?kf ?kn ?ks ?ko (fun q hq => .inl ⟨(fl, _), .head _, by rw [List.mem_singleton.mp hq]⟩) ⟨fl, k + 1, _, rfl, ?kc⟩
    case kf => k_asm
    case kn => assumption
    case ks => k_extra "SUBN"
    case ko => exact fun q hq => .tail _ hq
    case kc => (refine' canonFound ?x1 ?x2; (case x1 => exact rfl); (case x2 => exact rfl))
  case done =>
    intro m₁ nx h tk hJ F N
    obtain ⟨fl, k, u, rfl, rfl⟩ := hJ
    have hall : rowsV.take rowsV.toArray.size = rowsV := by rw [List.size_toArray, List.take_length]
    simp only [hall] at N
    (try dsimp only)
    k_extra "STEPS"
    refine' fin_sub hret ?kf ?kn ?km ?ko ?kp (fun _ h => h) ⟨fl, k, rfl, rfl⟩
    k_extra "FIN5"
theorem c_regcode (w : World) (rl : Addr) (f : Bool) (t t' : Tok) :
    Spec w 4 32 (nat_lit 557) [.ref rl, .int 0 t, .int 0 t', .bool f] (fun _ => True) (fun v nw => ∃ x, v = .ref x ∧ ∀ h : Heap, (∀ p ∈ nw, h.get? p.1 = some p.2) → FoldsOf h x rl f) := by
  refine Spec.of_init (D := 2) (U := 24) (fI := nat_lit 554) (by kernel_rfl) (by kernel_rfl) (by kernel_rfl) (fun _ _ _ _ => trivial) fun mm dm hlt => ?_
  unfold CodeM; k_fill; intros; rename_i hg hpre hret
  k_extra "CODEM"
  k_extra "STEPS"
  refine' fin_m hret ?kf ?kn ?km ?ko ?kp (fun _ h => h) ⟨rfl, _, rfl, ?kz⟩
  k_extra "FIN5"
  case kz => exact fun h hh => ⟨_, _, _, _, _, _, _, _, _, _, _, hh (_, _) (.head _), hh (_, _) (.tail _ (.head _))⟩
noncomputable def mirr (size : Int) (r : Option (Int × Int)) : Option (Int × Int) := r.map fun p => (size - p.2, size - p.1)
theorem codeAt_rev (ns : List Int) (p : Int) : codeAt ns.reverse (ns.length - 1 - p) = codeAt ns p := by
  unfold codeAt
  rw [List.length_reverse]
  by_cases h : 0 ≤ p ∧ p < ns.length
  · rw [if_pos (by omega), if_pos h]
    have h1 : ((ns.length : Int) - 1 - p).toNat = ns.length - 1 - p.toNat := by omega
    have h2 : p.toNat < ns.length := by omega
    rw [h1, List.getD_eq_getElem?_getD, List.getD_eq_getElem?_getD, List.getElem?_reverse (by omega), show ns.length - 1 - (ns.length - 1 - p.toNat) = p.toNat by omega]
  · rw [if_neg (by omega), if_neg h]
theorem here_rev (ns ws : List Int) (p : Int) (f : Bool) : hereB ns.reverse ws.reverse (ns.length - ws.length - p) f = hereB ns ws p f := by
  rw [Bool.eq_iff_iff, here_iff, here_iff, List.length_reverse]
  have key : ∀ j : Nat, j < ws.length → sameC f (codeAt ns.reverse (ns.length - ws.length - p + j)) (ws.reverse.getD j 0) = sameC f (codeAt ns (p + (ws.length - 1 - j : Nat))) (ws.getD (ws.length - 1 - j) 0) := fun j hj => by
    rw [← codeAt_rev ns (p + (ws.length - 1 - j : Nat)), show (ns.length : Int) - 1 - (p + (ws.length - 1 - j : Nat)) = ns.length - ws.length - p + j by omega, List.getD_eq_getElem?_getD, List.getElem?_reverse hj, ← List.getD_eq_getElem?_getD]
  constructor
  · intro h j hj
    have := h (ws.length - 1 - j) (by omega)
    rw [key _ (by omega), show ws.length - 1 - (ws.length - 1 - j) = j by omega] at this
    exact this
  · intro h j hj
    rw [key j hj]
    exact h _ (by omega)
theorem firstN_congr {good good' : Nat → Bool} {n : Nat} (h : ∀ i, i < n → good i = good' i) : firstN good n = firstN good' n := by
  cases e : firstN good' n with
  | none =>
    unfold firstN at e
    rw [List.find?_eq_none] at e
    exact firstN_none fun i hi => by rw [h i hi]; simpa using e i (List.mem_range.mpr hi)
  | some k =>
    unfold firstN at e
    rw [List.find?_range_eq_some] at e
    obtain ⟨h1, h2, h3⟩ := e
    have hk := List.mem_range.mp h2
    exact firstN_some (fun i hi => by rw [h i (by omega)]; simpa using h3 i hi) (by rw [h k hk]; exact h1) hk
theorem fwd_mirror (ns ws : List Int) (place bound : Int) (f : Bool) (hp0 : 0 ≤ place) (hp : place ≤ ns.length) (hb0 : 0 ≤ bound) (hb : bound ≤ ns.length) :
    mirr ns.length (fwd ns ws place bound f) = bwd ns.reverse ws.reverse (ns.length - place) (ns.length - bound) f := by
  unfold fwd bwd mirr
  have hN : fwdN ns ws place bound = bwdN ws.reverse (ns.length - place) (ns.length - bound) := by unfold fwdN bwdN; rw [List.length_reverse]; omega
  rw [hN, firstN_congr (good' := fun i => hereB ns.reverse ws.reverse ((ns.length : Int) - place - ws.reverse.length - i) f) fun i _ => by
    rw [← here_rev ns ws (place + i) f, List.length_reverse, show (ns.length : Int) - ws.length - (place + i) = ns.length - place - ws.length - i by omega]]
  cases firstN (fun i => hereB ns.reverse ws.reverse ((ns.length : Int) - place - ws.reverse.length - i) f) (bwdN ws.reverse (ns.length - place) (ns.length - bound)) with
  | none => rfl
  | some i =>
    simp only [Option.map_some, List.length_reverse, Option.some.injEq, Prod.mk.injEq]
    omega
theorem run_rev (f : Bool) (ns : List Int) (rs : List RRow) (place bound : Int) (i : Nat) :
    runB f ns.reverse rs.reverse (ns.length - place) (ns.length - place - (i + rs.length : Nat)) = true ↔ ∀ (j : Nat) r, rs[j]? = some r → takenB f r (codeAt ns (place + i + j)) = true := by
  rw [run_iff]
  have key : ∀ j : Nat, j < rs.length → rs.reverse[j]? = rs[rs.length - 1 - j]? ∧ codeAt ns.reverse ((ns.length : Int) - place - (i + rs.length : Nat) + j) = codeAt ns (place + i + (rs.length - 1 - j : Nat)) := fun j hj => by
    refine ⟨List.getElem?_reverse hj, ?_⟩
    rw [← codeAt_rev ns (place + i + (rs.length - 1 - j : Nat))]
    congr 1; omega
  constructor
  · intro h j r hr
    have hj := (List.getElem?_eq_some_iff.mp hr).1
    obtain ⟨k1, k2⟩ := key (rs.length - 1 - j) (by omega)
    rw [show rs.length - 1 - (rs.length - 1 - j) = j by omega] at k1 k2
    have := (h (rs.length - 1 - j) r (k1.trans hr)).2
    rw [k2] at this; exact this
  · intro h j r hr
    have hj : j < rs.length := by have := (List.getElem?_eq_some_iff.mp hr).1; simpa using this
    obtain ⟨k1, k2⟩ := key j hj
    refine ⟨by omega, ?_⟩
    rw [k2]
    exact h _ r (k1 ▸ hr)
theorem run_fwd (f : Bool) (ns : List Int) (rs : List RRow) (bound p : Int) (h : p + rs.length ≤ bound) : runB f ns rs bound p = true ↔ ∀ (j : Nat) r, rs[j]? = some r → takenB f r (codeAt ns (p + j)) = true := by
  rw [run_iff]
  exact ⟨fun h j r hr => (h j r hr).2, fun g j r hr => ⟨by have := (List.getElem?_eq_some_iff.mp hr).1; omega, g j r hr⟩⟩
theorem run_short (f : Bool) (ns : List Int) (rs : List RRow) (bound p : Int) (h : bound < p + rs.length) (hr : 0 < rs.length) : runB f ns rs bound p = false := by
  cases e : runB f ns rs bound p with
  | false => rfl
  | true =>
    have := (run_iff.mp e (rs.length - 1) rs[rs.length - 1] (by simp)).1
    omega
theorem firstN_shift {good : Nat → Bool} {k n : Nat} (h : ∀ i, i < k → good i = false) : firstN good (n + k) = (firstN (fun i => good (i + k)) n).map (· + k) := by
  cases e : firstN (fun i => good (i + k)) n with
  | none =>
    unfold firstN at e
    rw [List.find?_eq_none] at e
    refine firstN_none fun i hi => ?_
    by_cases hk : i < k
    · exact h i hk
    · have := e (i - k) (List.mem_range.mpr (by omega))
      rw [show i - k + k = i by omega] at this; simpa using this
  | some j =>
    unfold firstN at e
    rw [List.find?_range_eq_some] at e
    obtain ⟨h1, h2, h3⟩ := e
    have hk := List.mem_range.mp h2
    refine firstN_some (fun i hi => ?_) h1 (by show j + k < n + k; omega)
    have hi : i < j + k := hi
    by_cases hik : i < k
    · exact h i hik
    · have := h3 (i - k) (by omega)
      rw [show i - k + k = i by omega] at this; simpa using this
theorem re_mirror (f : Bool) (ns : List Int) (rs : List RRow) (place bound : Int) (hr : 0 < rs.length) (hp0 : 0 ≤ place) (hp : place ≤ ns.length) (hb0 : 0 ≤ bound) (hb : bound ≤ ns.length) :
    mirr ns.length (reFwd f ns rs place bound) = reBwd f ns.reverse rs.reverse (ns.length - place) (ns.length - bound) := by
  unfold reFwd reBwd mirr
  rw [show min bound (ns.length : Int) = bound by omega, show ((ns.length : Int) - place - (max (ns.length - bound) 0 - 1)).toNat = (bound + 1 - place).toNat by omega]
  have hshort : ∀ i, i < rs.length → runB f ns.reverse rs.reverse ((ns.length : Int) - place) ((ns.length : Int) - place - i) = false := fun i hi => run_short _ _ _ _ _ (by rw [List.length_reverse]; omega) (by rw [List.length_reverse]; exact hr)
  rcases Nat.lt_or_ge (bound + 1 - place).toNat rs.length with hlt | hge
  · rw [firstN_none fun i hi => run_short _ _ _ _ _ (by omega) hr, firstN_none fun i hi => hshort i (by omega)]; rfl
  · obtain ⟨n, hn⟩ : ∃ n, (bound + 1 - place).toNat = n + rs.length := ⟨(bound + 1 - place).toNat - rs.length, by omega⟩
    have e1 : firstN (fun i => runB f ns rs bound (place + i)) (n + rs.length) = firstN (fun i => runB f ns rs bound (place + i)) n := by
      cases e : firstN (fun i => runB f ns rs bound (place + i)) n with
      | none =>
        unfold firstN at e
        rw [List.find?_eq_none] at e
        refine firstN_none fun i hi => ?_
        by_cases hin : i < n
        · simpa using e i (List.mem_range.mpr hin)
        · exact run_short _ _ _ _ _ (by omega) hr
      | some k =>
        unfold firstN at e
        rw [List.find?_range_eq_some] at e
        obtain ⟨h1, h2, h3⟩ := e
        have hk := List.mem_range.mp h2
        exact firstN_some (fun i hi => by simpa using h3 i hi) h1 (by omega)
    have e2 : firstN (fun i => runB f ns.reverse rs.reverse ((ns.length : Int) - place) ((ns.length : Int) - place - (i + rs.length : Nat))) n = firstN (fun i => runB f ns rs bound (place + i)) n := firstN_congr fun i hi => by
      rw [Bool.eq_iff_iff]
      exact (run_rev f ns rs place bound i).trans (run_fwd f ns rs bound (place + i) (by omega)).symm
    rw [hn, e1, firstN_shift hshort, e2]
    cases firstN (fun i => runB f ns rs bound (place + i)) n with
    | none => rfl
    | some i =>
      simp only [Option.map_some, List.length_reverse, Option.some.injEq, Prod.mk.injEq]
      omega
theorem again_mirror {size : Int} {g g' : Int → Option (Int × Int)} (hg : ∀ p, 0 ≤ p → p ≤ size → g' (size - p) = mirr size (g p)) (hr : ∀ p a b, 0 ≤ p → p ≤ size → g p = some (a, b) → 0 ≤ b ∧ b ≤ size) :
    ∀ (n : Nat) (p : Int) (last : Option (Int × Int)), 0 ≤ p → p ≤ size → mirr size (againV g true n p last) = againV g' false n (size - p) (mirr size last)
  | 0, _, _, _, _ => rfl
  | n + 1, p, last, h0, h1 => by
    unfold againV
    rw [hg p h0 h1]
    cases e : g p with
    | none => rfl
    | some ab =>
      obtain ⟨a, b⟩ := ab
      obtain ⟨b0, b1⟩ := hr p a b h0 h1 e
      simp only [mirr, Option.map_some, if_true, Bool.false_eq_true, if_false]
      by_cases hb : b = p
      · subst hb; simp
      · rw [if_neg hb, if_neg (by omega)]
        exact again_mirror hg hr n b (some (a, b)) b0 b1
section
variable {prog : Program} {w : World} {A : Around} {E : Value → Shared → Prop} {s : Shared} {h₀ : Heap} {L : Addr} {m mg mb : Str → Option Value} {env : Env} {news : List (Addr × Obj)} {p : Program} {loose : List Str} {mean : ExcName → Option Value}
theorem dict_new {pos : Pos} {Q : Value → Shared → Prop} (F : Fr h₀ L s.heap m) (N : News h₀ L s.heap news) (T : Top p loose mean mg mb h₀)
    (k : ∀ d h', Fr h₀ L h' m → News h₀ L h' ((d, dictOf [] 0) :: news) → (∀ p ∈ news, p.1 < d) → (d == sysModules) = false → Q (.ref d) { s with heap := h' }) : wpAny (model prog w) A (eval (.Dict [] [] pos) env) Q E s :=
  wpAny_Dict_empty (k _ _ (F.push _) (News.push F N _) (fun p hp => Heap.lt_size (N p hp).1) (F.notModules (modules_low T.nolimit)))
end
example : True := by
  k_with "CODEMD" => (k_dflt (refine' enterM ?k1 ?k2 ?k3 ?k4 ?k5 ?kO ?kG ?kA ?kF ?kK ?k6 ?k7 ?k8 ?k9 ?kB ?_ ?c2 ?c3 ?c4 ?c5; (case kA => exact rfl); (case kF => exact rfl); (case kK => assumption); (case k1 => k_asm); (case k2 => k_asm); (case k3 => k_asm); (case k4 => assumption); (case k5 => k_asm); (case kO => assumption); (case kG => assumption); (case k6 => k_is); (case k7 => k_is); (case k8 => ktr_room); (case k9 => first | ((with_reducible refine' bindsD2_1 ?b1 ?b2 ?b3 ?b4 ?b5); (case b1 => k_in); (case b2 => k_is); (case b3 => rfl); (case b4 => rfl); (case b5 => rfl)) | ((with_reducible refine' bindsD3_3 ?b1 ?b2 ?b3 ?b4 ?b5); (case b1 => k_in); (case b2 => k_is); (case b3 => rfl); (case b4 => rfl); (case b5 => rfl))); (case c5 => decide); (case kB => exact locs rfl); (case c2 => exact rfl); (case c3 => exact rfl); (case c4 => exact rfl); k_whole; intro L' h' tk' F' N' B' X' T' l1 hE'; (dsimp only [updL, List.foldl] at F'); (try k_lt l1); (try dsimp only); (try k_fold)))
  trivial
theorem c_textrow (w : World) (cl : Addr) (ns : List Int) (t : Tok) (hn : ns.length ≤ 9) :
    Spec w 4 32 (nat_lit 816) [.ref cl, .int 0 t] (fun h => ListIn h cl ns) (fun v nw => ∃ x, v = .ref x ∧ ∀ h : Heap, (∀ p ∈ nw, h.get? p.1 = some p.2) → RowIn h x ns) := by
  refine Spec.of_init (D := 2) (U := 24) (fI := nat_lit 792) (by kernel_rfl) (by kernel_rfl) (by kernel_rfl) (fun h h' k x => x.keeps k) fun mm dm hlt => ?_
  unfold CodeM; k_fill; intros; rename_i hg hpre hret
  obtain ⟨vs, hl, hi, hlen⟩ := hpre
  k_extra "CODEMD"
  k_extra "STEPS"
  refine' fin_m hret ?kf ?kn ?km ?ko ?kp (fun _ h => h) ⟨rfl, _, rfl, ?kz⟩
  k_extra "FIN5"
  case kz => exact fun h hh => ⟨_, _, _, _, _, _, _, _, vs, hh (_, _) (.tail _ (.head _)), hh (_, _) (.tail _ (.tail _ (.head _))), ⟨_, hh (_, _) (.head _), rfl, _, rfl⟩, hi, hn⟩
example : True := by
  k_with "eval Dict nil nil" => (k_dflt (refine' dict_new ?F ?N ?T ?_; (case F => k_asm); (case N => k_asm); (case T => k_asm); intro d' h' F' N' l1 lo9; (try k_lt l1)))
  trivial
theorem c_table (w : World) :
    Spec w 4 32 (nat_lit 773) [] (fun _ => True) (fun v nw => ∃ x, v = .ref x ∧ ∀ h : Heap, (∀ p ∈ nw, h.get? p.1 = some p.2) → TableIn h x) := by
  refine Spec.of_init (D := 2) (U := 24) (fI := nat_lit 721) (by kernel_rfl) (by kernel_rfl) (by kernel_rfl) (fun _ _ _ _ => trivial) fun mm dm hlt => ?_
  unfold CodeM; k_fill; intros; rename_i hg hpre hret
  k_extra "CODEMD"
  k_extra "STEPS"
  refine' fin_m hret ?kf ?kn ?km ?ko ?kp (fun _ h => h) ⟨rfl, _, rfl, ?kz⟩
  k_extra "FIN5"
  case kz => exact fun h hh => ⟨_, _, _, _, _, _, _, _, hh (_, _) (.tail _ (.head _)), hh (_, _) (.tail _ (.tail _ (.head _))), hh (_, _) (.head _), lo9⟩
theorem c_mirrored_none (w : World) (size : Int) (ts : Tok) : Spec w 2 16 (nat_lit 839) [.none, .int size ts] (fun _ => True) (fun v nw => nw = [] ∧ v = .none) := by
  unfold Spec; k_fill; intros; rename_i hret
  refine wpAny_call ?_
  k_extra "ENTER"
  k_extra "STEPS"
  k_extra "FINVAL"
  rfl
example : True := by
  k_with "subscriptTail Name Constant ref int" => (k_extra "ITEMB")
  trivial
theorem c_mirrored (w : World) (l d : Addr) (a b size : Int) (t u ts : Tok) (k : Nat) : Spec w 2 16 (nat_lit 839) [.ref l, .int size ts] (fun h => h.get? l = some (listOf #[.ref d] k) ∧ h.get? d = some (tupII a b t u)) (fun v nw => FoundAs (some (size - b, size - a)) v nw) := by
  unfold Spec; k_fill; intros; rename_i hpre hret
  obtain ⟨hl, hd⟩ := hpre
  have hkl : _root_.PySem.Heap.IsList _ l [Value.ref d].toArray := ⟨_, hl, rfl, _, rfl⟩
  have htup : IsTup _ d #[.int a t, .int b u] := isTup_of hd
  refine wpAny_call ?_
  k_extra "ENTER"
  k_extra "STEPS"
  refine' fin_sub (nw := [_, _]) hret ?kf ?kn ?km ?ko ?kp ?ks ⟨_, _, _, _, _, rfl, rfl⟩
  k_extra "FIN5"
  case ks => k_extra "SUBN"
theorem c_lwhole_none (w : World) : Spec w 2 16 (nat_lit 846) [.none] (fun _ => True) (fun v nw => nw = [] ∧ v = .none) := by
  unfold Spec; k_fill; intros; rename_i hret
  refine wpAny_call ?_
  k_extra "ENTER"
  k_extra "STEPS"
  k_extra "FINVAL"
  rfl
theorem c_lwhole (w : World) (l d : Addr) (k : Nat) : Spec w 2 16 (nat_lit 846) [.ref l] (fun h => h.get? l = some (listOf #[.ref d] k)) (fun v nw => ∃ l' k', v = .ref l' ∧ nw = [(l', listOf #[.ref d] k')]) := by
  unfold Spec; k_fill; intros; rename_i hl hret
  have hkl : _root_.PySem.Heap.IsList _ l [Value.ref d].toArray := ⟨_, hl, rfl, _, rfl⟩
  refine wpAny_call ?_
  k_extra "ENTER"
  k_extra "STEPS"
  refine' fin_sub (nw := [_]) hret ?kf ?kn ?km ?ko ?kp ?ks ⟨_, _, rfl, rfl⟩
  k_extra "FIN5"
  case ks => k_extra "SUBN"
noncomputable def DeckObj (ds : Addr) (k : Int) (kd : Nat) (t : Tok) : Obj := listOf #[.ref ds, .int k t] kd
theorem c_draw (w : World) (dk ds : Addr) (k many : Int) (kd : Nat) (t tm : Tok) (cells : List Value) (ns : List Int) (hk : 0 ≤ k) (hk2 : k < 100000) (hm : 0 < many) (hm2 : many < 1000) (hns : ns.length ≤ 40) :
    SpecM w 3 24 (nat_lit 827) [.ref dk, .int many tm] [(dk, listOf #[.ref ds, .int k t] kd)]
      (fun g => g.IsList ds cells.toArray ∧ IntsAre cells ns ∧ ∀ n ∈ ns, 0 ≤ n)
      (fun v nw => ∃ r tr t' kd', 0 ≤ r ∧ r < many ∧ v = .int r tr ∧ nw = [(dk, listOf #[.ref ds, .int (k + 1) t'] kd')]) := by
  unfold SpecM; k_fill; intros; rename_i hg hpre hret
  obtain ⟨hl, hi, hpos⟩ := hpre
  refine wpAny_call ?_
  k_extra "ENTERM"
  k_extra "STEPS"
  · refine' fin_m (nw := [_]) hret ?kf ?kn ?km ?ko ?kp ?ks ⟨_, _, _, _, ?z1, ?z2, rfl, rfl⟩
    k_extra "FIN5"
    case ks => k_extra "SUBN"
    case z1 => exact Int.fmod_nonneg_of_pos _ hm
    case z2 => exact Int.fmod_lt_of_pos _ hm
  · refine' fin_m (nw := [_]) hret ?kf ?kn ?km ?ko ?kp ?ks ⟨_, _, _, _, ?z1, ?z2, rfl, rfl⟩
    k_extra "FIN5"
    case ks => k_extra "SUBN"
    case z1 => exact Int.fmod_nonneg_of_pos _ hm
    case z2 => exact Int.fmod_lt_of_pos _ hm
inductive Tk | done (u : Tok) | row (p : Pc) | seq2 (u : Tok) (T d1 d2 : Addr) (p1 p2 : Pc) | seq3 (u : Tok) (T d1 d2 d3 : Addr) (p1 p2 p3 : Pc)
noncomputable def tkWord : Tk → Str
  | .done _ => Str.ofString "row" | .row _ => Str.ofString "node" | .seq2 .. => Str.ofString "node" | .seq3 .. => Str.ofString "node"
noncomputable def tkOut : Tk → List (Option Pc)
  | .done _ => [none] | .row p => [some p] | .seq2 _ _ _ _ p1 p2 => [some p1, some p2] | .seq3 _ _ _ _ _ p1 p2 p3 => [some p1, some p2, some p3]
noncomputable def tkSize : Tk → Nat
  | .done _ => 1 | .row _ => 1 | .seq2 .. => 3 | .seq3 .. => 4
noncomputable def Led (ex : List (Addr × Obj)) (h : Heap) : Prop := ∀ p ∈ ex, h.get? p.1 = some p.2
noncomputable def TkAt (h : Heap) (d : Addr) : Tk → Prop
  | .done u => IsTup h d #[Value.str (Str.ofString "done") u]
  | .row p => RowTup h d (prow p)
  | .seq2 u T d1 d2 p1 p2 => IsTup h d #[Value.str (Str.ofString "seq") u, Value.ref T] ∧ h.IsTuple T #[Value.ref d1, .ref d2] ∧ RowTup h d1 (prow p1) ∧ RowTup h d2 (prow p2)
  | .seq3 u T d1 d2 d3 p1 p2 p3 => IsTup h d #[Value.str (Str.ofString "seq") u, Value.ref T] ∧ h.IsTuple T #[Value.ref d1, .ref d2, .ref d3] ∧ RowTup h d1 (prow p1) ∧ RowTup h d2 (prow p2) ∧ RowTup h d3 (prow p3)
noncomputable def TaskLed (ex : List (Addr × Obj)) (t : Addr × Tok × Addr × Tk) : Prop := ∀ h : Heap, Led ex h → IsTup h t.1 #[Value.str (tkWord t.2.2.2) t.2.1, .ref t.2.2.1] ∧ TkAt h t.2.2.1 t.2.2.2
noncomputable def OLed (ex : List (Addr × Obj)) (t : Addr) : Option Pc → Prop
  | none => ∃ u, ∀ h : Heap, Led ex h → IsTup h t #[Value.str (Str.ofString "done") u]
  | some p => ∀ h : Heap, Led ex h → RowTup h t (prow p)
noncomputable def RowsOk (ex : List (Addr × Obj)) (rows : List Value) (got : List (Option Pc)) : Prop := rows.length = got.length ∧ ∀ (i : Nat) (x : Option Pc), got[i]? = some x → ∃ t, rows[i]? = some (Value.ref t) ∧ OLed ex t x
theorem Led.sub {ex ex' : List (Addr × Obj)} {h : Heap} (x : Led ex' h) (k : ∀ p ∈ ex, p ∈ ex') : Led ex h := fun p hp => x p (k p hp)
theorem OLed.mono {ex ex' : List (Addr × Obj)} {t : Addr} {o : Option Pc} (x : OLed ex t o) (k : ∀ p ∈ ex, p ∈ ex') : OLed ex' t o := by
  cases o with
  | none => obtain ⟨u, x⟩ := x; exact ⟨u, fun h hh => x h (hh.sub k)⟩
  | some p => exact fun h hh => x h (hh.sub k)
theorem TaskLed.mono {ex ex' : List (Addr × Obj)} {t : Addr × Tok × Addr × Tk} (x : TaskLed ex t) (k : ∀ p ∈ ex, p ∈ ex') : TaskLed ex' t := fun h hh => x h (hh.sub k)
theorem RowsOk.mono {ex ex' : List (Addr × Obj)} {rows : List Value} {got : List (Option Pc)} (x : RowsOk ex rows got) (k : ∀ p ∈ ex, p ∈ ex') : RowsOk ex' rows got :=
  ⟨x.1, fun i o h => let ⟨t, a, b⟩ := x.2 i o h; ⟨t, a, b.mono k⟩⟩
theorem RowsOk.snoc {ex : List (Addr × Obj)} {rows : List Value} {got : List (Option Pc)} {t : Addr} {o : Option Pc} (x : RowsOk ex rows got) (y : OLed ex t o) : RowsOk ex (rows ++ [.ref t]) (got ++ [o]) := by
  refine ⟨by simp [x.1], fun i z hz => ?_⟩
  rcases Nat.lt_or_ge i got.length with h | h
  · rw [List.getElem?_append_left h] at hz
    obtain ⟨t', a, b⟩ := x.2 i z hz
    exact ⟨t', by rw [List.getElem?_append_left (by rw [x.1]; exact h)]; exact a, b⟩
  · rw [List.getElem?_append_right h] at hz
    have hi : i - got.length = 0 := by
      have := (List.getElem?_eq_some_iff.mp hz).1
      simp at this; omega
    rw [hi] at hz
    obtain rfl : o = z := by simpa using hz
    exact ⟨t, by rw [List.getElem?_append_right (by rw [x.1]; exact h), x.1, hi]; rfl, y⟩
theorem led_at {g h : Heap} {L : Addr} {m : Str → Option Value} {news nn ex : List (Addr × Obj)} (F : Fr g L h m) (N : News g L h news) (hnn : Led nn g) (hs : ∀ p ∈ ex, p ∈ news) : Led (nn ++ ex) h := fun p hp =>
  (List.mem_append.mp hp).elim (fun q => F.keep _ _ (hnn p q)) fun q => (N p (hs p q)).1
theorem led_g {g₀ g : Heap} {nn ex : List (Addr × Obj)} (k : g₀.StaysIn g) (hnn : Led nn g₀) (h : Led ex g) : Led (nn ++ ex) g := fun p hp => (List.mem_append.mp hp).elim (fun q => k _ _ (hnn p q)) (h p)
theorem prow_char {p : Pc} : ∀ k, prow p = .char k → dcase k = k := by
  intro k h
  cases p <;> simp [prow] at h <;> subst h <;> decide
theorem canon2 (a b : Str) {m' : Str → Option Value} {c fv : Value} (h2 : m' a = some fv) (h3 : m' b = some c) : m' = fun y => if y = a then some fv else if y = b then some c else m' y := by
  funext y
  by_cases e2 : y = a
  · simp only [e2, if_true]; exact h2
  · simp only [e2, if_false]
    by_cases e3 : y = b
    · simp only [e3, if_true]; exact h3
    · simp only [e3, if_false]
section
variable {prog : Program} {w : World} {A : Around} {E : Value → Shared → Prop} {s : Shared}
theorem ne_len {a b : Addr} {vs us : List Value} {Q : Value → Shared → Prop} (hl : s.heap.IsList a vs.toArray) (hl' : s.heap.IsList b us.toArray) (hn : vs.length ≠ us.length) (hu : A.units < cLine)
    (h : Q (.bool true) s) : wpAny (model prog w) A (compareOp .NotEq (.ref a) (.ref b)) Q E s :=
  SeqAt.RcNeAt.lists_lengths hl hl' (by simpa using hn) hu prog w E Q h
end
theorem snoc_last {ws : List Value} {v : Value} : kl_last (ws ++ [v]).toArray.toList = some (ws, v) := kpa_last v ws
theorem snoc_size {ws : List Value} {v : Value} (h : ws.length ≤ 9) : (ws ++ [v]).toArray.toList.length ≤ sizeLine := by
  rw [sizeLine_eq]; simp only [List.length_append, List.length_singleton]; omega
theorem tk_pos (k : Tk) : 1 ≤ tkSize k := by cases k <;> exact Nat.le_of_ble_eq_true rfl
theorem stk_len {stk : List (Addr × Tok × Addr × Tk)} : stk.length ≤ (stk.map fun t => tkSize t.2.2.2).sum := by
  induction stk with
  | nil => exact Nat.le_refl _
  | cons t r ih => have := tk_pos t.2.2.2; simp only [List.length_cons, List.map_cons, List.sum_cons]; omega
noncomputable def stkV (stk : List (Addr × Tok × Addr × Tk)) : List Value := (stk.map fun t => Value.ref t.1).reverse
theorem stkV_cons {t : Addr × Tok × Addr × Tk} {r : List (Addr × Tok × Addr × Tk)} : stkV (t :: r) = stkV r ++ [.ref t.1] := by simp [stkV]
theorem stkV_len {stk : List (Addr × Tok × Addr × Tk)} : (stkV stk).length = stk.length := by simp [stkV]
inductive CrJ (cc rl wl : Addr) (nn : List (Addr × Obj)) (fin : List (Option Pc)) (n : Nat) (m' : Str → Option Value) (nw : List (Addr × Obj)) : Prop
  | mk (stk : List (Addr × Tok × Addr × Tk)) (rows : List Value) (got : List (Option Pc)) (kr kw : Nat) (many : Int) (tm : Tok) (ex : List (Addr × Obj)) (u' : Str → Option Value)
    (a : n = (stk.map fun t => tkSize t.2.2.2).sum) (b : 0 ≤ many ∧ many + n ≤ 9) (c : nw = (rl, listOf rows.toArray kr) :: (wl, listOf (stkV stk).toArray kw) :: ex) (d : ∀ p ∈ ex, @Ne Nat p.1 rl ∧ @Ne Nat p.1 wl)
    (e : ∀ t ∈ stk, TaskLed (nn ++ ex) t) (g : RowsOk (nn ++ ex) rows got) (i : got ++ stk.flatMap (fun t => tkOut t.2.2.2) = fin) (j : m' = fun y => if y = Str.ofString "many" then some (Value.int many tm) else if y = Str.ofString "self" then some (Value.ref cc) else u' y)
example : True := by
  k_with "PREM" => (exact ⟨CompFacts.keeps ⟨hcc, pl, t1, t2, t3, t4, t5, t6, u1, u2, hcd⟩ hg9, hn9 (rl, _) (by k_mem) (by k_ne) (by k_ne)⟩)
  k_with "call ref" => (k_dflt (refine' SpecM.useU2 (c_wait2 _ cc cd rl wl _ f [] [] 0 _ _ _ _ (Nat.zero_le _) (Nat.zero_le _) ?hne2) ?k1 ?k2 ?k3 ?k4 ?k5 ?k6 ?k7 ?k8 ?k9 ?k10 ?hne ?k11 ?_; (case k1 => k_asm); (case k2 => k_asm); (case k3 => k_asm); (case k4 => k_asm); (case k5 => k_asm); (case k6 => first | exact rfl | assumption); (case k7 => ktr_room); (case k8 => ktr_units); (case k9 => k_updF); (case k10 => (intro o9; (try dsimp only); k_updF)); (case k11 => (intro g9 hg9 hn9; k_extra "PREM")); (case hne2 => k_ne); (case hne => k_ne); intro v9 nw9 h9 tk9 F9 U9 N9 S9 hp9; obtain ⟨hv9, k9, hn9⟩ := hp9; subst hn9; subst hv9; (replace U9 := U9 _ _ (List.Mem.head _) (List.Mem.tail _ (List.Mem.head _))); clear N9 S9; (try dsimp only at U9); (try dsimp only); (try k_fold)))
  trivial
example : True := by
  k_with "compareOp NotEq ref ref" => (k_dflt (refine' ne_len (us := []) ?k1 ?k2 ?k3 ?k4 ?_; (case k1 => exact News.isList (by k_asm) (by k_mem)); (case k2 => exact News.isList (by k_asm) (by k_mem)); (case k3 => (simp only [List.length_append, List.length_cons, List.length_nil]; omega)); (case k4 => ktr_units)))
  k_with "call builtin:list.pop" => (k_dflt (refine' kl_pop ?F ?N ?e ?U ?z ?_; (case F => k_asm); (case N => k_asm); (case U => k_extra "UPDW"); (case e => exact snoc_last); (case z => exact snoc_size hwsl)); intro h' F' N'; (try dsimp only at N'))
  k_with "UPDW" => (first | (refine' Upd.head ?a; (case a => exact hexw)) | (refine' Upd.tail ?a ?b; (case a => k_ne); (case b => k_extra "UPDW")))
  k_with "UPDR" => (first | (refine' Upd.head ?a; (case a => exact List.forall_mem_cons.mpr ⟨by k_ne, hexr⟩)) | (refine' Upd.tail ?a ?b; (case a => k_ne); (case b => k_extra "UPDR")))
  k_with "LEDAT" => (exact htup _ (led_at (by k_asm) (by k_asm) hnn (by intro q hq; k_extra "TAILS")))
  k_with "TAILS" => (repeat' first | exact hq | refine List.Mem.tail _ ?_)
  k_with "assign Tuple" => (k_here; (with_reducible show wpAny _ _ (assign (Expr.Tuple _ _ _) _ (Value.ref _)) _ _ _); k_dflt (refine' unpackN_ ?k1 ?k2 ?k3 ?k4 ?k5 ?k6 ?_; (case k1 => k_asm); (case k2 => k_asm); (case k3 => k_extra "LEDAT"); (case k4 => exact rfl); (case k5 => exact rfl); (case k6 => exact rfl); k_whole); intro h' F' N')
  k_with "call builtin:list.append" => (k_here; (with_reducible show wpAny _ _ (call (Value.builtin _) [Value.ref _, _]) _ _ _); k_dflt (refine' append_K ?k1 ?k2 ?k3 ?_ ?z; (case k1 => k_asm); (case k2 => k_asm); (case k3 => k_extra "UPDR"); (case z => (rw [sizeLine_eq, List.size_toArray]; exact Nat.le_trans hgl (by decide))); k_whole); intro h' F' N')
  k_with "PREM" => (exact ⟨CompFacts.keeps ⟨hcc, pl, t1, t2, t3, t4, t5, t6, u1, u2, hcd⟩ hg9, (ht g9 (led_g hg9 hnn (fun q hq => hn9 q (.tail _ hq)))).2⟩)
  k_with "call ref" => (k_dflt (refine' SpecM.useG (rest := (wl, listOf ws.toArray (kw + 1)) :: ex) (c_node_row _ cc cd rl wl d f rows kr (prow p) prow_char (Nat.le_trans hgl (by decide))) ?k1 ?k2 ?k3 ?k4 ?k5 ?k6 ?k7 ?k8 ?k9 ?k10 ?k11 ?_; (case k1 => k_asm); (case k2 => k_asm); (case k3 => k_asm); (case k4 => k_asm); (case k5 => k_asm); (case k9 => exact fun q hq => .tail _ hq); (case k6 => first | exact rfl | assumption); (case k7 => ktr_room); (case k8 => ktr_units); (case k10 => exact off_one (Ne.symm hrw) hexr); (case k11 => (intro g9 hg9 hn9; k_extra "PREM")); intro v9 nw9 h9 tk9 F9 N9 hf9 hp9; obtain ⟨hv9, d9, ex9, hn9, ho9, hr9⟩ := hp9; subst hv9; subst hn9; (have hw9 := off_wl (o := listOf ws.toArray (kw + 1)) (by exact News.get (by assumption) (by k_mem)) hf9 ho9); clear hf9; (try dsimp only); (try k_fold)))
  k_with "PREM2" => (exact ⟨CompFacts.keeps ⟨hcc, pl, t1, t2, t3, t4, t5, t6, u1, u2, hcd⟩ hg9, hn9 (rl, _) (.head _), (ht g9 (led_g hg9 hnn (fun q hq => hn9 q (.tail _ hq)))).2.1, (ht g9 (led_g hg9 hnn (fun q hq => hn9 q (.tail _ hq)))).2.2.1⟩)
  k_with "call ref" => (k_dflt (refine' SpecM.useG (rest := (rl, listOf rows.toArray kr) :: ex) (c_node_seq2 _ cc cd rl wl d T2 d1 d2 f rows ws kr (kw + 1) u9 (Nat.le_trans hgl (by decide)) (Nat.le_trans hwsl (by decide))) ?k1 ?k2 ?k3 ?k4 ?k5 ?k6 ?k7 ?k8 ?k9 ?k10 ?k11 ?_; (case k1 => k_asm); (case k2 => k_asm); (case k3 => k_asm); (case k4 => k_asm); (case k5 => k_asm); (case k9 => exact mem_swap); (case k6 => first | exact rfl | assumption); (case k7 => ktr_room); (case k8 => ktr_units); (case k10 => exact off_one hrw hexw); (case k11 => (intro g9 hg9 hn9; k_extra "PREM2")); intro v9 nw9 h9 tk9 F9 N9 hf9 hp9; obtain ⟨hv9, k9, x1, x2, y1, y2, hn9, hw1, hw2⟩ := hp9; subst hv9; subst hn9; (have hq1 := off_rl (x := x1) (by exact News.get (by assumption) (by k_mem)) hf9 hrw (.tail _ (.head _))); (have hq2 := off_rl (x := x2) (by exact News.get (by assumption) (by k_mem)) hf9 hrw (.tail _ (.tail _ (.head _)))); clear hf9; (try dsimp only); (try k_fold)))
  k_with "call ref" => (k_dflt (refine' SpecM.useG (rest := (rl, listOf rows.toArray kr) :: ex) (c_node_seq3 _ cc cd rl wl d T2 d1 d2 d3 f rows ws kr (kw + 1) u9 (Nat.le_trans hgl (by decide)) (Nat.le_trans hwsl (by decide))) ?k1 ?k2 ?k3 ?k4 ?k5 ?k6 ?k7 ?k8 ?k9 ?k10 ?k11 ?_; (case k1 => k_asm); (case k2 => k_asm); (case k3 => k_asm); (case k4 => k_asm); (case k5 => k_asm); (case k9 => exact mem_swap); (case k6 => first | exact rfl | assumption); (case k7 => ktr_room); (case k8 => ktr_units); (case k10 => exact off_one hrw hexw); (case k11 => (intro g9 hg9 hn9; k_extra "PREM2")); intro v9 nw9 h9 tk9 F9 N9 hf9 hp9; obtain ⟨hv9, k9, x1, x2, x3, y1, y2, y3, hn9, hw1, hw2, hw3⟩ := hp9; subst hv9; subst hn9; (have hq1 := off_rl (x := x1) (by exact News.get (by assumption) (by k_mem)) hf9 hrw (.tail _ (.head _))); (have hq2 := off_rl (x := x2) (by exact News.get (by assumption) (by k_mem)) hf9 hrw (.tail _ (.tail _ (.head _)))); (have hq3 := off_rl (x := x3) (by exact News.get (by assumption) (by k_mem)) hf9 hrw (.tail _ (.tail _ (.tail _ (.head _))))); clear hf9; (try dsimp only); (try k_fold)))
  k_with "STEPSI" => (repeat' ((fail_if_success (with_reducible show wpAny _ _ (exec (Stmt.If _ _ _ _) _) _ _ _)); (fail_if_success (with_reducible show wpAny _ _ (execs [Stmt.If _ _ _ _] _) _ _ _)); first | (k_unfold; (try dsimp only)) | walk1 | (dsimp only; walk1) | (dsimp only; k_unfold; (try dsimp only)) | fail "no step"))
  trivial
theorem off_one {rl wl : Addr} {o o' : Obj} {ex : List (Addr × Obj)} (h : @Ne Nat wl rl) (k : ∀ p ∈ ex, @Ne Nat p.1 rl) : ∀ q ∈ (wl, o) :: ex, ∀ r ∈ [(rl, o')], @Ne Nat q.1 r.1 := fun q hq r hr => by
  rw [List.mem_singleton.mp hr]
  rcases List.mem_cons.mp hq with rfl | hq
  · exact h
  · exact k q hq
theorem off_wl {h : Heap} {rl wl : Addr} {o o₁ o₂ : Obj} {ex : List (Addr × Obj)} (hwl : h.get? wl = some o) (hf : ∀ q ∈ [(rl, o₂)] ++ ex, (∃ r ∈ [(rl, o₁)], q.1 = r.1) ∨ h.get? q.1 = none) (ho : ∀ p ∈ ex, @Ne Nat p.1 rl) : ∀ p ∈ ex, @Ne Nat p.1 wl := fun p hp e => by
  rcases hf p (List.mem_append_right _ hp) with ⟨r, hr, e'⟩ | e'
  · rw [List.mem_singleton.mp hr] at e'; exact ho p hp e'
  · rw [show p.1 = wl from e, hwl] at e'; cases e'
theorem off_rl {h : Heap} {rl wl x : Addr} {o o₁ ox : Obj} {nw : List (Addr × Obj)} (hrl : h.get? rl = some o) (hf : ∀ q ∈ nw, (∃ r ∈ [(wl, o₁)], q.1 = r.1) ∨ h.get? q.1 = none) (hne : @Ne Nat rl wl) (hm : (x, ox) ∈ nw) : @Ne Nat x rl := fun e => by
  rcases hf _ hm with ⟨r, hr, e'⟩ | e'
  · rw [List.mem_singleton.mp hr] at e'; exact hne (e.symm.trans e')
  · rw [show (x, ox).1 = rl from e, hrl] at e'; cases e'
theorem mem_mid {a b c : List (Addr × Obj)} : ∀ p ∈ a ++ c, p ∈ a ++ (b ++ c) := fun p hp => (List.mem_append.mp hp).elim (List.mem_append_left _) fun h => List.mem_append_right _ (List.mem_append_right _ h)
theorem mem_two {a c : List (Addr × Obj)} {x y : Addr × Obj} : ∀ p ∈ a ++ c, p ∈ a ++ (x :: y :: c) := fun p hp => (List.mem_append.mp hp).elim (List.mem_append_left _) fun h => List.mem_append_right _ (.tail _ (.tail _ h))
theorem mem_three {a c : List (Addr × Obj)} {x y z : Addr × Obj} : ∀ p ∈ a ++ c, p ∈ a ++ (x :: y :: z :: c) := fun p hp => (List.mem_append.mp hp).elim (List.mem_append_left _) fun h => List.mem_append_right _ (.tail _ (.tail _ (.tail _ h)))
theorem mem_swap {x y z : Addr × Obj} {l : List (Addr × Obj)} : ∀ p ∈ [y] ++ (x :: l), p ∈ z :: x :: y :: l := fun p hp => by simp at hp ⊢; rcases hp with h | h | h <;> simp [h]
theorem mem_node {x y : Addr × Obj} {a l : List (Addr × Obj)} : ∀ p ∈ x :: y :: (a ++ l), p ∈ ([x] ++ a) ++ (y :: l) := fun p hp => by simp at hp ⊢; rcases hp with h | h | h | h <;> simp [h]
theorem mem_seq2 {x y a b : Addr × Obj} {l : List (Addr × Obj)} : ∀ p ∈ x :: y :: (a :: b :: l), p ∈ [y, a, b] ++ (x :: l) := fun p hp => by simp at hp ⊢; rcases hp with h | h | h | h | h <;> simp [h]
theorem mem_seq3 {x y a b c : Addr × Obj} {l : List (Addr × Obj)} : ∀ p ∈ x :: y :: (a :: b :: c :: l), p ∈ [y, a, b, c] ++ (x :: l) := fun p hp => by simp at hp ⊢; rcases hp with h | h | h | h | h | h <;> simp [h]
set_option maxHeartbeats 1000000 in
theorem c_crun (w : World) (cc cd rl wl d0 : Addr) (f : Bool) (k0 : Tk) (nn : List (Addr × Obj)) (hw0 : tkWord k0 = Str.ofString "node") (hs0 : tkSize k0 ≤ 4) (ho0 : (tkOut k0).length ≤ 3) (hk0 : ∀ h : Heap, Led nn h → TkAt h d0 k0) (hrw : @Ne Nat rl wl) :
    SpecM w 12 160 (nat_lit 596) [.ref cc, .ref d0] [(rl, listOf #[] 0), (wl, listOf #[] 0)] (fun g => CompFacts w.params g cc cd rl wl f ∧ Led nn g)
      (fun v nw => v = .none ∧ ∃ rows k, (rl, listOf rows.toArray k) ∈ nw ∧ RowsOk (nn ++ nw) rows (tkOut k0 ++ [none])) := by
  unfold SpecM; k_fill; intros; rename_i hg hpre hret
  obtain ⟨⟨hcc, pl, t1, t2, t3, t4, t5, t6, u1, u2, hcd⟩, hnn⟩ := hpre
  refine wpAny_call ?_
  k_extra "ENTERM"
  k_extra "STEPS"
  rename_i tkA D2 hA l1a D1 hB l1b D3 hC l1c lT hD l1d
  refine' while_ret (J := CrJ cc rl wl nn (tkOut k0 ++ [none])) (tkSize k0 + 1) F' N' ?hs ⟨[(D2, tkA, d0, k0), (D3, tkA + 1, D1, .done (tkA + 1 + 1))], [], [], 0, k9, 0, _, [(lT, _), (D3, _), (D1, _), (D2, _)], _, ?j1, ⟨Int.le_refl _, ?j2⟩, rfl, ?j3, ?j4, ⟨rfl, fun i x h => nomatch h⟩, rfl, ?j5⟩ ?_
  case hs => k_extra "SUBN"
  case j1 => show tkSize k0 + 1 = tkSize k0 + (1 + 0); omega
  case j2 => omega
  case j3 => repeat' first | exact List.forall_mem_nil _ | (refine List.forall_mem_cons.mpr ⟨⟨by k_ne, by k_ne⟩, ?_⟩)
  case j5 => (refine' canon2 _ _ ?x1 ?x2; (case x1 => exact rfl); (case x2 => exact rfl))
  case j4 =>
    refine List.forall_mem_cons.mpr ⟨fun h hh => ⟨?_, hk0 h (hh.sub fun _ q => List.mem_append_left _ q)⟩, List.forall_mem_cons.mpr ⟨fun h hh => ⟨isTup_of (hh (D3, _) (List.mem_append_right _ (.tail _ (.head _)))), isTup_of (hh (D1, _) (List.mem_append_right _ (.tail _ (.tail _ (.head _)))))⟩, List.forall_mem_nil _⟩⟩
    show IsTup h D2 #[Value.str (tkWord k0) tkA, Value.ref d0]
    rw [hw0]
    exact isTup_of (hh (D2, _) (List.mem_append_right _ (.tail _ (.tail _ (.tail _ (.head _))))))
  rintro n m₁ news₁ h₁ tk₁ F₁ N₁ ⟨stk, rows, got, kr, kw, many, tm, ex, u', rfl, ⟨hm0, hm9⟩, rfl, hex, hstk, hrows, hfin, rfl⟩
  have hgl : rows.length ≤ 4 := by
    have h1 := hrows.1
    have h2 := congrArg List.length hfin
    simp only [List.length_append, List.length_singleton] at h2
    omega
  have hexr : ∀ p ∈ ex, @Ne Nat p.1 rl := fun p hp => (hex p hp).1
  have hexw : ∀ p ∈ ex, @Ne Nat p.1 wl := fun p hp => (hex p hp).2
  cases stk with
  | nil =>
    (try dsimp only)
    k_extra "STEPS"
    refine' fin_m hret ?kf ?kn ?km ?ko ?kp ?ks ⟨rfl, rows, kr, .head ((wl, listOf (stkV []).toArray kw) :: ex), ?kz⟩
    k_extra "FIN5"
    case ks => exact fun _ h => .tail _ h
    case kz =>
      have e : got = tkOut k0 ++ [none] := by simpa using hfin
      rw [← e]
      exact hrows.mono fun q hq => (List.mem_append.mp hq).elim (fun z => List.mem_append_left _ z) fun z => List.mem_append_right _ (.tail _ (.tail _ z))
  | cons t r =>
    obtain ⟨T, u, d, k⟩ := t
    have ht := hstk (T, u, d, k) (.head _)
    have hlr := stk_len (stk := r)
    have htp := tk_pos k
    simp only [List.map_cons, List.sum_cons] at hm9
    rw [stkV_cons] at N₁
    have hwsl : (stkV r).length ≤ 9 := by rw [stkV_len]; omega
    generalize hws : stkV r = ws at N₁ hwsl
    dsimp only at N₁
    obtain ⟨W, hW⟩ : ∃ W, tkWord k = W := ⟨_, rfl⟩
    have htup : ∀ h : Heap, Led (nn ++ ex) h → IsTup h T #[Value.str W u, Value.ref d] := fun h hh => by rw [← hW]; exact (ht h hh).1
    (try dsimp only)
    k_extra "STEPSI"
    walk1
    k_extra "STEPSI"
    cases k with
    | done ud =>
      have hW' : Str.ofString "row" = W := hW
      subst hW'
      (try dsimp only)
      k_extra "STEPS"
      simp only [List.push_toArray] at *
      refine' wstep_next (news₂ := (rl, listOf (rows ++ [Value.ref d]).toArray (kr + 1)) :: (wl, listOf ws.toArray (kw + 1)) :: ex) ?kf ?kn ?ks ?kl ⟨r, rows ++ [.ref d], got ++ [none], kr + 1, kw + 1, many + 1, _, ex, _, rfl, ⟨?ka, ?kb⟩, ?ke, hex, fun t h => hstk t (.tail _ h), hrows.snoc ⟨ud, fun h hh => (ht h hh).2⟩, ?kg, ?kc⟩
      case kf => k_asm
      case kn => assumption
      case ks => exact fun q hq => .tail _ hq
      case kl => (simp only [List.map_cons, List.sum_cons]; exact Nat.lt_add_of_pos_left htp)
      case ka => omega
      case kb => (have hz : tkSize (.done ud) = 1 := rfl; omega)
      case ke => rw [hws]
      case kg => (rw [← hfin]; simp [tkOut])
      case kc => (refine' canon2 _ _ ?x1 ?x2; (case x1 => exact rfl); (case x2 => exact rfl))
    | row p =>
      have hW' : Str.ofString "node" = W := hW
      subst hW'
      (try dsimp only)
      k_extra "STEPS"
      refine' wstep_next (news₂ := (rl, listOf (rows ++ [Value.ref d9]).toArray (kr + 1)) :: (wl, listOf ws.toArray (kw + 1)) :: (ex9 ++ ex)) ?kf ?kn ?ks ?kl ⟨r, rows ++ [.ref d9], got ++ [some p], kr + 1, kw + 1, many + 1, _, ex9 ++ ex, _, rfl, ⟨?ka, ?kb⟩, ?ke, ?kx, ?kt, ?ko, ?kg, ?kc⟩
      case kf => k_asm
      case kn => assumption
      case ks => exact mem_node
      case kl => (simp only [List.map_cons, List.sum_cons]; exact Nat.lt_add_of_pos_left htp)
      case ka => omega
      case kb => (have hz : tkSize (.row p) = 1 := rfl; omega)
      case ke => rw [hws]
      case kx => exact fun q hq => (List.mem_append.mp hq).elim (fun z => ⟨ho9 q z, hw9 q z⟩) (hex q)
      case kt => exact fun t h => (hstk t (.tail _ h)).mono mem_mid
      case ko =>
        refine (hrows.mono mem_mid).snoc fun h hh => ?_
        rcases hr9 with ⟨e1, e2⟩ | hr9
        · rw [e1]; exact (ht h (hh.sub mem_mid)).2
        · exact hr9 h fun q hq => hh q (List.mem_append_right _ (List.mem_append_left _ hq))
      case kg => (rw [← hfin]; simp [tkOut])
      case kc => (refine' canon2 _ _ ?x1 ?x2; (case x1 => exact rfl); (case x2 => exact rfl))
    | seq2 u9 T2 d1 d2 p1 p2 =>
      have hW' : Str.ofString "node" = W := hW
      subst hW'
      (try dsimp only)
      k_extra "STEPS"
      refine' wstep_next (news₂ := (rl, listOf rows.toArray kr) :: (wl, listOf (ws ++ [Value.ref x2, Value.ref x1]).toArray k9) :: ((x1, tupO #[.str (Str.ofString "node") y1, .ref d1]) :: (x2, tupO #[.str (Str.ofString "node") y2, .ref d2]) :: ex)) ?kf ?kn ?ks ?kl ⟨(x1, y1, d1, .row p1) :: (x2, y2, d2, .row p2) :: r, rows, got, kr, k9, many + 1, _, ((x1, tupO #[.str (Str.ofString "node") y1, .ref d1]) :: (x2, tupO #[.str (Str.ofString "node") y2, .ref d2]) :: ex), _, rfl, ⟨?ka, ?kb⟩, ?ke, ?kx, ?kt, hrows.mono mem_two, ?kg, ?kc⟩
      case kf => k_asm
      case kn => assumption
      case ks => exact mem_seq2
      case kl => (simp only [List.map_cons, List.sum_cons, tkSize]; omega)
      case ka => omega
      case kb => (simp only [List.map_cons, List.sum_cons, tkSize] at hm9 ⊢; omega)
      case ke => rw [stkV_cons, stkV_cons, hws, List.append_assoc]; rfl
      case kx => exact List.forall_mem_cons.mpr ⟨⟨hq1, hw1⟩, List.forall_mem_cons.mpr ⟨⟨hq2, hw2⟩, hex⟩⟩
      case kt => exact List.forall_mem_cons.mpr ⟨fun h hh => ⟨isTup_of (hh (x1, _) (List.mem_append_right _ (.head _))), (ht h (hh.sub mem_two)).2.2.2.1⟩, List.forall_mem_cons.mpr ⟨fun h hh => ⟨isTup_of (hh (x2, _) (List.mem_append_right _ (.tail _ (.head _)))), (ht h (hh.sub mem_two)).2.2.2.2⟩, fun t h => (hstk t (.tail _ h)).mono mem_two⟩⟩
      case kg => (rw [← hfin]; simp [tkOut])
      case kc => (refine' canon2 _ _ ?a1 ?a2; (case a1 => exact rfl); (case a2 => exact rfl))
    | seq3 u9 T2 d1 d2 d3 p1 p2 p3 =>
      have hW' : Str.ofString "node" = W := hW
      subst hW'
      (try dsimp only)
      k_extra "STEPS"
      refine' wstep_next (news₂ := (rl, listOf rows.toArray kr) :: (wl, listOf (ws ++ [Value.ref x3, Value.ref x2, Value.ref x1]).toArray k9) :: ((x1, tupO #[.str (Str.ofString "node") y1, .ref d1]) :: (x2, tupO #[.str (Str.ofString "node") y2, .ref d2]) :: (x3, tupO #[.str (Str.ofString "node") y3, .ref d3]) :: ex)) ?kf ?kn ?ks ?kl ⟨(x1, y1, d1, .row p1) :: (x2, y2, d2, .row p2) :: (x3, y3, d3, .row p3) :: r, rows, got, kr, k9, many + 1, _, ((x1, tupO #[.str (Str.ofString "node") y1, .ref d1]) :: (x2, tupO #[.str (Str.ofString "node") y2, .ref d2]) :: (x3, tupO #[.str (Str.ofString "node") y3, .ref d3]) :: ex), _, rfl, ⟨?ka, ?kb⟩, ?ke, ?kx, ?kt, hrows.mono mem_three, ?kg, ?kc⟩
      case kf => k_asm
      case kn => assumption
      case ks => exact mem_seq3
      case kl => (simp only [List.map_cons, List.sum_cons, tkSize]; omega)
      case ka => omega
      case kb => (simp only [List.map_cons, List.sum_cons, tkSize] at hm9 ⊢; omega)
      case ke => rw [stkV_cons, stkV_cons, stkV_cons, hws, List.append_assoc, List.append_assoc]; rfl
      case kx => exact List.forall_mem_cons.mpr ⟨⟨hq1, hw1⟩, List.forall_mem_cons.mpr ⟨⟨hq2, hw2⟩, List.forall_mem_cons.mpr ⟨⟨hq3, hw3⟩, hex⟩⟩⟩
      case kt => exact List.forall_mem_cons.mpr ⟨fun h hh => ⟨isTup_of (hh (x1, _) (List.mem_append_right _ (.head _))), (ht h (hh.sub mem_three)).2.2.2.1⟩, List.forall_mem_cons.mpr ⟨fun h hh => ⟨isTup_of (hh (x2, _) (List.mem_append_right _ (.tail _ (.head _)))), (ht h (hh.sub mem_three)).2.2.2.2.1⟩, List.forall_mem_cons.mpr ⟨fun h hh => ⟨isTup_of (hh (x3, _) (List.mem_append_right _ (.tail _ (.tail _ (.head _))))), (ht h (hh.sub mem_three)).2.2.2.2.2⟩, fun t h => (hstk t (.tail _ h)).mono mem_three⟩⟩⟩
      case kg => (rw [← hfin]; simp [tkOut])
      case kc => (refine' canon2 _ _ ?a1 ?a2; (case a1 => exact rfl); (case a2 => exact rfl))
theorem rows_plain {ex : List (Addr × Obj)} {rows : List Value} {got : List (Option Pc)} {h : Heap} (x : RowsOk ex rows got) (hh : Led ex h) : ∀ v ∈ rows, PlainRow h v := fun v hv => by
  obtain ⟨i, hi⟩ := List.mem_iff_getElem?.mp hv
  have hlt := (List.getElem?_eq_some_iff.mp hi).1
  rw [x.1] at hlt
  obtain ⟨t, h1, h2⟩ := x.2 i got[i] (by simp [hlt])
  obtain rfl := Option.some.inj (hi.symm.trans h1)
  cases e : got[i] with
  | none =>
    rw [e] at h2
    obtain ⟨u, h2⟩ := h2
    exact ⟨t, _, u, [], rfl, h2 h hh, by decide, by decide, by decide⟩
  | some p =>
    rw [e] at h2
    obtain ⟨u, items, h3⟩ := (h2 h hh).word
    exact ⟨t, _, u, items, rfl, h3, by cases p <;> rfl, by cases p <;> rfl, by cases p <;> rfl⟩
theorem code_in {ex : List (Addr × Obj)} {rows : List Value} {pcs : List Pc} {h : Heap} {x fl : Addr} {k : Nat} {f : Bool} (r : RowsOk ex rows (pcs.map some ++ [none])) (hp : pcs.length ≤ 3) (hh : Led ex h) (hF : FoldsOf h x fl f) (hl : h.get? fl = some (listOf rows.toArray k)) : CodeIn h x fl (pcs.map prow) f := by
  have hlen : rows.length = pcs.length + 1 := by have := r.1; simpa using this
  obtain ⟨td, h1, u, h2⟩ := r.2 pcs.length none (by simp)
  have hrows : rows = rows.take pcs.length ++ [.ref td] := by
    conv => lhs; rw [← List.take_append_drop pcs.length rows]
    congr 1
    rw [List.drop_eq_getElem_cons (by omega), List.drop_eq_nil_of_le (by omega)]
    have := (List.getElem?_eq_some_iff.mp h1)
    rw [this.2]
  refine ⟨hF, by simpa using hp, rows.take pcs.length, td, u, ⟨_, hl, rfl, _, by rw [← hrows]⟩, h2 h hh, by simp; omega, fun i r' hr => ?_⟩
  rw [List.getElem?_map] at hr
  obtain ⟨p, hp', rfl⟩ := Option.map_eq_some_iff.mp hr
  have hi := (List.getElem?_eq_some_iff.mp hp').1
  obtain ⟨t, h3, h4⟩ := r.2 i (some p) (by rw [List.getElem?_append_left (by simpa using hi), List.getElem?_map, hp']; rfl)
  exact ⟨t, by rw [List.getElem?_take_of_lt hi]; exact h3, h4 h hh⟩
theorem node_task {ex : List (Addr × Obj)} {nv : Value} {pcs : List Pc} (x : NodeLed ex nv pcs) (h1 : 1 ≤ pcs.length) (h3 : pcs.length ≤ 3) :
    ∃ d0 k0, nv = .ref d0 ∧ tkWord k0 = Str.ofString "node" ∧ tkSize k0 ≤ 4 ∧ tkOut k0 = pcs.map some ∧ ∀ h : Heap, Led ex h → TkAt h d0 k0 := by
  rcases pcs3 h1 h3 with ⟨p, rfl⟩ | ⟨p1, p2, rfl⟩ | ⟨p1, p2, p3, rfl⟩
  · obtain ⟨d, e, r⟩ := x
    exact ⟨d, .row p, e, rfl, Nat.le_of_ble_eq_true rfl, rfl, fun h hh => r h hh⟩
  · obtain ⟨S, T, u, its, e, a, b, c, r⟩ := x
    obtain ⟨d1, e1, r1⟩ := r 0 p1 rfl
    obtain ⟨d2, e2, r2⟩ := r 1 p2 rfl
    obtain ⟨l, rfl⟩ : ∃ l : List Value, its = l.toArray := ⟨its.toList, by simp⟩
    have hl := list2 (l := l) (by simpa using c) (by simpa using e1) (by simpa using e2)
    subst hl
    exact ⟨S, .seq2 u T d1 d2 p1 p2, e, rfl, Nat.le_of_ble_eq_true rfl, rfl, fun h hh => ⟨isTup_of (hh (S, _) a), isTup_of (hh (T, _) b), r1 h hh, r2 h hh⟩⟩
  · obtain ⟨S, T, u, its, e, a, b, c, r⟩ := x
    obtain ⟨d1, e1, r1⟩ := r 0 p1 rfl
    obtain ⟨d2, e2, r2⟩ := r 1 p2 rfl
    obtain ⟨d3, e3, r3⟩ := r 2 p3 rfl
    obtain ⟨l, rfl⟩ : ∃ l : List Value, its = l.toArray := ⟨its.toList, by simp⟩
    have hl := list3 (l := l) (by simpa using c) (by simpa using e1) (by simpa using e2) (by simpa using e3)
    subst hl
    exact ⟨S, .seq3 u T d1 d2 d3 p1 p2 p3, e, rfl, Nat.le_of_ble_eq_true rfl, rfl, fun h hh => ⟨isTup_of (hh (S, _) a), isTup_of (hh (T, _) b), r1 h hh, r2 h hh, r3 h hh⟩⟩
theorem off_cc {cc cd rl wl : Addr} {o1 o2 o3 o4 : Obj} (a : @Ne Nat cc rl ∧ @Ne Nat cc wl) (b : @Ne Nat cd rl ∧ @Ne Nat cd wl) : ∀ q ∈ [(cc, o1), (cd, o2)], ∀ r ∈ [(rl, o3), (wl, o4)], @Ne Nat q.1 r.1 := fun q hq r hr => by
  rcases List.mem_cons.mp hq with rfl | hq
  · rcases List.mem_cons.mp hr with rfl | hr
    · exact a.1
    · rw [List.mem_singleton.mp hr]; exact a.2
  · rw [List.mem_singleton.mp hq]
    rcases List.mem_cons.mp hr with rfl | hr
    · exact b.1
    · rw [List.mem_singleton.mp hr]; exact b.2
theorem News.swap {h₀ h : Heap} {L : Addr} {a b : List (Addr × Obj)} (N : News h₀ L h (a ++ b)) : News h₀ L h (b ++ a) := fun p hp => N p ((List.mem_append.mp hp).elim (List.mem_append_right _) (List.mem_append_left _))
example : True := by
  k_with "call ref" => (k_dflt (refine' Spec.use (c_comp _ f) ?k1 ?k2 ?k3 ?k4 ?k5 ?k6 ?k7 ?k8 ?k9 ?_; k_extra "MYCALL"; obtain ⟨cc, cd, rl, wl', wl, t1, t2, t3, t4, t5, t6, u1, u2, hv9, hn9, hrw9, hcc9, hcd9⟩ := hp9; subst hv9; subst hn9; (simp only [List.cons_append, List.nil_append] at N9); clear ha9 hs9; (try dsimp only); (try k_fold)))
  k_with "call ref" => (k_dflt (refine' SpecM.useG (rest := [(cc, instObj 639 cd), (cd, compO _ f rl wl' wl t1 t2 t3 t4 t5 t6 u1 u2)]) (c_crun _ cc cd rl wl d0 f k0 nn hw0 hs0 (by rw [ho0]; simpa using hp3) hk0 hrw9) ?k1 ?k2 ?k3 ?k4 ?k5 ?k6 ?k7 ?k8 ?k9 ?k10 ?k11 ?_; (case k1 => k_asm); (case k2 => k_asm); (case k3 => k_asm); (case k4 => k_asm); (case k5 => k_asm); (case k9 => (simp only [List.cons_append, List.nil_append]; k_extra "SUBN")); (case k6 => first | exact rfl | assumption); (case k7 => ktr_room); (case k8 => ktr_units); (case k10 => exact off_cc hcc9 hcd9); (case k11 => (intro g9 hg9 hn9; exact ⟨⟨hn9 (cc, _) (.head _), _, _, _, _, _, _, _, _, _, hn9 (cd, _) (.tail _ (.head _))⟩, fun p hp => hg9 _ _ (hnn p hp)⟩)); intro v9 nwc h9 tk9 F9 N9 hf9 hp9; obtain ⟨hv9, rows9, k9, hm9, hR9⟩ := hp9; subst hv9; (replace N9 := News.swap N9); (simp only [List.cons_append, List.nil_append] at N9); clear hf9; (try dsimp only); (try k_fold)))
  k_with "PRE" => (exact ⟨⟨((by assumption : News _ _ _ _) (cc, _) (by k_mem)).1, _, _, _, _, _, _, _, _, _, ((by assumption : News _ _ _ _) (cd, _) (by k_mem)).1⟩, ((by assumption : News _ _ _ _) (rl, _) (.tail _ (.tail _ hm9))).1, rows_plain hR9 (led_at (by k_asm) (by assumption) hnn (fun q hq => .tail _ (.tail _ hq)))⟩)
  k_with "call ref" => (k_dflt (refine' Spec.use (c_settled _ cc cd rl wl f rows9 k9 (by have h9 := hR9.1; rw [ho0] at h9; simp at h9; omega)) ?k1 ?k2 ?k3 ?k4 ?k5 ?k6 ?k7 ?k8 ?k9 ?_; k_extra "MYCALL"; obtain ⟨fl, kf, hv9, hn9⟩ := hp9; subst hv9; subst hn9; (simp only [List.cons_append, List.nil_append] at N9); clear ha9 hs9; (try dsimp only); (try k_fold)))
  k_with "call ref" => (k_dflt (refine' Spec.use (c_regcode _ fl f _ _) ?k1 ?k2 ?k3 ?k4 ?k5 ?k6 ?k7 ?k8 ?k9 ?_; k_extra "MYCALL"; obtain ⟨x9, hv9, hF9⟩ := hp9; subst hv9; clear ha9 hs9; (try dsimp only); (try k_fold)))
  trivial
theorem c_cnode (w : World) (d0 : Addr) (f : Bool) (k0 : Tk) (nn : List (Addr × Obj)) (pcs : List Pc) (tg : Tok) (hp3 : pcs.length ≤ 3) (hw0 : tkWord k0 = Str.ofString "node") (hs0 : tkSize k0 ≤ 4) (ho0 : tkOut k0 = pcs.map some) (hk0 : ∀ h : Heap, Led nn h → TkAt h d0 k0) :
    Spec w 16 200 (nat_lit 650) [.ref d0, .int 0 tg, .bool f] (fun h => Led nn h) (fun v nw => ∃ x fl, v = .ref x ∧ ∀ h : Heap, Led (nn ++ nw) h → CodeIn h x fl (pcs.map prow) f) := by
  unfold Spec; k_fill; intros; rename_i hnn hret
  refine wpAny_call ?_
  k_extra "ENTER"
  k_extra "STEPS"
  refine' fin_sub hret ?kf ?kn ?km ?ko ?kp (fun _ h => h) ⟨x9, fl, rfl, ?kz⟩
  k_extra "FIN5"
  case kz =>
    intro h hh
    have hnw : ∀ p ∈ nw9, h.get? p.1 = some p.2 := fun p hp => hh p (List.mem_append_right _ (List.mem_append_left _ hp))
    exact code_in (ho0 ▸ hR9) hp3 (hh.sub fun p hp => (List.mem_append.mp hp).elim (List.mem_append_left _) fun q => List.mem_append_right _ (List.mem_append_right _ (.tail _ (.tail _ (.tail _ q))))) (hF9 h hnw) (hh (fl, _) (List.mem_append_right _ (List.mem_append_right _ (.head _))))
example : True := by
  k_with "call ref" => (k_dflt (refine' Spec.use (c_parsed _ cl pcs hp1 hp3) ?k1 ?k2 ?k3 ?k4 ?k5 ?k6 ?k7 ?k8 ?k9 ?_; k_extra "MYCALL"; obtain ⟨D9, nv9, t9, ex9, hv9, hn9, hL9⟩ := hp9; subst hv9; subst hn9; obtain ⟨d0, k0, hnv9, hw0, hs0, ho0, hk0⟩ := node_task hL9 hp1 hp3; subst hnv9; (simp only [List.cons_append, List.nil_append] at N9); clear ha9 hs9; (try dsimp only); (try k_fold)))
  k_with "PRE" => (exact fun p hp => ((by assumption : News _ _ _ _) p (List.mem_cons_of_mem _ (List.mem_append_left _ hp))).1)
  k_with "PRE" => (exact hpre.keeps (Fr.keep (by k_asm)))
  k_with "call ref" => (k_dflt (refine' Spec.use (c_cnode _ d0 f k0 ex9 pcs _ hp3 hw0 hs0 ho0 hk0) ?k1 ?k2 ?k3 ?k4 ?k5 ?k6 ?k7 ?k8 ?k9 ?_; k_extra "MYCALL"; obtain ⟨x9, fl9, hv9, hC9⟩ := hp9; subst hv9; clear ha9 hs9; (try dsimp only); (try k_fold)))
  trivial
theorem c_cregexp (w : World) (cl : Addr) (f : Bool) (pcs : List Pc) (hp1 : 1 ≤ pcs.length) (hp3 : pcs.length ≤ 3) :
    Spec w 24 280 (nat_lit 657) [.ref cl, .bool f] (fun h => ListIn h cl (allCodes pcs)) (fun v nw => ∃ x fl, v = .ref x ∧ ∀ h : Heap, Led nw h → CodeIn h x fl (pcs.map prow) f) := by
  unfold Spec; k_fill; intros; rename_i hpre hret
  refine wpAny_call ?_
  k_extra "ENTER"
  k_extra "STEPS"
  refine' fin_sub hret ?kf ?kn ?km ?ko ?kp (fun _ h => h) ⟨x9, fl9, rfl, ?kz⟩
  k_extra "FIN5"
  case kz =>
    intro h hh
    exact hC9 h (hh.sub fun p hp => (List.mem_append.mp hp).elim (fun q => List.mem_append_right _ (.tail _ (List.mem_append_left _ q))) (List.mem_append_left _))
section
variable {prog : Program} {w : World} {A : Around} {E : Value → Shared → Prop} {s : Shared} {h₀ : Heap} {L : Addr} {m : Str → Option Value} {env : Env} {news : List (Addr × Obj)}
theorem rest_inv {elt : Expr} {x : Str} {scope : Scope} {cl : List (Str × Addr)} {S : List (Addr × Obj) → Prop} {P : Nat → Value → Prop} {Fin : List Value → List (Addr × Obj) → Prop} {n : Nat} (J : Nat → List Value → List (Addr × Obj) → Prop)
    (turn : ∀ i v I oI C oC D m₂ ys news h tk (E' : Value → Shared → Prop), i < n → J i ys news → P i v → LCg.NsObj oC m₂ → m₂ x = some v → Fr h₀ L h m → News h₀ L h ((I, oI) :: (C, oC) :: (D, LCg.lst ys) :: news) → LCg.Off3 I C D news → ((@Ne Nat I C) ∧ (@Ne Nat I D) ∧ (@Ne Nat C D)) →
      wpAny (model prog w) A (eval elt (compEnvC scope cl C env)) (LCg.CompEnd h₀ L m { s with heap := h, toks := tk } I oI C oC D (LCg.lst ys) S (fun y news' => J (i + 1) (ys ++ [y]) news')) E' { s with heap := h, toks := tk })
    (fin : ∀ ys news, J n ys news → Fin ys news) : ∀ k i ys news, i + k = n → J i ys news → LCg.CompRest prog w A h₀ L m env elt x scope cl s S P Fin k i ys news
  | 0, i, ys, news, e, hJ => LCg.CompRest.zero (fin ys news (by rw [← e]; exact hJ))
  | k + 1, i, ys, news, e, hJ => LCg.CompRest.succ fun v I oI C oC D m₂ h tk E' hv hC hx F N off ne =>
      wpAny_mono (turn i v I oI C oC D m₂ ys news h tk E' (by omega) hJ hv hC hx F N off ne) (fun y s₂ ⟨h', tk', nw, e', F', N', off', hS, r⟩ => ⟨h', tk', nw, e', F', N', off', hS, rest_inv J turn fin k (i + 1) _ _ (by omega) r⟩) fun _ _ e => e
theorem comp_text {elt iter : Expr} {x : Str} {px : Pos} {scope : Scope} {cl : List (Str × Addr)} {pos : Pos} {X : Str} {tX : Tok} {Q : Value → Shared → Prop}
    (hh : A.handled = none) (ha : X.cps.all (· < 128) = true) (hsz : X.cps.size ≤ sizeLine) (F : Fr h₀ L s.heap m) (N : News h₀ L s.heap news)
    (hclos : closureFor scope env = pure cl) (hcell : ∀ y ∈ scope.names, y.2 ≠ .cell) (hkind : scope.kind = .function)
    (hnames : ∀ y ∈ scope.names, y.2 = .local → scope.names.lookup y.1 = some .local) (hx : scope.names.lookup x = some .local)
    (hi : wpAny (model prog w) A (eval iter env) (fun xv s₁ => xv = .str X tX ∧ ∃ tk, s₁ = { s with toks := tk }) E s)
    (R : ∀ g tk, LCg.CompRest prog w A h₀ L m env elt x scope cl { s with heap := g, toks := tk } (fun _ => True) (SignAt X) (LCg.FinE h₀ L m { s with heap := g, toks := tk } Q) X.cps.size 0 [] news)
    (hs : ∀ x, foldedSetIterable iter env x = pure x := by intro _; rfl) :
    wpAny (model prog w) A (eval (.ListComp elt [⟨.Name x px, iter, [], 0⟩] scope pos) env) Q E s := by
  rw [eval_ListComp]
  refine wpAny_comprehension_free (use := none) rfl hs hclos hkind hnames (wpAny_mono hi (fun xv s₁ h₁ => ?_) fun _ _ e => e)
  obtain ⟨rfl, tk₁, rfl⟩ := h₁
  refine wpAny_pyIter_ascii ha ?_
  have up : ∀ b o, s.heap.get? b = some o → (s.heap.push { cls := .type "str_ascii_iterator", data := .fields #[.str X tX, .int 0 0] }).get? b = some o := fun b o e => Heap.get?_push_of_some _ e
  refine LCg.block_U (S := fun _ => True) (Walks.strAscii hh s.heap.objs.size X tX) hsz (fun i h st => by obtain ⟨o, e, _⟩ := st; exact ⟨o, e⟩)
    (fun i h h' o nw st e e' _ _ _ => by obtain ⟨o', q, r⟩ := st; rw [e] at q; cases q; exact ⟨o, e', r⟩) hcell hkind hx ⟨_, Heap.get?_push_size _ rfl, rfl, rfl⟩ (fun b hb => ?_)
    (F.keeps up) (N.grown up) (Nat.ne_of_lt F.ns.lt) (next_is_new F) (fun p hp => Nat.ne_of_lt (Heap.lt_size (N p hp).1)) trivial (R _ _) ?_
  · rw [List.mem_singleton.mp hb]
    show s.heap.objs.size < (s.heap.push _).objs.size
    rw [Heap.size_push]; exact Nat.lt_succ_self _
  · intro D C h tk m' ys news' F' N' o1 hn hC₀ hD₀ hCL hDL hCD offC fin
    refine ⟨m', hn, fun h'' hs'' => fin D h'' tk (F'.change hs'' hCL hC₀) (fun p hp => ?_) o1⟩
    refine ⟨hs''.extBut _ _ ?_ (N' p hp).1, (N' p hp).2⟩
    rcases List.mem_cons.mp hp with rfl | hp
    · exact Ne.symm hCD
    · exact offC p hp
end
noncomputable def codesOf (X : Str) : List Int := X.cps.toList.map fun c : Nat => (c : Int)
theorem ints_snoc {k : Int} {t : Tok} : ∀ {vs : List Value} {ns : List Int}, IntsAre vs ns → IntsAre (vs ++ [.int k t]) (ns ++ [k])
  | _, _, .nil => .cons k t .nil
  | _, _, .cons z u r => .cons z u (ints_snoc r)
example : True := by
  k_with "call builtin:ord" => (k_here; (with_reducible show wpAny _ _ (call (Value.builtin "ord") [Value.str _ _]) _ _ _); k_dflt (refine' ord_of_one ?k1 ?_; (case k1 => exact rfl); k_whole))
  trivial
theorem c_lcodes (w : World) (X : Str) (tX : Tok) (ha : X.cps.all (· < 128) = true) (hsz : X.cps.size ≤ 40) :
    Spec w 4 32 (nat_lit 832) [.str X tX] (fun _ => True) (fun v nw => ∃ l vs k, v = .ref l ∧ nw = [(l, listOf vs.toArray k)] ∧ IntsAre vs (codesOf X)) := by
  unfold Spec; k_fill; intros; rename_i hret
  refine wpAny_call ?_
  k_extra "ENTER"
  k_extra "STEPSC"
  refine' comp_text (tX := tX) ?k1 ha ?k2 ?k3 ?k4 ?k6 ?k7 ?k8 ?k9 ?k10 ?hi ?R ?hs
  case k1 => exact rfl
  case k2 => (rw [sizeLine_eq]; exact Nat.le_trans hsz (by decide))
  case k3 => k_asm
  case k4 => k_asm
  case k6 => exact rfl
  case k7 => decide
  case k8 => exact rfl
  case k9 => decide
  case k10 => exact rfl
  case hs => (intro _; rfl)
  case hi => k_extra "STEPSC"
  case R =>
    intro g tk
    refine rest_inv (fun i ys news => news = [] ∧ IntsAre ys ((codesOf X).take i)) ?turn ?fin _ 0 _ _ (Nat.zero_add _) ⟨rfl, .nil⟩
    case turn =>
      rintro i v I oI C oC D m₂ ys news h tk' E' hi ⟨rfl, hys⟩ ⟨c, u, hc, rfl⟩ hC hx F N off ne
      k_extra "STEPSC"
      have e : (codesOf X).take (i + 1) = (codesOf X).take i ++ [(c : Int)] := by
        rw [List.take_add_one]; unfold codesOf; rw [List.getElem?_map, Array.getElem?_toList, hc]; rfl
      rw [e]
      exact ints_snoc hys
    case fin =>
      rintro ys news ⟨rfl, hys⟩ D h tk' F N o1
      have e : (codesOf X).take X.cps.size = codesOf X := List.take_of_length_le (by simp [codesOf])
      rw [e] at hys
      (try dsimp only)
      k_extra "STEPSC"
      refine' fin_sub (nw := [_]) hret ?kf ?kn ?km ?ko ?kp ?ks ⟨_, ys, _, rfl, rfl, hys⟩
      k_extra "FIN5"
      case ks => k_extra "SUBN"
section
variable {M : Model} {A : Around} {E : Value → Shared → Prop} {s : Shared} {h₀ : Heap} {L a c : Addr} {m : Str → Option Value} {cn : Str} {cs : Scope} {ccd : Value} {cl : List (Str × Addr)} {x : Str} {pos : Pos} {v : Value} {Q : Value → Shared → Prop}
theorem ld_base (F : Fr h₀ L s.heap m) (hc : cl.lookup x = some c) (C : CellAt h₀ c v) (h : Q v s)
    (hk : cs.kind = .function := by rfl) (hx : (envX cn cs L a ccd cl).kindOf x = some .free := by rfl) (hb : (x == ("__debug__" : Str)) = false := by decide) (hn : (x == ("__classdict__" : Str)) = false := by decide) :
    wpAny M A (eval (.Name x pos) (envX cn cs L a ccd cl)) Q E s := by
  obtain ⟨o, e, d⟩ := C
  exact wpAny_Name (wpAny_loadName_free hk hx hc ⟨o, F.keep _ _ e, d⟩ h hn) hb
end
section
variable {prog : Program} {w : World} {A A₀ : Around} {s : Shared} {KF : Frag} {L : Addr} {h₀ base : Heap} {m mg mb : Str → Option Value} {news : List (Addr × Obj)} {p : Program} {loose : List Str} {mean : ExcName → Option Value}
theorem enterLam {env : Env} {outer : List Env} {R : Result → Shared → Prop} {name qual : Str} {params : Arguments} {body : Expr} {scope : Scope} {cl : List (Str × Addr)} {pm ctv : Value} {c' : Addr} {f : Addr} {args : Args} {binds : List (Str × Value)}
    (B : Below A₀ base outer h₀) (F : Fr h₀ L s.heap m) (X₀ : KF.In h₀) (N : News h₀ L s.heap news) (T : Top p loose mean mg mb h₀) (hA : A.frames = some (env :: outer)) (hf : env.frame = some L) (hke : env.scope.kind = .function)
    (ho : s.heap.get? f = some (kla_obj name qual params body scope cl pm c' ctv)) (hcd : s.heap.CodeRec (.ref c') qual) (hroom : A.depth < recursionLimit)
    (hbind : bindArgs (kla_fn name qual params body scope cl pm (.ref c') ctv) args = pure binds) (hloc : ∀ y ∈ binds, scope.names.lookup y.1 = some .local)
    (h : ∀ h₁, Fr s.heap s.heap.objs.size h₁ (updL binds) → News s.heap s.heap.objs.size h₁ [] → Below A base (env :: outer) s.heap → KF.In s.heap → Top p loose mean mg mb s.heap → EnvOk (envX qual scope s.heap.objs.size f (.ref c') cl) s.heap.objs.size →
      wpAny (model prog w) (A.deeper (envX qual scope s.heap.objs.size f (.ref c') cl)) (eval body (envX qual scope s.heap.objs.size f (.ref c') cl))
        (fun v s' => LeaveK h₀ L m s.heap (fun r s' => News h₀ L s'.heap news → s.heap.StaysIn s'.heap → R r s') v s')
        (fun e s' => wpAny (model prog w) (A.deeper (envX qual scope s.heap.objs.size f (.ref c') cl)) (leaving (envX qual scope s.heap.objs.size f (.ref c') cl) e) (fun _ s'' => R (.error e) s'') (fun e' s'' => R (.error e') s'') s')
        { s with heap := h₁, toks := s.toks + binds.length })
    (hco : scope.isCoroutine = false) (hgen : scope.isGenerator = false) (hk : scope.kind = .function)
    (hcell : ∀ x ∈ scope.names, x.2 ≠ .cell) : codeAny (model prog w) A (.call (.ref f) args) R s := by
  obtain ⟨FG, BG, st, lv⟩ := groundX (R := fun r s' => News h₀ L s'.heap news → s.heap.StaysIn s'.heap → R r s') B F (News.nil (h := s.heap)) hA hf hke
  refine kla_callFunE hroom ho rfl hco hgen rfl hcd ?_
  rw [hbind]
  refine wpAny_pure (wpAny_newFunctionEnv hcell hloc (fun h₁ hns hsb => ⟨((T.nolimit).keeps F.keep).fresh _ hsb, ?_⟩) hk)
  show codeAny _ _ (.expr body (envX qual scope s.heap.objs.size f (.ref c') cl)) _ _
  have hk₁ : ∀ b o, s.heap.get? b = some o → h₁.get? b = some o := fun b o e => hsb.extBut b o (Nat.ne_of_lt (Heap.lt_size e)) (Heap.get?_push_of_some _ e)
  refine kla_codeExpr (wpAny_mono (h h₁ ⟨updL_eq _ ▸ hns, fun b o e => hk₁ b o e, Nat.le_refl _⟩ News.nil BG (X₀.keeps st) (T.keeps st) ⟨hk, rfl, rfl, rfl⟩) (fun v s' hl => ?_) fun _ _ y => y)
  have hS : s.heap.StaysIn s'.heap := by obtain ⟨_, _, _, F', _⟩ := hl; exact F'.keep
  exact lv _ _ hl (fun p hp => ⟨hS _ _ (N p hp).1, (N p hp).2⟩) hS
end
noncomputable abbrev lamPs (p0 : Pos) : Arguments := { posonlyargs := [], args := [{ arg := Str.ofString "at", annotation := none, pos := p0 }], vararg := none, kwonlyargs := [], kw_defaults := [], kwarg := none, defaults := [] }
noncomputable abbrev lamSc (fr : List Str) (g : Str) : Scope := { kind := .function, names := (Str.ofString "at", .local) :: (fr.map fun x => (x, .free)) ++ [(g, .globalImplicit)], isGenerator := false, isCoroutine := false }
noncomputable def LamAt (h : Heap) (la c' : Addr) (qual : Str) (p0 : Pos) (body : Expr) (fr : List Str) (g : Str) (cs : List Addr) (pm ctv : Value) : Prop :=
  h.get? la = some (kla_obj (Str.ofString "<lambda>") qual (lamPs p0) body { kind := .function, names := (Str.ofString "at", .local) :: ((fr.map fun x => (x, NameKind.free)) ++ [(g, .globalImplicit)]), isGenerator := false, isCoroutine := false } (fr.zip cs).reverse pm c' ctv) ∧ h.CodeRec (.ref c') qual
example : True := by
  k_with "ENTERL" => (k_dflt (refine' enterLam (binds := [(Str.ofString "at", .int p t)]) ?k1 ?k2 ?k3 ?k4 ?k5 ?kA ?kF ?kK ?k6 ?k7 ?k8 ?k9 ?kB ?_ ?c2 ?c3 ?c4 ?c5; (case kA => exact rfl); (case kF => exact rfl); (case kK => assumption); (case k1 => k_asm); (case k2 => k_asm); (case k3 => k_asm); (case k4 => k_asm); (case k5 => k_asm); (case k6 => exact hla); (case k7 => exact hcr); (case k8 => ktr_room); (case k9 => kernel_rfl); (case c5 => decide); (case kB => exact locs rfl); (case c2 => exact rfl); (case c3 => exact rfl); (case c4 => exact rfl); k_whole; intro h' F' N' B' X' T' hE'; (dsimp only [updL, List.foldl] at F'); (try dsimp only); (try k_fold)))
  k_with "eval Name" => (k_here; (with_reducible show wpAny _ _ (eval (Expr.Name _ _) (envX _ _ _ _ _ _)) _ _ _); k_dflt (refine' ld_base ?F ?c ?C ?_ ?a ?b ?d ?e; (case c => rfl); (case F => k_asm); (case C => assumption); (case a => rfl); (case b => rfl); (case d => decide); (case e => decide)))
  k_with "PRE" => (exact ⟨RowIn.keeps (by assumption) (Fr.keep (by k_asm)), ListIn.keeps (by assumption) (Fr.keep (by k_asm))⟩)
  k_with "call ref" => (k_dflt (refine' Spec.use (c_search_forward _ _ _ _ _ ns ws _ _ _ ?h0 ?h1 ?h2 ?h3) ?k1 ?k2 ?k3 ?k4 ?k5 ?k6 ?k7 ?k8 ?k9 ?_; k_extra "MYCALL0"; (case h0 => assumption); (case h1 => assumption); (case h2 => omega); (case h3 => omega); intro v9 nw9 h9 tk9 F9 N9 ha9 hs9 hp9; (try dsimp only); (try k_fold)))
  k_with "call ref" => (k_dflt (refine' Spec.use (c_search_backward _ _ _ _ _ ns ws _ _ _ ?h0 ?h1 ?h2 ?h3) ?k1 ?k2 ?k3 ?k4 ?k5 ?k6 ?k7 ?k8 ?k9 ?_; k_extra "MYCALL0"; (case h0 => assumption); (case h1 => assumption); (case h2 => omega); (case h3 => omega); intro v9 nw9 h9 tk9 F9 N9 ha9 hs9 hp9; (try dsimp only); (try k_fold)))
  k_with "call ref" => (k_dflt (refine' Spec.use (c_re_forward _ _ _ _ rl rs f ns _ _ _ _ _ ?h0 ?h1 ?h2 ?h3) ?k1 ?k2 ?k3 ?k4 ?k5 ?k6 ?k7 ?k8 ?k9 ?_; k_extra "MYCALL0"; (case h0 => assumption); (case h1 => assumption); (case h2 => omega); (case h3 => omega); intro v9 nw9 h9 tk9 F9 N9 ha9 hs9 hp9; (try dsimp only); (try k_fold)))
  k_with "call ref" => (k_dflt (refine' Spec.use (c_re_backward _ _ _ _ rl rs f ns _ _ _ _ _ ?h0 ?h1 ?h2 ?h3) ?k1 ?k2 ?k3 ?k4 ?k5 ?k6 ?k7 ?k8 ?k9 ?_; k_extra "MYCALL0"; (case h0 => assumption); (case h1 => assumption); (case h2 => omega); (case h3 => omega); intro v9 nw9 h9 tk9 F9 N9 ha9 hs9 hp9; (try dsimp only); (try k_fold)))
  k_with "PRE" => (exact ⟨CodeIn.keeps (by assumption) (Fr.keep (by k_asm)), RowIn.keeps (by assumption) (Fr.keep (by k_asm)), TableIn.keeps (by assumption) (Fr.keep (by k_asm))⟩)
  k_with "LAMEND" => (refine' fin_sub hret ?kf ?kn ?km ?ko ?kp ?ks hp9; k_extra "FIN5"; (case ks => exact fun q hq => List.mem_append_left _ hq))
  trivial
theorem c_lam1 (w : World) (la c' : Addr) (qual : Str) (pm ctv : Value) (p0 p1 p2 p3 p4 p5 p6 p7 : Pos) (ca cb cc cd x wl : Addr) (ns ws : List Int) (f : Bool) (ts : Tok) (p : Int) (t : Tok) (h0 : 0 ≤ p) (h1 : p ≤ ns.length) :
    Spec w 24 256 la [.int p t] (fun h => LamAt h la c' qual p0 (.Call (.Name (Str.ofString "search_forward") p1) [.Name (Str.ofString "there") p2, .Name (Str.ofString "at") p3, .Name (Str.ofString "words") p4, .Name (Str.ofString "size") p5, .Name (Str.ofString "folds") p6] [] p7)
      [Str.ofString "folds", Str.ofString "size", Str.ofString "there", Str.ofString "words"] (Str.ofString "search_forward") [ca, cb, cc, cd] pm ctv ∧ CellAt h ca (.bool f) ∧ CellAt h cb (.int ns.length ts) ∧ CellAt h cc (.ref x) ∧ CellAt h cd (.ref wl) ∧ RowIn h x ns ∧ ListIn h wl ws) (fun v nw => FoundAs (fwd ns ws p ns.length f) v nw) := by
  unfold Spec; k_fill; intros; rename_i hpre hret
  obtain ⟨⟨hla, hcr⟩, hca, hcb, hcc, hcd, hx, hw⟩ := hpre
  refine wpAny_call ?_
  k_extra "ENTERL"
  k_extra "STEPS"
  k_extra "LAMEND"
theorem c_lam2 (w : World) (la c' : Addr) (qual : Str) (pm ctv : Value) (p0 p1 p2 p3 p4 p5 p6 p7 p8 : Pos) (ca cb cc cd x tb co rl : Addr) (ns : List Int) (rs : List RRow) (f : Bool) (ts : Tok) (p : Int) (t : Tok) (h0 : 0 ≤ p) (h1 : p ≤ ns.length) :
    Spec w 24 256 la [.int p t] (fun h => LamAt h la c' qual p0 (.Call (.Name (Str.ofString "re_search_forward") p1) [.Name (Str.ofString "there") p2, .Name (Str.ofString "table") p3, .Name (Str.ofString "at") p4, .Name (Str.ofString "code") p5, .Name (Str.ofString "size") p6, .Constant (.int 0) 0 p7] [] p8)
      [Str.ofString "code", Str.ofString "size", Str.ofString "table", Str.ofString "there"] (Str.ofString "re_search_forward") [ca, cb, cc, cd] pm ctv ∧ CellAt h ca (.ref co) ∧ CellAt h cb (.int ns.length ts) ∧ CellAt h cc (.ref tb) ∧ CellAt h cd (.ref x) ∧ CodeIn h co rl rs f ∧ RowIn h x ns ∧ TableIn h tb) (fun v nw => FoundAs (reFwd f ns rs p ns.length) v nw) := by
  unfold Spec; k_fill; intros; rename_i hpre hret
  obtain ⟨⟨hla, hcr⟩, hca, hcb, hcc, hcd, hC, hx, hT⟩ := hpre
  refine wpAny_call ?_
  k_extra "ENTERL"
  k_extra "STEPS"
  k_extra "LAMEND"
theorem c_lam3 (w : World) (la c' : Addr) (qual : Str) (pm ctv : Value) (p0 p1 p2 p3 p4 p5 p6 p7 : Pos) (ca cb cc x wl : Addr) (ns ws : List Int) (f : Bool) (p : Int) (t : Tok) (h0 : 0 ≤ p) (h1 : p ≤ ns.length) :
    Spec w 24 256 la [.int p t] (fun h => LamAt h la c' qual p0 (.Call (.Name (Str.ofString "search_backward") p1) [.Name (Str.ofString "back") p2, .Name (Str.ofString "at") p3, .Name (Str.ofString "mirror_words") p4, .Constant (.int 0) 0 p5, .Name (Str.ofString "folds") p6] [] p7)
      [Str.ofString "back", Str.ofString "folds", Str.ofString "mirror_words"] (Str.ofString "search_backward") [ca, cb, cc] pm ctv ∧ CellAt h ca (.ref x) ∧ CellAt h cb (.bool f) ∧ CellAt h cc (.ref wl) ∧ RowIn h x ns ∧ ListIn h wl ws) (fun v nw => FoundAs (bwd ns ws p 0 f) v nw) := by
  unfold Spec; k_fill; intros; rename_i hpre hret
  obtain ⟨⟨hla, hcr⟩, hca, hcb, hcc, hx, hw⟩ := hpre
  refine wpAny_call ?_
  k_extra "ENTERL"
  k_extra "STEPS"
  k_extra "LAMEND"
theorem c_lam4 (w : World) (la c' : Addr) (qual : Str) (pm ctv : Value) (p0 p1 p2 p3 p4 p5 p6 p7 p8 : Pos) (ca cb cc x tb co rl : Addr) (ns : List Int) (rs : List RRow) (f : Bool) (p : Int) (t : Tok) (h0 : 0 ≤ p) (h1 : p ≤ ns.length) :
    Spec w 24 256 la [.int p t] (fun h => LamAt h la c' qual p0 (.Call (.Name (Str.ofString "re_search_backward") p1) [.Name (Str.ofString "back") p2, .Name (Str.ofString "table") p3, .Name (Str.ofString "at") p4, .Name (Str.ofString "mirror_code") p5, .Constant (.int 0) 0 p6, .Constant (.int 0) 0 p7] [] p8)
      [Str.ofString "back", Str.ofString "mirror_code", Str.ofString "table"] (Str.ofString "re_search_backward") [ca, cb, cc] pm ctv ∧ CellAt h ca (.ref x) ∧ CellAt h cb (.ref co) ∧ CellAt h cc (.ref tb) ∧ CodeIn h co rl rs f ∧ RowIn h x ns ∧ TableIn h tb) (fun v nw => FoundAs (reBwd f ns rs p 0) v nw) := by
  unfold Spec; k_fill; intros; rename_i hpre hret
  obtain ⟨⟨hla, hcr⟩, hca, hcb, hcc, hC, hx, hT⟩ := hpre
  refine wpAny_call ?_
  k_extra "ENTERL"
  k_extra "STEPS"
  k_extra "LAMEND"
theorem firstN_spec {good : Nat → Bool} {n k : Nat} (h : firstN good n = some k) : k < n ∧ good k = true := by
  unfold firstN at h
  rw [List.find?_range_eq_some] at h
  exact ⟨List.mem_range.mp h.2.1, h.1⟩
theorem fwd_range {ns ws : List Int} {f : Bool} (p a b : Int) (h0 : 0 ≤ p) (h1 : p ≤ ns.length) (h : fwd ns ws p ns.length f = some (a, b)) : 0 ≤ a ∧ a ≤ ns.length ∧ 0 ≤ b ∧ b ≤ ns.length := by
  unfold fwd at h
  obtain ⟨i, hi, e⟩ := Option.map_eq_some_iff.mp h
  obtain ⟨hl, _⟩ := firstN_spec hi
  unfold fwdN at hl
  simp only [Prod.mk.injEq] at e
  omega
theorem bwd_range {ns ws : List Int} {f : Bool} (p a b : Int) (h0 : 0 ≤ p) (h1 : p ≤ ns.length) (h : bwd ns ws p 0 f = some (a, b)) : 0 ≤ a ∧ a ≤ ns.length ∧ 0 ≤ b ∧ b ≤ ns.length := by
  unfold bwd at h
  obtain ⟨i, hi, e⟩ := Option.map_eq_some_iff.mp h
  obtain ⟨hl, _⟩ := firstN_spec hi
  unfold bwdN at hl
  simp only [Prod.mk.injEq] at e
  omega
theorem run_len {f : Bool} {ns : List Int} {rs : List RRow} {limit p : Int} (h : runB f ns rs limit p = true) (hr : 0 < rs.length) : p + rs.length ≤ limit := by
  have := (run_iff.mp h (rs.length - 1) rs[rs.length - 1] (by simp)).1
  omega
theorem reFwd_range {ns : List Int} {rs : List RRow} {f : Bool} (p a b : Int) (h0 : 0 ≤ p) (h1 : p ≤ ns.length) (h : reFwd f ns rs p ns.length = some (a, b)) : 0 ≤ a ∧ a ≤ ns.length ∧ 0 ≤ b ∧ b ≤ ns.length := by
  unfold reFwd at h
  obtain ⟨i, hi, e⟩ := Option.map_eq_some_iff.mp h
  obtain ⟨hl, hg⟩ := firstN_spec hi
  simp only [Prod.mk.injEq] at e
  rcases Nat.eq_zero_or_pos rs.length with hz | hz
  · omega
  · have := run_len hg hz; omega
theorem reBwd_range {ns : List Int} {rs : List RRow} {f : Bool} (p a b : Int) (h0 : 0 ≤ p) (h1 : p ≤ ns.length) (h : reBwd f ns rs p 0 = some (a, b)) : 0 ≤ a ∧ a ≤ ns.length ∧ 0 ≤ b ∧ b ≤ ns.length := by
  unfold reBwd at h
  obtain ⟨i, hi, e⟩ := Option.map_eq_some_iff.mp h
  obtain ⟨hl, hg⟩ := firstN_spec hi
  simp only [Prod.mk.injEq] at e
  rcases Nat.eq_zero_or_pos rs.length with hz | hz
  · omega
  · have := run_len hg hz; omega
noncomputable def found4 (ns ws : List Int) (rs : List RRow) (f : Bool) (place bound : Int) (n : Nat) : List (Option (Int × Int)) :=
  [fwd ns ws place bound f, reFwd f ns rs place bound, againV (fun p => fwd ns ws p ns.length f) true n place none, againV (fun p => reFwd f ns rs p ns.length) true n place none]
noncomputable def seen4 (ns ws : List Int) (rs : List RRow) (f : Bool) (start fin : Int) (n : Nat) : List (Option (Int × Int)) :=
  [bwd ns ws start fin f, reBwd f ns rs start fin, againV (fun p => bwd ns ws p 0 f) false n start none, againV (fun p => reBwd f ns rs p 0) false n start none]
theorem law_mirror (ns ws : List Int) (rs : List RRow) (f : Bool) (place bound : Int) (n : Nat) (hr : 0 < rs.length) (hp0 : 0 ≤ place) (hp : place ≤ ns.length) (hb0 : 0 ≤ bound) (hb : bound ≤ ns.length) :
    (found4 ns ws rs f place bound n).map (mirr ns.length) = seen4 ns.reverse ws.reverse rs.reverse f (ns.length - place) (ns.length - bound) n := by
  have g1 : ∀ p : Int, 0 ≤ p → p ≤ ns.length → bwd ns.reverse ws.reverse (ns.length - p) 0 f = mirr ns.length (fwd ns ws p ns.length f) := fun p h0 h1 => by
    have := fwd_mirror ns ws p ns.length f h0 h1 (by omega) (by omega)
    rw [show (ns.length : Int) - ns.length = 0 by omega] at this; exact this.symm
  have g2 : ∀ p : Int, 0 ≤ p → p ≤ ns.length → reBwd f ns.reverse rs.reverse (ns.length - p) 0 = mirr ns.length (reFwd f ns rs p ns.length) := fun p h0 h1 => by
    have := re_mirror f ns rs p ns.length hr h0 h1 (by omega) (by omega)
    rw [show (ns.length : Int) - ns.length = 0 by omega] at this; exact this.symm
  unfold found4 seen4
  simp only [List.map_cons, List.map_nil]
  rw [fwd_mirror ns ws place bound f hp0 hp hb0 hb, re_mirror f ns rs place bound hr hp0 hp hb0 hb,
    again_mirror (g' := fun p => bwd ns.reverse ws.reverse p 0 f) g1 (fun p a b h0 h1 h => (fwd_range p a b h0 h1 h).2.2) n place none hp0 hp,
    again_mirror (g' := fun p => reBwd f ns.reverse rs.reverse p 0) g2 (fun p a b h0 h1 h => (reFwd_range p a b h0 h1 h).2.2) n place none hp0 hp]
  rfl
noncomputable def FLed (Y : List (Addr × Obj)) (r : Option (Int × Int)) (v : Value) : Prop := match r with
  | none => v = .none
  | some (a, b) => ∃ l d t u k, v = .ref l ∧ (l, listOf #[.ref d] k) ∈ Y ∧ (d, tupII a b t u) ∈ Y
theorem FLed.mono {Y Y' : List (Addr × Obj)} {r : Option (Int × Int)} {v : Value} (x : FLed Y r v) (h : ∀ p ∈ Y, p ∈ Y') : FLed Y' r v := by
  rcases r with _ | ⟨a, b⟩
  · exact x
  · obtain ⟨l, d, t, u, k, e, h1, h2⟩ := x; exact ⟨l, d, t, u, k, e, h _ h1, h _ h2⟩
theorem FLed.of {r : Option (Int × Int)} {v : Value} {nw : List (Addr × Obj)} (x : FoundAs r v nw) : FLed nw r v := by
  rcases found_cases x with ⟨rfl, rfl, rfl⟩ | ⟨a, b, l, d, t, u, k, rfl, rfl, rfl⟩
  · rfl
  · exact ⟨l, d, t, u, k, rfl, .head _, .tail _ (.head _)⟩
theorem Spec.imp {w : World} {D U : Nat} {f : Addr} {args : List Value} {pre pre' : Heap → Prop} {post post' : Value → List (Addr × Obj) → Prop} (h : Spec w D U f args pre post) (h1 : ∀ h, pre' h → pre h) (h2 : ∀ v nw, post v nw → post' v nw) : Spec w D U f args pre' post' := by
  intro p loose mean mg mb dp un gd cn cs a ccd cl outer A₀ base h₀ L m news s Q E B F X N T hk hd hu hp ret
  exact h p loose mean mg mb dp un gd cn cs a ccd cl outer A₀ base h₀ L m news s Q E B F X N T hk hd hu (h1 _ hp) fun v nw h' tk' F' N' hn S hpost => ret v nw h' tk' F' N' hn S (h2 _ _ hpost)
theorem c_mirr (w : World) (Y : List (Addr × Obj)) (r : Option (Int × Int)) (v : Value) (size : Int) (ts : Tok) (hv : FLed Y r v) : Spec w 2 16 (nat_lit 839) [v, .int size ts] (Led Y) (fun v' nw => FLed nw (mirr size r) v') := by
  rcases r with _ | ⟨a, b⟩
  · obtain rfl : v = .none := hv
    exact (c_mirrored_none w size ts).imp (fun _ _ => trivial) fun v nw h => h.2
  · obtain ⟨l, d, t, u, k, rfl, h1, h2⟩ := hv
    exact (c_mirrored w l d a b size t u ts k).imp (fun h hh => ⟨hh (l, _) h1, hh (d, _) h2⟩) fun v nw h => FLed.of h
theorem c_lwh (w : World) (Y : List (Addr × Obj)) (r : Option (Int × Int)) (v : Value) (hv : FLed Y r v) : Spec w 2 16 (nat_lit 846) [v] (Led Y) (fun v' nw => FLed (nw ++ Y) r v') := by
  rcases r with _ | ⟨a, b⟩
  · obtain rfl : v = .none := hv
    exact (c_lwhole_none w).imp (fun _ _ => trivial) fun v nw h => h.2
  · obtain ⟨l, d, t, u, k, rfl, h1, h2⟩ := hv
    refine (c_lwhole w l d k).imp (fun h hh => hh (l, _) h1) fun v nw h => ?_
    obtain ⟨l', k', rfl, rfl⟩ := h
    exact ⟨l', d, t, u, k', rfl, .head _, .tail _ h2⟩
inductive FAll (Y : List (Addr × Obj)) : List Value → List (Option (Int × Int)) → Prop
  | nil : FAll Y [] []
  | cons {v : Value} {r : Option (Int × Int)} {vs : List Value} {rs : List (Option (Int × Int))} : FLed Y r v → FAll Y vs rs → FAll Y (v :: vs) (r :: rs)
theorem FAll.mono {Y Y' : List (Addr × Obj)} {vs : List Value} {rs : List (Option (Int × Int))} (x : FAll Y vs rs) (h : ∀ p ∈ Y, p ∈ Y') : FAll Y' vs rs := by
  induction x with
  | nil => exact .nil
  | cons a _ ih => exact .cons (a.mono h) ih
theorem FAll.snoc {Y : List (Addr × Obj)} {v : Value} {r : Option (Int × Int)} {vs : List Value} {rs : List (Option (Int × Int))} (x : FAll Y vs rs) (y : FLed Y r v) : FAll Y (vs ++ [v]) (rs ++ [r]) := by
  induction x with
  | nil => exact .cons y .nil
  | cons a _ ih => exact .cons a ih
theorem FAll.get {Y : List (Addr × Obj)} {vs : List Value} {rs : List (Option (Int × Int))} (x : FAll Y vs rs) : ∀ {i : Nat} {v : Value}, vs[i]? = some v → ∃ r, rs[i]? = some r ∧ FLed Y r v := by
  induction x with
  | nil => intro i v h; simp at h
  | cons a _ ih =>
    intro i v h
    cases i with
    | zero => obtain rfl := Option.some.inj h; exact ⟨_, rfl, a⟩
    | succ i => exact ih (by simpa using h)
theorem FAll.len {Y : List (Addr × Obj)} {vs : List Value} {rs : List (Option (Int × Int))} (x : FAll Y vs rs) : vs.length = rs.length := by
  induction x with
  | nil => rfl
  | cons a _ ih => simp [ih]
noncomputable def datF : Option (Int × Int) → PyData
  | none => .none
  | some (a, b) => .list [.tuple [.int a, .int b]]
theorem reads_F {Y : List (Addr × Obj)} {r : Option (Int × Int)} {v : Value} {h : Heap} (x : FLed Y r v) (hh : Led Y h) : ∃ as, Reads h v (datF r) as := by
  rcases r with _ | ⟨a, b⟩
  · obtain rfl : v = .none := x; exact ⟨_, .none⟩
  · obtain ⟨l, d, t, u, k, rfl, h1, h2⟩ := x
    exact ⟨_, .list (hh (l, _) h1) rfl rfl (.cons (.tuple (hh (d, _) h2) rfl rfl (.cons (.int _ _) (.cons (.int _ _) .nil))) .nil)⟩
theorem reads_FAll {Y : List (Addr × Obj)} {rs : List (Option (Int × Int))} {vs : List Value} {h : Heap} (x : FAll Y vs rs) (hh : Led Y h) : ∃ as, ReadsAll h vs (rs.map datF) as := by
  induction x with
  | nil => exact ⟨_, .nil⟩
  | cons a _ ih => obtain ⟨_, h1⟩ := reads_F a hh; obtain ⟨_, h2⟩ := ih; exact ⟨_, .cons h1 h2⟩
theorem datF_ok (r : Option (Int × Int)) : PyData.canLay0 (datF r) = true ∧ PyData.depth (datF r) ≤ 2 := by
  rcases r with _ | ⟨a, b⟩
  · exact ⟨rfl, by simp [datF, PyData.depth]⟩
  · exact ⟨by simp [datF, PyData.canLay0, PyData.canLayAll0], by simp [datF, PyData.depth, PyData.depthAll]⟩
theorem datF_all (rs : List (Option (Int × Int))) : PyData.canLayAll0 (rs.map datF) = true ∧ PyData.depthAll (rs.map datF) ≤ 2 := by
  induction rs with
  | nil => exact ⟨by simp [PyData.canLayAll0], by simp [PyData.depthAll]⟩
  | cons r rs ih =>
    have h := datF_ok r
    refine ⟨by simp [PyData.canLayAll0, h.1, ih.1], ?_⟩
    simp only [List.map_cons, PyData.depthAll]
    have := h.2; have := ih.2; omega
section
variable {prog : Program} {w : World} {A : Around} {E : Value → Shared → Prop} {s : Shared}
theorem ne_found {a b : Addr} {vs us : List Value} {rs : List (Option (Int × Int))} {Y : List (Addr × Obj)} {Q : Value → Shared → Prop} (hl : s.heap.IsList a vs.toArray) (hv : FAll Y vs rs) (hl' : s.heap.IsList b us.toArray) (hv' : FAll Y us rs) (hY : Led Y s.heap)
    (hu : A.units + 64 < cLine) (h : Q (.bool false) s) : wpAny (model prog w) A (compareOp .NotEq (.ref a) (.ref b)) Q E s := by
  obtain ⟨as, ra⟩ := reads_FAll hv hY
  obtain ⟨bs, rb⟩ := reads_FAll hv' hY
  obtain ⟨oa, e1, c1, k1, d1⟩ := hl
  obtain ⟨ob, e2, c2, k2, d2⟩ := hl'
  have hs := datF_all rs
  have hsh : SeqAt.shaped (.list (rs.map datF)) = true := by
    show ((PyData.list (rs.map datF)).canLay0 && decide (PyData.depth (.list (rs.map datF)) ≤ 64)) = true
    rw [Bool.and_eq_true]
    exact ⟨by simp only [PyData.canLay0]; exact hs.1, decide_eq_true (by simp only [PyData.depth]; have := hs.2; omega)⟩
  refine ne_dataH (Reads.list e1 c1 d1 (by simpa using ra)) (Reads.list e2 c2 d2 (by simpa using rb)) hsh hsh hu ?_
  rw [SeqAt.eqv_refl _ (SeqAt.canLay_of_shaped hsh)]
  exact h
end
noncomputable def LTab (qual : Str) (ps : Array Value) (Y : List (Addr × Obj)) : Prop := TriplesOk ps.toList ∧ ∀ pos cv, codeAmong pos ps.toList = some cv → ∃ c' oc vs t, cv = .ref c' ∧ (c', oc) ∈ Y ∧ oc.data = .fields vs ∧ vs[1]? = some (.str qual t)
theorem LTab.nil {qual : Str} {Y : List (Addr × Obj)} : LTab qual #[] Y := ⟨trivial, fun pos cv h => by simp [codeAmong] at h⟩
theorem LTab.mono {qual : Str} {ps : Array Value} {Y Y' : List (Addr × Obj)} (x : LTab qual ps Y) (h : ∀ p ∈ Y, p ∈ Y') : LTab qual ps Y' := ⟨x.1, fun pos cv e => let ⟨c', oc, vs, t, e1, e2, r⟩ := x.2 pos cv e; ⟨c', oc, vs, t, e1, h _ e2, r⟩⟩
theorem among_snoc {pos : Pos} {a b : Int} {c cv : Value} (l : List Value) (h : TriplesOk l) (e : codeAmong pos (l ++ [rawInt a, rawInt b, c]) = some cv) : codeAmong pos l = some cv ∨ cv = c := by
  fun_induction TriplesOk l with
  | case1 =>
    simp only [List.nil_append, rawInt, codeAmong] at e
    split at e
    · exact .inr (Option.some.inj e).symm
    · cases e
  | case2 a t b u x rest ih =>
    simp only [List.cons_append, codeAmong] at e ⊢
    split at e
    · rename_i hc; rw [if_pos hc]; exact .inl e
    · rename_i hc; rw [if_neg hc]; exact ih h e
  | case3 => exact h.elim
theorem triples_snoc {a b : Int} {c : Value} (l : List Value) (h : TriplesOk l) : TriplesOk (l ++ [rawInt a, rawInt b, c]) := by
  fun_induction TriplesOk l with
  | case1 => simp [TriplesOk, rawInt]
  | case2 a t b u x rest ih => simp only [List.cons_append, TriplesOk]; exact ih h
  | case3 => exact h.elim
section
variable {M : Model} {A : Around} {E : Value → Shared → Prop} {s : Shared} {h₀ : Heap} {L a c P : Addr} {m mg mb : Str → Option Value} {cn : Str} {cs : Scope} {ccd : Value} {cl : List (Str × Addr)} {news : List (Addr × Obj)} {g : Obj → List (Addr × Obj)}
  {p : Program} {loose : List Str} {mean : ExcName → Option Value} {name qual : Str} {params : Arguments} {body : Expr} {scope : Scope} {ps : Array Value} {pos : Pos} {firstLine : Nat} {clos : List (Str × Addr)}
theorem lam_make {Q : Value → Shared → Prop} {Y : List (Addr × Obj)} (F : Fr h₀ L s.heap m) (N : News h₀ L s.heap news) (T : Top p loose mean mg mb h₀) (C : CodeHd h₀ c P) (hcd : ccd = .ref c) (U : UpdF P (tabObj ps) news g) (ht : LTab qual ps Y)
    (hcl : closureFor scope (envX cn cs L a ccd cl) = pure clos)
    (h : ∀ f c' ps' ex h' tk ctv, Fr h₀ L h' m → News h₀ L h' ((f, kla_obj name qual params body scope clos ((mg "__name__").getD .none) c' ctv) :: (ex ++ g (tabObj ps'))) → LTab qual ps' (Y ++ ex) →
      (∃ oc vs t, (c', oc) ∈ Y ++ ex ∧ oc.data = .fields vs ∧ vs[1]? = some (.str qual t)) → (∀ r ∈ ex, ∀ q ∈ news, @LT.lt Nat _ q.1 r.1) → (∀ q ∈ news, @LT.lt Nat _ q.1 f) → (∀ r ∈ ex, @LT.lt Nat _ r.1 f) → Q (.ref f) { s with heap := h', toks := tk }) :
    wpAny M A (makeFunction name qual params (.expr body) scope (envX cn cs L a ccd cl) [] [] [] pos firstLine) Q E s := by
  cases e : codeAmong pos ps.toList with
  | none =>
    refine kla_nest F N T C hcd U ht.1 e hcl fun f c' oc vs t ctv h' tk F' N' hd hv h1 h2 => ?_
    refine h f c' _ [(c', oc)] h' tk ctv F' N' ⟨by rw [Array.toList_append]; exact triples_snoc _ ht.1, fun pos' cv e' => ?_⟩ ⟨oc, vs, t, List.mem_append_right _ (.head _), hd, hv⟩ (fun r hr q hq => by rw [List.mem_singleton.mp hr]; exact h1 q hq) (fun q hq => Nat.lt_trans (h1 q hq) h2) (fun r hr => by rw [List.mem_singleton.mp hr]; exact h2)
    rw [Array.toList_append] at e'
    rcases among_snoc _ ht.1 e' with e' | e'
    · obtain ⟨c2, oc2, vs2, t2, e1, e2, r⟩ := ht.2 pos' cv e'
      exact ⟨c2, oc2, vs2, t2, e1, List.mem_append_left _ e2, r⟩
    · exact ⟨c', oc, vs, t, e', List.mem_append_right _ (.head _), hd, hv⟩
  | some cv =>
    obtain ⟨c', oc, vs, t, rfl, hm, hd, hv⟩ := ht.2 pos cv e
    have hself := UpdF.self U
    refine kla_hit F N T C hcd hself ht.1 e hcl fun f ctv h' tk F' N' h1 => ?_
    refine h f c' ps [] h' tk ctv F' (fun q hq => N' q ?_) (by rw [List.append_nil]; exact ht) ⟨oc, vs, t, List.mem_append_left _ hm, hd, hv⟩ (fun r hr => nomatch hr) h1 (fun r hr => nomatch hr)
    rcases List.mem_cons.mp hq with rfl | hq
    · exact .head _
    · rcases UpdF.mem U hq with rfl | hq
      · exact .tail _ hself
      · exact .tail _ hq.1
end
theorem fm_congr {α β : Type} {f g : α → Option β} : ∀ {l : List α}, (∀ x ∈ l, f x = g x) → l.filterMap f = l.filterMap g
  | [], _ => rfl
  | a :: l, h => by rw [List.filterMap_cons, List.filterMap_cons, h a (.head _), fm_congr fun x hx => h x (.tail _ hx)]
theorem rev_pick {α : Type} : ∀ m : List α, ((List.range m.reverse.length).map fun (k : Nat) => (((m.reverse.length : Int) - 1) + (-1) * (k : Int)).toNat).filterMap (m.reverse[·]?) = m
  | [] => rfl
  | a :: m => by
    have ih := rev_pick m
    rw [List.filterMap_map] at ih ⊢
    have hl : (m.reverse ++ [a]).length = m.length + 1 := by simp
    simp only [List.length_reverse, List.reverse_cons] at ih ⊢
    rw [hl, List.range_succ_eq_map, List.filterMap_cons_some (b := a) (by
      show (m.reverse ++ [a])[(((m.length + 1 : Nat) : Int) - 1 + -1 * ((0 : Nat) : Int)).toNat]? = some a
      rw [show (((m.length + 1 : Nat) : Int) - 1 + -1 * ((0 : Nat) : Int)).toNat = m.length by omega, List.getElem?_append_right (by simp)]; simp), List.filterMap_map]
    congr 1
    refine Eq.trans ?_ ih
    refine fm_congr fun k hk => ?_
    have hk := List.mem_range.mp hk
    show (m.reverse ++ [a])[(((m.length + 1 : Nat) : Int) - 1 + -1 * ((k + 1 : Nat) : Int)).toNat]? = m.reverse[((m.length : Int) - 1 + -1 * (k : Int)).toNat]?
    rw [show (((m.length + 1 : Nat) : Int) - 1 + -1 * ((k + 1 : Nat) : Int)).toNat = ((m.length : Int) - 1 + -1 * (k : Int)).toNat by omega, List.getElem?_append_left (by simp; omega)]
theorem rev_range (n : Nat) : sliceRange ((n : Int) - 1) (-1) (-1) = (List.range n).map fun (k : Nat) => (((n : Int) - 1) + (-1) * (k : Int)).toNat := by
  unfold sliceRange
  rw [if_neg (by decide)]
  congr 2
  split
  · have : ((n : Int) - 1 - -1 - -1 - 1) / - -1 = n := by rw [show - -(1 : Int) = 1 by decide, Int.ediv_one]; omega
    rw [this]; rfl
  · have : n = 0 := by omega
    subst this; rfl
theorem rev_list {α : Type} (l : List α) : (sliceRange ((l.length : Int) - 1) (-1) (-1)).filterMap (l[·]?) = l.reverse := by
  rw [rev_range]
  have := rev_pick l.reverse
  rw [List.reverse_reverse] at this
  exact this
theorem rev_cps (G : Str) (t : Tok) : (Txt.sliceBy G none none (-1, t)).cps.toList = G.cps.toList.reverse := by
  unfold Txt.sliceBy
  rw [if_neg (by simp)]
  show List.filterMap (G.cps[·]?) (sliceRange ((G.cps.size : Int) - 1) (-1) (-1)) = _
  rw [← rev_list, Array.length_toList]
  congr 1
  funext i
  simp
section
variable {prog : Program} {w : World} {s : Shared} {KF : Frag} {g : Heap} {mg mb : Str → Option Value} {own : List (Addr × Obj)} {p : Program} {loose : List Str} {mean : ExcName → Option Value}
theorem enterTop {A : Around} {R : Result → Shared → Prop} {name qual : Str} {params : Arguments} {body : List Stmt} {scope : Scope} {dV kV doc pm cdv ct oc : Value} {an od : Option Addr} {osl : Array (Option Value)} {f : Addr} {args : Args} {binds : List (Str × Value)}
    (hg : g = hideAll s.heap (own.map (·.1))) (hown : ∀ p ∈ own, s.heap.get? p.1 = some p.2) (X₀ : KF.In s.heap) (hlim : s.heap.NoLimit)
    (ho : KF.lookup f = some ⟨oc, od, .func (fnOf name qual params body scope dV kV doc pm an cdv ct), osl⟩) (hcd : codeIn KF cdv qual = true) (hroom : A.depth < recursionLimit)
    (hbind : BindsTo s (fnOf name qual params body scope dV kV doc pm an cdv ct) args binds) (hkind : (binds.all fun y => scope.names.lookup y.1 == some .local || scope.names.lookup y.1 == some .cell) = true)
    (hnd : ((cellsFrom 0 scope.names []).map (·.1)).Nodup)
    (h : ∀ L' h₁ tk cells, Fr g L' h₁ (bindL (envOfC qual scope L' f cdv).kindOf binds fun _ => none) → News g L' h₁ (cells ++ own) →
      CellsAre (bindC (envOfC qual scope L' f cdv).kindOf binds fun _ => none) (cellsFrom (L' + 1) scope.names []) cells → (∀ p ∈ own, p.1 < L') → EnvOk (envOfC qual scope L' f cdv) L' →
      wpAny (model prog w) (A.deeper (envOfC qual scope L' f cdv)) (execs body (envOfC qual scope L' f cdv)) (fun fl s' => R (.ok (.ret (match fl with | .ret v => v | _ => .none))) s')
        (fun e s' => wpAny (model prog w) (A.deeper (envOfC qual scope L' f cdv)) (leaving (envOfC qual scope L' f cdv) e) (fun _ s'' => R (.error e) s'') (fun e' s'' => R (.error e') s'') s')
        { s with heap := h₁, toks := tk })
    (hco : scope.isCoroutine = false) (hgen : scope.isGenerator = false) (hk : scope.kind = .function) : codeAny (model prog w) A (.call (.ref f) args) R s := by
  refine codeAny_call_function hroom (X₀ _ _ ho) rfl hco hgen rfl (codeRec_of X₀ hcd) (hbind _ _ _ _ ?_)
  refine wpAny_newFunctionEnv_cells hk (kindsX hkind _) fun env' he s' x => ?_
  subst he
  have kept := x.toInCall.keep
  refine ⟨hlim.keeps kept, codeAny_func ?_⟩
  obtain ⟨h₁, tk, rfl, _⟩ := x.done
  obtain ⟨cells, NC, Y⟩ := Cl.news (h₀ := s.heap) (Nat.le_refl _) fun n c hm => ⟨x.cell n c (lookup_of_mem_nodup (cellsFrom_names scope.names 0 (s.heap.objs.size + 1) [] [] rfl ▸ hnd) hm), x.above n c hm⟩
  subst hg
  have keep' : ∀ b o, (hideAll s.heap (own.map (·.1))).get? b = some o → h₁.get? b = some o := fun b o e => kept b o (of_hideAll _ e)
  refine h s.heap.objs.size h₁ tk cells ⟨x.toInCall.ns, keep', Nat.le_of_eq (hideAll_size _ _)⟩ (fun p hp => ?_) Y (fun p hp => Heap.lt_size (hown p hp)) ⟨hk, rfl, rfl, rfl⟩
  rcases List.mem_append.mp hp with hp | hp
  · refine ⟨(NC p hp).1, (NC p hp).2.1, ?_⟩
    cases e : (hideAll s.heap (own.map (·.1))).get? p.1 with
    | none => rfl
    | some o => have := of_hideAll _ e; rw [(NC p hp).2.2] at this; cases this
  · exact ⟨kept _ _ (hown p hp), Nat.ne_of_lt (Heap.lt_size (hown p hp)), hideAll_none _ (List.mem_map_of_mem hp)⟩
end
noncomputable def Off (R : List (Addr × Obj)) (AL : List Addr) : Prop := ∀ p ∈ R, ∀ a ∈ AL, @Ne Nat p.1 a
theorem off_ne {R : List (Addr × Obj)} {AL : List Addr} {d : Addr} (h : Off R AL) (hd : d ∈ AL) : ∀ p ∈ R, p.1 ≠ d := fun p hp => h p hp d hd
theorem allLt_mem {d : Addr} {l : List (Addr × Obj)} (x : AllLt d l) : ∀ p ∈ l, @LT.lt Nat _ p.1 d := by
  induction l with
  | nil => exact fun p h => nomatch h
  | cons q r ih => exact List.forall_mem_cons.mpr ⟨x.1, ih x.2⟩
theorem off_new {R : List (Addr × Obj)} {AL : List Addr} {d : Addr} (h : Off R AL) (l : AllLt d R) : Off R (d :: AL) := fun p hp a ha => by
  rcases List.mem_cons.mp ha with rfl | ha
  · exact Nat.ne_of_lt (allLt_mem l p hp)
  · exact h p hp a ha
theorem off_grow {R nw : List (Addr × Obj)} {AL : List Addr} {h₀ h : Heap} {L : Addr} {news : List (Addr × Obj)} (hY : Off R AL) (N : News h₀ L h news) (hal : ∀ a ∈ AL, ∃ o, (a, o) ∈ news) (hf : ∀ p ∈ nw, h.get? p.1 = none) : Off (R ++ nw) AL := fun p hp a ha e => by
  rcases List.mem_append.mp hp with hp | hp
  · exact hY p hp a ha e
  · obtain ⟨o, ho⟩ := hal a ha
    have h1 := hf p hp
    rw [show p.1 = a from e, (N _ ho).1] at h1; cases h1
theorem led_grow {R : List (Addr × Obj)} {P : Heap → Prop} (h : ∀ g : Heap, Led R g → P g) (nw : List (Addr × Obj)) : ∀ g : Heap, Led (R ++ nw) g → P g := fun g hh => h g (hh.sub fun _ q => List.mem_append_left _ q)
theorem led_growO {R nw : List (Addr × Obj)} {P : Heap → Prop} {AL : List Addr} (h : ∀ g : Heap, Led R g → P g) (_ : Off (R ++ nw) AL) : ∀ g : Heap, Led (R ++ nw) g → P g := led_grow h nw
theorem News.drop {h₀ h : Heap} {L : Addr} {x : Addr × Obj} {l : List (Addr × Obj)} (N : News h₀ L h (x :: l)) : News h₀ L h l := fun p hp => N p (.tail _ hp)
local macro_rules | `(tactic| k_all) => `(tactic| k_extra "KALL")
theorem item_one (x : Str) (i : Int) : (Txt.item x i).cps.size = 1 := rfl
theorem item_ascii {x : Str} (hx : x.cps.all (· < 128) = true) (i : Int) : (Txt.item x i).cps.all (· < 128) = true := by
  show (#[(Txt.charAt x i).getD 0] : Array Nat).all (· < 128) = true
  cases e : Txt.charAt x i with
  | none => simp
  | some c =>
    unfold Txt.charAt at e
    obtain ⟨k, _, hk⟩ := Option.bind_eq_some_iff.mp e
    rw [Array.all_eq_true] at hx
    have hk' := Array.getElem?_eq_some_iff.mp hk
    have := hx k hk'.1
    rw [hk'.2] at this
    simpa using this
noncomputable def Plain (S : Str) : Prop := S.cps.all (· < 128) = true
theorem join_cps : ∀ ss : List Str, (Str.join ⟨#[]⟩ ss).cps.toList = ss.flatMap fun x => x.cps.toList
  | [] => rfl
  | [x] => by simp [Str.join]
  | x :: y :: r => by
    show (x ++ ⟨#[]⟩ ++ Str.join ⟨#[]⟩ (y :: r)).cps.toList = _
    have h := join_cps (y :: r)
    show (x.cps ++ #[] ++ (Str.join ⟨#[]⟩ (y :: r)).cps).toList = _
    simp only [Array.toList_append, List.flatMap_cons] at h ⊢
    rw [h]; simp
theorem tjoin_cps (ss : List Str) : (Txt.join ⟨#[]⟩ ss).cps.toList = ss.flatMap fun x => x.cps.toList := by
  show (Builtin.Str.glued ⟨#[]⟩ ss).cps.toList = _
  rw [StrLaws.glued_eq_join]; exact join_cps ss
theorem plain_join {ss : List Str} (h : ∀ S ∈ ss, Plain S) : Plain (Txt.join ⟨#[]⟩ ss) := by
  unfold Plain
  rw [← Array.all_toList, tjoin_cps, List.all_eq_true]
  intro c hc
  obtain ⟨S, hS, hcS⟩ := List.mem_flatMap.mp hc
  have := h S hS
  unfold Plain at this
  rw [← Array.all_toList, List.all_eq_true] at this
  exact this c hcS
theorem size_join {ss : List Str} (h : ∀ S ∈ ss, S.cps.size = 1) : (Txt.join ⟨#[]⟩ ss).cps.size = ss.length := by
  rw [← Array.length_toList, tjoin_cps]
  induction ss with
  | nil => rfl
  | cons x r ih =>
    rw [List.flatMap_cons, List.length_append, ih fun S hS => h S (.tail _ hS), Array.length_toList, h x (.head _), List.length_cons]; omega
theorem sum4 {ss : List Str} (h : ∀ S ∈ ss, S.cps.size ≤ 4) (hl : ss.length ≤ 9) : (ss.map (·.length)).sum + ss.length ≤ 1048576 := by
  have : (ss.map (·.length)).sum ≤ 4 * ss.length := by
    clear hl
    induction ss with
    | nil => exact Nat.le_refl _
    | cons x r ih =>
      have h1 := h x (.head _)
      have h2 := ih fun S hS => h S (.tail _ hS)
      simp only [List.map_cons, List.sum_cons, List.length_cons]
      have : x.length = x.cps.size := rfl
      omega
  omega
theorem two_ints {vs : List Value} {ns : List Int} (h : IntsAre vs ns) (hl : ns.length = 2) : ∃ a b ta tb, vs = [.int a ta, .int b tb] := by
  cases h with
  | nil => cases hl
  | cons a ta r => cases r with
    | nil => cases hl
    | cons b tb r => cases r with
      | nil => exact ⟨a, b, ta, tb, rfl⟩
      | cons c tc r => exact absurd hl (by simp)
theorem plain_slice {G : Str} (hG : Plain G) (a b : Option Int) : Plain (Txt.slice G a b) := by
  unfold Txt.slice
  split
  · exact hG
  · unfold Plain at hG ⊢
    rw [← Array.all_toList, List.all_eq_true] at hG ⊢
    intro c hc
    obtain ⟨i, _, hi⟩ := List.mem_filterMap.mp (by simpa using hc)
    obtain ⟨h1, h2⟩ := Array.getElem?_eq_some_iff.mp hi
    exact hG c (by rw [← h2]; exact Array.getElem_mem_toList h1)
section
variable {prog : Program} {w : World} {A : Around} {E : Value → Shared → Prop} {s : Shared}
theorem item_menu {l : Addr} {its : List Value} {k : Int} {u : Tok} {value slice : Expr} {Q : Value → Shared → Prop} (P : Value → Prop) (hl : s.heap.IsList l its.toArray) (hP : ∀ v ∈ its, P v) (h0 : 0 ≤ k) (h1 : k < its.length) (hb : its.length ≤ 100) (h : ∀ v, P v → Q v s)
    (hs : subscripted slice false (.ref l) (.int k u) = operate [.ref l, .int k u] (getItem (.ref l) (.int k u)) := by with_unfolding_all rfl) :
    wpAny (model prog w) A (subscriptTail value slice (.ref l) (.int k u)) Q E s := by
  have hlt : k.toNat < its.length := by omega
  exact tail_any hl.typeIs slot_list_getitem.lookup (wpAny_getItem_list hl h0 (by omega) (x := its[k.toNat]) (by simp [hlt]) (h _ (hP _ (List.getElem_mem hlt)))) hs
end
noncomputable def PartV (v : Value) : Prop := ∃ S t, v = .str S t ∧ Plain S ∧ S.cps.size ≤ 9
theorem partV_lit {S : Str} {t : Tok} (h : (S.cps.all (· < 128) && decide (S.cps.size ≤ 9)) = true) : PartV (.str S t) := by
  rw [Bool.and_eq_true] at h
  exact ⟨S, t, rfl, h.1, of_decide_eq_true h.2⟩
noncomputable def pcStr : Pc → Str
  | .a => Str.ofString "a" | .b => Str.ofString "b" | .ab => Str.ofString "[ab]" | .na => Str.ofString "[^a]" | .dot => Str.ofString "."
noncomputable def PieceV (v : Value) : Prop := ∃ p t, v = .str (pcStr p) t
theorem pc_plain (p : Pc) : Plain (pcStr p) := by cases p <;> (unfold Plain; decide +kernel)
theorem pc_size (p : Pc) : (pcStr p).cps.size ≤ 4 := by cases p <;> decide +kernel
theorem pc_codes (p : Pc) : codesOf (pcStr p) = pcodes p := by cases p <;> rfl
theorem codes_rev (G : Str) (t : Tok) : codesOf (Txt.sliceBy G none none (-1, t)) = (codesOf G).reverse := by unfold codesOf; rw [rev_cps, List.map_reverse]
theorem size_rev (G : Str) (t : Tok) : (Txt.sliceBy G none none (-1, t)).cps.size = G.cps.size := by rw [← Array.length_toList, rev_cps, List.length_reverse, Array.length_toList]
theorem plain_rev {G : Str} (h : Plain G) (t : Tok) : Plain (Txt.sliceBy G none none (-1, t)) := by
  unfold Plain at h ⊢
  rw [← Array.all_toList] at h ⊢
  rw [rev_cps, List.all_reverse]; exact h
theorem codesOf_join (ps : List Pc) : codesOf (Txt.join (Str.ofString "") (ps.map pcStr)) = allCodes ps := by
  unfold codesOf
  rw [show Str.ofString "" = ⟨#[]⟩ from rfl, tjoin_cps]
  induction ps with
  | nil => rfl
  | cons p r ih =>
    have h := pc_codes p
    unfold codesOf at h
    simp only [List.map_cons, List.flatMap_cons, List.map_append, allCodes] at ih ⊢
    rw [ih, h]
theorem plain_pcs (ps : List Pc) : Plain (Txt.join (Str.ofString "") (ps.map pcStr)) := by
  rw [show Str.ofString "" = ⟨#[]⟩ from rfl]
  exact plain_join fun S hS => by obtain ⟨p, _, rfl⟩ := List.mem_map.mp hS; exact pc_plain p
theorem allCodes_len (ps : List Pc) : (allCodes ps).length ≤ 4 * ps.length := by
  induction ps with
  | nil => exact Nat.le_refl _
  | cons p r ih =>
    have : (pcodes p).length ≤ 4 := by cases p <;> decide
    simp only [allCodes, List.flatMap_cons, List.length_append, List.length_cons] at ih ⊢
    omega
theorem size_pcs (ps : List Pc) : (Txt.join (Str.ofString "") (ps.map pcStr)).cps.size ≤ 4 * ps.length := by
  have h := congrArg List.length (codesOf_join ps)
  have h2 := allCodes_len ps
  simp only [codesOf, List.length_map, Array.length_toList] at h
  omega
theorem four_pcs (ps : List Pc) : ∀ S ∈ ps.map pcStr, S.cps.size ≤ 4 := fun S hS => by obtain ⟨p, _, rfl⟩ := List.mem_map.mp hS; exact pc_size p
theorem strs_append {vs us : List Value} {xs ys : List Str} (h : StrsAre vs xs) (k : StrsAre us ys) : StrsAre (vs ++ us) (xs ++ ys) := by
  induction h with
  | nil => exact k
  | cons y t _ ih => exact .cons y t ih
theorem strs_reverse {vs : List Value} {xs : List Str} (h : StrsAre vs xs) : StrsAre vs.reverse xs.reverse := by
  induction h with
  | nil => exact .nil
  | cons y t _ ih => rw [List.reverse_cons, List.reverse_cons]; exact strs_append ih (.cons y t .nil)
theorem pick_rev (vs : List Value) : (slicePick vs.toArray none none (some (-1))).toList = vs.reverse := by
  rw [← rev_list]
  unfold slicePick
  show List.filterMap (vs.toArray[·]?) (sliceRange ((vs.toArray.size : Int) - 1) (-1) (-1)) = _
  rw [List.size_toArray]
  congr 1
  funext i
  simp
theorem strs_pick {vs : List Value} {ps : List Pc} (h : StrsAre vs (ps.map pcStr)) : StrsAre (slicePick vs.toArray none none (some (-1))).toList (ps.reverse.map pcStr) := by
  rw [pick_rev, List.map_reverse]; exact strs_reverse h
theorem ofs_nil : Str.ofString "" = ⟨#[]⟩ := by rfl
theorem strs_snoc {y : Str} {t : Tok} {vs : List Value} {ys : List Str} (h : StrsAre vs ys) : StrsAre (vs ++ [.str y t]) (ys ++ [y]) := kct_snoc h
--reg
example : True := by
  k_with "ENTERT" => (k_dflt (refine' enterTop (own := [(848, tabObj #[])]) ?kG ?kO ?k3 ?k5 ?k6 ?k7 ?k8 ?k9 ?kB ?kD ?_ ?c2 ?c3 ?c4; (case kG => exact hg); (case kO => exact List.forall_mem_cons.mpr ⟨h848, List.forall_mem_nil _⟩); (case k3 => exact X); (case k5 => assumption); (case k6 => k_is); (case k7 => k_is); (case k8 => decide); (case k9 => first | ((with_reducible refine binds1 ?_); kernel_rfl)); (case kB => exact rfl); (case kD => decide +kernel); (case c2 => exact rfl); (case c3 => exact rfl); (case c4 => exact rfl); k_whole; intro L' h' tk' cells' F' N' Y' l1 hE'; (try k_lt l1); (try dsimp only); (try k_fold)))
  k_with "KALL" => (first | exact List.forall_mem_nil _ | exact off_ne hOff (by k_mem) | (refine' List.forall_mem_cons.mpr ⟨?a, ?b⟩; (case a => k_ne); (case b => k_extra "KALL")))
  k_with "STEPSX" => (repeat' ((fail_if_success (with_reducible show wpAny _ _ (execs (_ :: _) _) _ _ _)); (fail_if_success (with_reducible show wpAny _ _ (pyIter _) _ _ _)); (fail_if_success (with_reducible show wpAny _ _ (eval (Expr.ListComp _ _ _ _) _) _ _ _)); (fail_if_success (with_reducible show LCg.CompSrc _ _ _ _ _ _ _ _ _ _ _ _ _ _)); first | (k_unfold; (try dsimp only)) | walk1 | (dsimp only; walk1) | (dsimp only; k_unfold; (try dsimp only)) | fail "no step"))
  trivial
--end
theorem LamAt.keeps {h h' : Heap} {la c' : Addr} {qual : Str} {p0 : Pos} {body : Expr} {fr : List Str} {g : Str} {cs : List Addr} {pm ctv : Value} (x : LamAt h la c' qual p0 body fr g cs pm ctv) (k : h.StaysIn h') : LamAt h' la c' qual p0 body fr g cs pm ctv := ⟨k _ _ x.1, x.2.keeps k⟩
theorem LamAt.fn {h : Heap} {la c' : Addr} {qual : Str} {p0 : Pos} {body : Expr} {fr : List Str} {g : Str} {cs : List Addr} {pm ctv : Value} (x : LamAt h la c' qual p0 body fr g cs pm ctv) : FnAt la h := ⟨_, _, _, _, x.1⟩
theorem c_again1 (w : World) {la c' : Addr} {qual : Str} {pm ctv : Value} {p0 p1 p2 p3 p4 p5 p6 p7 : Pos} {ca cb cc cd x wl : Addr} {ns ws : List Int} {f : Bool} {ts : Tok} (n : Nat) {place count : Int} {tp tc : Tok} (hn : n ≤ 3) (hc : count = n) (hn0 : 0 < n) (h0 : 0 ≤ place) (h1 : place ≤ ns.length) :
    Spec w 26 288 (nat_lit 315) [.ref la, .int place tp, .int count tc] (fun h => LamAt h la c' qual p0 (.Call (.Name (Str.ofString "search_forward") p1) [.Name (Str.ofString "there") p2, .Name (Str.ofString "at") p3, .Name (Str.ofString "words") p4, .Name (Str.ofString "size") p5, .Name (Str.ofString "folds") p6] [] p7)
      [Str.ofString "folds", Str.ofString "size", Str.ofString "there", Str.ofString "words"] (Str.ofString "search_forward") [ca, cb, cc, cd] pm ctv ∧ CellAt h ca (.bool f) ∧ CellAt h cb (.int ns.length ts) ∧ CellAt h cc (.ref x) ∧ CellAt h cd (.ref wl) ∧ RowIn h x ns ∧ ListIn h wl ws) (fun v nw => FoundAs (againV (fun p => fwd ns ws p ns.length f) true n place none) v nw) :=
  c_again w la _ true n place count ns.length tp tc _ (fun h h' k ⟨a, b, c, d, e, g, i⟩ => ⟨a.keeps k, b.keeps k, c.keeps k, d.keeps k, e.keeps k, g.keeps k, i.keeps k⟩) (fun h x => x.1.fn) (fun p t h0 h1 => c_lam1 w la c' qual pm ctv p0 p1 p2 p3 p4 p5 p6 p7 ca cb cc cd x wl ns ws f ts p t h0 h1) (fun p a b h0 h1 h => fwd_range p a b h0 h1 h) hn (by simpa using hc) hn0 h0 h1
theorem c_again2 (w : World) {la c' : Addr} {qual : Str} {pm ctv : Value} {p0 p1 p2 p3 p4 p5 p6 p7 p8 : Pos} {ca cb cc cd x tb co rl : Addr} {ns : List Int} {rs : List RRow} {f : Bool} {ts : Tok} (n : Nat) {place count : Int} {tp tc : Tok} (hn : n ≤ 3) (hc : count = n) (hn0 : 0 < n) (h0 : 0 ≤ place) (h1 : place ≤ ns.length) :
    Spec w 26 288 (nat_lit 315) [.ref la, .int place tp, .int count tc] (fun h => LamAt h la c' qual p0 (.Call (.Name (Str.ofString "re_search_forward") p1) [.Name (Str.ofString "there") p2, .Name (Str.ofString "table") p3, .Name (Str.ofString "at") p4, .Name (Str.ofString "code") p5, .Name (Str.ofString "size") p6, .Constant (.int 0) 0 p7] [] p8)
      [Str.ofString "code", Str.ofString "size", Str.ofString "table", Str.ofString "there"] (Str.ofString "re_search_forward") [ca, cb, cc, cd] pm ctv ∧ CellAt h ca (.ref co) ∧ CellAt h cb (.int ns.length ts) ∧ CellAt h cc (.ref tb) ∧ CellAt h cd (.ref x) ∧ CodeIn h co rl rs f ∧ RowIn h x ns ∧ TableIn h tb) (fun v nw => FoundAs (againV (fun p => reFwd f ns rs p ns.length) true n place none) v nw) :=
  c_again w la _ true n place count ns.length tp tc _ (fun h h' k ⟨a, b, c, d, e, g, i, j⟩ => ⟨a.keeps k, b.keeps k, c.keeps k, d.keeps k, e.keeps k, g.keeps k, i.keeps k, j.keeps k⟩) (fun h x => x.1.fn) (fun p t h0 h1 => c_lam2 w la c' qual pm ctv p0 p1 p2 p3 p4 p5 p6 p7 p8 ca cb cc cd x tb co rl ns rs f ts p t h0 h1) (fun p a b h0 h1 h => reFwd_range p a b h0 h1 h) hn (by simpa using hc) hn0 h0 h1
theorem c_again3 (w : World) {la c' : Addr} {qual : Str} {pm ctv : Value} {p0 p1 p2 p3 p4 p5 p6 p7 : Pos} {ca cb cc x wl : Addr} {ns ws : List Int} {f : Bool} (n : Nat) {place count : Int} {tp tc : Tok} (hn : n ≤ 3) (hc : count = -(n : Int)) (hn0 : 0 < n) (h0 : 0 ≤ place) (h1 : place ≤ ns.length) :
    Spec w 26 288 (nat_lit 315) [.ref la, .int place tp, .int count tc] (fun h => LamAt h la c' qual p0 (.Call (.Name (Str.ofString "search_backward") p1) [.Name (Str.ofString "back") p2, .Name (Str.ofString "at") p3, .Name (Str.ofString "mirror_words") p4, .Constant (.int 0) 0 p5, .Name (Str.ofString "folds") p6] [] p7)
      [Str.ofString "back", Str.ofString "folds", Str.ofString "mirror_words"] (Str.ofString "search_backward") [ca, cb, cc] pm ctv ∧ CellAt h ca (.ref x) ∧ CellAt h cb (.bool f) ∧ CellAt h cc (.ref wl) ∧ RowIn h x ns ∧ ListIn h wl ws) (fun v nw => FoundAs (againV (fun p => bwd ns ws p 0 f) false n place none) v nw) :=
  c_again w la _ false n place count ns.length tp tc _ (fun h h' k ⟨a, b, c, d, e, g⟩ => ⟨a.keeps k, b.keeps k, c.keeps k, d.keeps k, e.keeps k, g.keeps k⟩) (fun h x => x.1.fn) (fun p t h0 h1 => c_lam3 w la c' qual pm ctv p0 p1 p2 p3 p4 p5 p6 p7 ca cb cc x wl ns ws f p t h0 h1) (fun p a b h0 h1 h => bwd_range p a b h0 h1 h) hn (by simpa using hc) hn0 h0 h1
theorem c_again4 (w : World) {la c' : Addr} {qual : Str} {pm ctv : Value} {p0 p1 p2 p3 p4 p5 p6 p7 p8 : Pos} {ca cb cc x tb co rl : Addr} {ns : List Int} {rs : List RRow} {f : Bool} (n : Nat) {place count : Int} {tp tc : Tok} (hn : n ≤ 3) (hc : count = -(n : Int)) (hn0 : 0 < n) (h0 : 0 ≤ place) (h1 : place ≤ ns.length) :
    Spec w 26 288 (nat_lit 315) [.ref la, .int place tp, .int count tc] (fun h => LamAt h la c' qual p0 (.Call (.Name (Str.ofString "re_search_backward") p1) [.Name (Str.ofString "back") p2, .Name (Str.ofString "table") p3, .Name (Str.ofString "at") p4, .Name (Str.ofString "mirror_code") p5, .Constant (.int 0) 0 p6, .Constant (.int 0) 0 p7] [] p8)
      [Str.ofString "back", Str.ofString "mirror_code", Str.ofString "table"] (Str.ofString "re_search_backward") [ca, cb, cc] pm ctv ∧ CellAt h ca (.ref x) ∧ CellAt h cb (.ref co) ∧ CellAt h cc (.ref tb) ∧ CodeIn h co rl rs f ∧ RowIn h x ns ∧ TableIn h tb) (fun v nw => FoundAs (againV (fun p => reBwd f ns rs p 0) false n place none) v nw) :=
  c_again w la _ false n place count ns.length tp tc _ (fun h h' k ⟨a, b, c, d, e, g, i⟩ => ⟨a.keeps k, b.keeps k, c.keeps k, d.keeps k, e.keeps k, g.keeps k, i.keeps k⟩) (fun h x => x.1.fn) (fun p t h0 h1 => c_lam4 w la c' qual pm ctv p0 p1 p2 p3 p4 p5 p6 p7 p8 ca cb cc x tb co rl ns rs f p t h0 h1) (fun p a b h0 h1 h => reBwd_range p a b h0 h1 h) hn (by simpa using hc) hn0 h0 h1
structure LawIn (h : Heap) (L dk ds xT xB xS lW lM xC xM flC flM : Addr) (ys : List Value) (ns ws : List Int) (ps : List Pc) (f : Bool) (tsz : Tok) : Prop where
  deck : CellAt h (L + 1) (.ref dk)
  back : CellAt h (L + 1 + 1) (.ref xB)
  code : CellAt h (L + 1 + 1 + 1) (.ref xC)
  folds : CellAt h (L + 1 + 1 + 1 + 1) (.bool f)
  mcode : CellAt h (L + 1 + 1 + 1 + 1 + 1) (.ref xM)
  mwords : CellAt h (L + 1 + 1 + 1 + 1 + 1 + 1) (.ref lM)
  size : CellAt h (L + 1 + 1 + 1 + 1 + 1 + 1 + 1) (.int ns.length tsz)
  table : CellAt h (L + 1 + 1 + 1 + 1 + 1 + 1 + 1 + 1) (.ref xS)
  there : CellAt h (L + 1 + 1 + 1 + 1 + 1 + 1 + 1 + 1 + 1) (.ref xT)
  words : CellAt h (L + 1 + 1 + 1 + 1 + 1 + 1 + 1 + 1 + 1 + 1) (.ref lW)
  list : h.IsList ds ys.toArray
  rowT : RowIn h xT ns
  rowB : RowIn h xB ns.reverse
  tab : TableIn h xS
  lw : ListIn h lW ws
  lm : ListIn h lM ws.reverse
  cd : CodeIn h xC flC (ps.map prow) f
  cm : CodeIn h xM flM (ps.map prow).reverse f
section
variable {prog : Program} {w : World} {A : Around} {E : Value → Shared → Prop} {s : Shared} {env : Env} {h₀ : Heap} {L : Addr} {Q : Flow → Shared → Prop} {body : List Stmt} {x : Str}
noncomputable def KEnd (h₀ : Heap) (L : Addr) (J : (Str → Option Value) → List (Addr × Obj) → Prop) (I : Addr) (oI : Obj) (s : Shared) (f : Flow) (s₂ : Shared) : Prop :=
  f = .next ∧ ∃ h' tk m' nx', s₂ = { s with heap := h', toks := tk } ∧ Fr h₀ L h' m' ∧ News h₀ L h' ((I, oI) :: nx') ∧ (∀ p ∈ nx', p.1 ≠ I) ∧ J m' nx'
theorem range_K {r : Addr} {a₀ b₀ : Int} {t₀ u₀ v₀ : Tok} {m₀ : Str → Option Value} {news₀ news' : List (Addr × Obj)} (J : Nat → (Str → Option Value) → List (Addr × Obj) → Prop) (hh : A.handled = none) (hr : IsRange s.heap r a₀ b₀ 1 t₀ u₀ v₀)
    (ha : -(2 ^ 62) ≤ a₀ ∧ a₀ < 2 ^ 62 ∧ -(2 ^ 62) ≤ b₀ ∧ b₀ < 2 ^ 62) (F : Fr h₀ env.locals s.heap m₀) (N : News h₀ env.locals s.heap news') (hs : ∀ p ∈ news₀, p ∈ news') (hj : J 0 m₀ news₀)
    (turn : ∀ (i : Nat) t m₁ nx h tk I oI, a₀ + i < b₀ → J i m₁ nx → (∀ p ∈ nx, p.1 ≠ I) → Fr h₀ env.locals h (fun y => if y = x then some (.int (a₀ + i) t) else m₁ y) → News h₀ env.locals h ((I, oI) :: nx) →
      wpAny (model prog w) A (execs body env) (KEnd h₀ env.locals (J (i + 1)) I oI { s with heap := h, toks := tk }) E { s with heap := h, toks := tk })
    (done : ∀ m₁ nx h tk, J (b₀ - a₀).toNat m₁ nx → Fr h₀ env.locals h m₁ → News h₀ env.locals h nx → Q .next { s with heap := h, toks := tk }) :
    wpAny (model prog w) A (pyIter (.ref r)) (fun it s₂ => LoopAtV prog w A h₀ env x body Q E it s₂) E s := by
  refine wpAny_pyIter_range hr (small_one ha.1 ha.2.1 ha.2.2.1 ha.2.2.2) ?_
  have W : Walks prog w A s.heap.objs.size [s.heap.objs.size] [s.heap.objs.size] (b₀ - a₀).toNat (fun i v => i < (b₀ - a₀).toNat ∧ ∃ t, v = .int (a₀ + i * 1) t)
      (fun i h => IsRangeIter h s.heap.objs.size (a₀ + (i : Nat) * 1) (((b₀ - a₀).toNat : Int) - (i : Nat)) 1) := (Walks.range hh _ a₀ 1 (b₀ - a₀).toNat).bound
  have N₀ : News h₀ env.locals s.heap news₀ := fun p hp => N p (hs p hp)
  refine ⟨_, _, _, _, _, _, m₀, news₀, J, rfl, W, ?_, ?_, ?_, (by show IsRangeIter _ _ _ _ _; rw [rangeSize_nat]; simpa using Heap.get?_push_size _ rfl), F.push _, fun p hp => ⟨Heap.get?_push_of_some _ (N₀ p hp).1, (N₀ p hp).2⟩, hj, ?_, ?_⟩
  · intro hm
    exact absurd F.ns.lt ((List.mem_singleton.mp hm) ▸ Nat.lt_irrefl _)
  · intro b hb
    rw [List.mem_singleton.mp hb]
    exact next_is_new F
  · intro p hp hI
    exact absurd (Heap.lt_size (N₀ p hp).1) ((List.mem_singleton.mp hI) ▸ Nat.lt_irrefl _)
  · rintro i v m₁ nx s₁ own ⟨hh', tk', rfl⟩ hin ⟨_, t, rfl⟩ hJ hoff hown hat hall hst F₁ N₁
    have e1 : a₀ + (i : Int) * 1 = a₀ + (i : Int) := by omega
    rw [e1] at F₁
    obtain ⟨oI, hI⟩ : ∃ o, hh'.get? s.heap.objs.size = some o := ⟨_, hst⟩
    have hmem := hall _ (List.mem_singleton.mpr rfl) (next_is_new F) _ hI
    have hoff' : ∀ p ∈ nx, p.1 ≠ s.heap.objs.size := fun p hp e => hoff p hp (List.mem_singleton.mpr e)
    refine wpAny_mono (turn i t m₁ nx hh' tk' s.heap.objs.size oI (by omega) hJ hoff' F₁ (fun p hp => ?_)) (fun f s₂ p => ?_) fun _ _ e => e
    · rcases List.mem_cons.mp hp with rfl | hp
      · exact N₁ _ (List.mem_append_left _ hmem)
      · exact N₁ _ (List.mem_append_right _ hp)
    · obtain ⟨rfl, h', tk, m', nx', e, F', N', h1, h4⟩ := p
      refine .next ⟨rfl, h', tk, m', nx', e, F', fun p hp => ?_, fun p hp hq => h1 p hp (List.mem_singleton.mp hq), h4⟩
      rcases List.mem_append.mp hp with hp | hp
      · have e1 := List.mem_singleton.mp (hown p hp)
        have e2 := hat p hp
        rw [e1] at e2
        have e3 := Option.some.inj (e2.symm.trans hI)
        have : p = (s.heap.objs.size, p.2) := Prod.ext e1 rfl
        rw [this, e3]
        exact N' _ (.head _)
      · exact N' _ (.tail _ hp)
  · rintro h' tk m' news' F' N' _ hJ
    exact done m' news' h' tk hJ F' N'
end
noncomputable def lawFd (KF : Frag) : FuncData := match KF.lookup (nat_lit 851) with
  | some ⟨_, _, .func fd, _⟩ => fd
  | _ => default
noncomputable def lawStmts (KF : Frag) : List Stmt := match (lawFd KF).body with
  | .stmts b => b
  | _ => []
noncomputable def forOf : Stmt → List Stmt
  | .For _ _ b _ _ => b
  | _ => []
noncomputable def forBody (b : List Stmt) : List Stmt := forOf (nth b 11)
section
variable {M : Model} {A : Around} {E : Value → Shared → Prop} {s : Shared} {Q : Value → Shared → Prop} {cl : List (Str × Addr)} {x : Str} {c : Addr} {v : Value} {pos : Pos} {cn : Str} {cs : Scope} {L a : Addr} {ccd : Value}
theorem ld_own (hc : cl.lookup x = some c) (C : CellAt s.heap c v) (h : Q v s)
    (hk : cs.kind = .function := by rfl) (hx : (envX cn cs L a ccd cl).kindOf x = some .cell := by rfl) (hb : (x == ("__debug__" : Str)) = false := by decide) : wpAny M A (eval (.Name x pos) (envX cn cs L a ccd cl)) Q E s := by
  obtain ⟨o, e, d⟩ := C
  exact wpAny_Name (wpAny_loadName_cell hk hx hc ⟨o, e, d⟩ h) hb
end
theorem off_growL {R nw news : List (Addr × Obj)} {AL : List Addr} (hY : Off R AL) (hal : ∀ a ∈ AL, ∃ o, (a, o) ∈ news) (hf : ∀ r ∈ nw, ∀ q ∈ news, @LT.lt Nat _ q.1 r.1) : Off (R ++ nw) AL := fun p hp a ha e => by
  rcases List.mem_append.mp hp with hp | hp
  · exact hY p hp a ha e
  · obtain ⟨o, ho⟩ := hal a ha
    exact Nat.ne_of_lt (hf p hp _ ho) e.symm
theorem mem_lam {f : Addr × Obj} {ex l : List (Addr × Obj)} : ∀ p ∈ f :: (l ++ ex), p ∈ f :: (ex ++ l) := fun p hp => by
  rcases List.mem_cons.mp hp with rfl | hp
  · exact .head _
  · exact .tail _ ((List.mem_append.mp hp).elim (List.mem_append_right _) (List.mem_append_left _))
theorem News.drop2 {h₀ h : Heap} {L : Addr} {x y : Addr × Obj} {l : List (Addr × Obj)} (N : News h₀ L h (x :: y :: l)) : News h₀ L h (x :: l) := fun p hp => N p (by
  rcases List.mem_cons.mp hp with rfl | hp
  · exact .head _
  · exact .tail _ (.tail _ hp))
section
variable {M : Model} {A : Around} {E : Value → Shared → Prop} {s : Shared} {C c : Addr} {scope : Scope} {cl : List (Str × Addr)} {env : Env} {x : Str} {pos : Pos} {v : Value} {Q : Value → Shared → Prop}
theorem ld_cellAt (hc : cl.lookup x = some c) (h1 : CellAt s.heap c v) (h : Q v s)
    (hk : (compEnvC scope cl C env).scope.kind = .function := by rfl) (hx : (compEnvC scope cl C env).kindOf x = some .cell := by rfl) (hb : (x == ("__debug__" : Str)) = false := by decide) :
    wpAny M A (eval (.Name x pos) (compEnvC scope cl C env)) Q E s := by
  obtain ⟨o, e, d⟩ := h1
  exact wpAny_Name (wpAny_loadName_cell hk hx hc ⟨o, e, d⟩ h) hb
end
theorem elem_end {g h h' : Heap} {L I C D : Addr} {oI oC oD : Obj} {m : Str → Option Value} {s₁ : Shared} {S : List (Addr × Obj) → Prop} {rest : Value → List (Addr × Obj) → Prop} {v : Value} {tk : Nat} {nw nw9 : List (Addr × Obj)}
    (F : Fr g L h' m) (N9 : News g L h' (nw9 ++ ((I, oI) :: (C, oC) :: (D, oD) :: nw))) (N : News g L h ((I, oI) :: (C, oC) :: (D, oD) :: nw)) (off : LCg.Off3 I C D nw) (hf : ∀ p ∈ nw9, h.get? p.1 = none) (hS : S (nw ++ nw9)) (hr : rest v (nw ++ nw9)) :
    LCg.CompEnd g L m s₁ I oI C oC D oD S rest v { s₁ with heap := h', toks := tk } := by
  refine LCg.CompEnd.intro F N9 (nw ++ nw9) (fun p hp => ?_) (LCg.Off3.of fun p hp => ?_) hS hr
  · rcases List.mem_cons.mp hp with rfl | hp
    · exact List.mem_append_right _ (.head _)
    · rcases List.mem_cons.mp hp with rfl | hp
      · exact List.mem_append_right _ (.tail _ (.head _))
      · rcases List.mem_cons.mp hp with rfl | hp
        · exact List.mem_append_right _ (.tail _ (.tail _ (.head _)))
        · exact (List.mem_append.mp hp).elim (fun q => List.mem_append_right _ (.tail _ (.tail _ (.tail _ q)))) (List.mem_append_left _)
  · rcases List.mem_append.mp hp with hp | hp
    · exact off.mem p hp
    · have h1 := hf p hp
      refine ⟨fun e => ?_, fun e => ?_, fun e => ?_⟩
      · rw [e, (N (I, oI) (.head _)).1] at h1; cases h1
      · rw [e, (N (C, oC) (.tail _ (.head _))).1] at h1; cases h1
      · rw [e, (N (D, oD) (.tail _ (.tail _ (.head _)))).1] at h1; cases h1
noncomputable abbrev lamQ : Str := (envOfC (Str.ofString "law") default 0 0 .none).qual ++ "<lambda>"
theorem LTab.grow {q : Str} {ps : Array Value} {Y nw : List (Addr × Obj)} {AL : List Addr} (h : LTab q ps Y) (_ : Off (Y ++ nw) AL) : LTab q ps (Y ++ nw) := h.mono fun _ hp => List.mem_append_left _ hp
theorem News.lam {h₀ h : Heap} {L : Addr} {f : Addr × Obj} {ex l : List (Addr × Obj)} (N : News h₀ L h (f :: (ex ++ l))) : News h₀ L h (f :: (l ++ ex)) := fun p hp => N p (mem_lam p hp)
theorem codeRec_led {q : Str} {Y : List (Addr × Obj)} {c : Addr} {h : Heap} (x : ∃ oc vs t, (c, oc) ∈ Y ∧ oc.data = .fields vs ∧ vs[1]? = some (.str q t)) (hh : Led Y h) : h.CodeRec (.ref c) q := let ⟨oc, vs, t, a, b, d⟩ := x; ⟨c, oc, vs, t, rfl, hh _ a, b, d⟩
noncomputable def TurnEnd (g : Heap) (L dk ds : Addr) (I : Addr) (oI : Obj) (Y : List (Addr × Obj)) (k : Int) (s : Shared) (fl : Flow) (s' : Shared) : Prop :=
  fl = .next ∧ ∃ h' tk m' ps t' kd' Y', s' = { s with heap := h', toks := tk } ∧ Fr g L h' m' ∧ News g L h' ((I, oI) :: (848, tabObj ps) :: (dk, listOf #[.ref ds, .int (k + 1 + 1 + 1) t'] kd') :: Y') ∧ (∀ p ∈ Y, p ∈ Y') ∧ LTab lamQ ps Y' ∧ Off Y' [I, dk, 848]
noncomputable def IfEnd (g : Heap) (L : Addr) (m : Str → Option Value) (Z : List (Addr × Obj)) (s : Shared) (fl : Flow) (s' : Shared) : Prop :=
  fl = .next ∧ ∃ h' tk W, s' = { s with heap := h', toks := tk } ∧ Fr g L h' m ∧ News g L h' (Z ++ W)
theorem fr_seen {g h : Heap} {L fl sl : Addr} {m : Str → Option Value} (F : Fr g L h m) (h1 : m (Str.ofString "seen") = some (.ref sl)) (h2 : m (Str.ofString "found") = some (.ref fl)) : ∃ u7 : Str → Option Value, Fr g L h (fun y => if y = Str.ofString "seen" then some (.ref sl) else if y = Str.ofString "found" then some (.ref fl) else u7 y) := ⟨m, canon2 _ _ h1 h2 ▸ F⟩
theorem FAll.take1 {rs : List (Option (Int × Int))} {f : Option (Int × Int) → Option (Int × Int)} {i : Nat} {r : Option (Int × Int)} (h : rs[i]? = some r) : (rs.take (i + 1)).map f = (rs.take i).map f ++ [f r] := by
  rw [List.take_add_one, h, List.map_append]; rfl
--reg
example : True := by
  k_with "LED" => (exact fun p hp => ((by assumption : News _ _ _ _) p (by repeat' (first | exact hp | refine List.Mem.tail _ ?_ | refine List.mem_append_left _ ?_))).1)
  k_with "eval Name" => (k_here; (with_reducible show wpAny _ _ (eval (Expr.Name _ _) (envOfC _ _ _ _ _)) _ _ _); k_dflt (refine' ld_own ?c ?C ?_ ?a ?b ?e; (case c => rfl); (case a => rfl); (case b => rfl); (case e => decide); (case C => (have hW9 := hLaw _ (by k_extra "LED"); first | exact hW9.deck | exact hW9.back | exact hW9.code | exact hW9.folds | exact hW9.mcode | exact hW9.mwords | exact hW9.size | exact hW9.table | exact hW9.there | exact hW9.words))))
  k_with "PREM" => (exact ⟨(hLaw _ (fun q hq => hn9 q (by repeat' (first | exact hq | refine List.Mem.tail _ ?_ | refine List.mem_append_left _ ?_)) (by exact off_ne hOff (by k_mem) q hq))).list, hIA, hpos⟩)
  k_with "call ref" => (k_dflt (refine' SpecM.use (c_draw _ _ ds _ _ _ _ _ ys nsA ?h0 ?h1 ?h2 ?h3 hnl) ?k1 ?k2 ?k3 ?k4 ?k5 ?k6 ?k7 ?k8 ?k9 ?k10 ?_; k_extra "MYMUT"; (case h0 => omega); (case h1 => omega); (case h2 => omega); (case h3 => omega); intro v9 nw9 h9 tk9 F9 U9 N9 S9 hp9; obtain ⟨r9, tr9, t9, kd9, hr0, hr1, hv9, hn9⟩ := hp9; subst hn9; subst hv9; (replace U9 := U9 _ (List.Mem.head _)); clear N9 S9; (try dsimp only at U9); (try dsimp only); (try k_fold)))
  k_with "CALLS" => ((case k1 => k_asm); (case k2 => k_asm); (case k3 => k_asm); (case k4 => k_asm); (case k5 => k_asm); (case k6 => first | exact rfl | assumption); (case k7 => ktr_room); (case k8 => ktr_units))
  k_with "OM" => (first | omega | (simp only [List.length_reverse]; omega))
  k_with "ALL" => (repeat' first | exact List.forall_mem_nil _ | (refine List.forall_mem_cons.mpr ⟨⟨_, by k_mem⟩, ?_⟩))
  k_with "GROWT" => ((replace hOff := off_grow hOff (by assumption) (by k_extra "ALL") ha9); (replace hLT := hLT.grow hOff); (replace N9 := News.swap N9); (simp only [List.cons_append] at N9); clear ha9 hs9 hp9)
  k_with "call ref" => (k_dflt (refine' Spec.use (c_search_forward _ xT lW _ _ ns ws pl bd f ?h0 ?h1 ?h2 ?h3) ?k1 ?k2 ?k3 ?k4 ?k5 ?k6 ?k7 ?k8 ?k9 ?_; (case k9 => (have hW9 := hLaw _ (by k_extra "LED"); exact ⟨hW9.rowT, hW9.lw⟩)); k_extra "CALLS"; (case h0 => k_extra "OM"); (case h1 => k_extra "OM"); (case h2 => k_extra "OM"); (case h3 => k_extra "OM"); intro v1 nw1 h9 tk9 F9 N9 ha9 hs9 hp9; (have hf1 := FLed.of hp9); k_extra "GROWT"; (try dsimp only); (try k_fold)))
  k_with "call ref" => (k_dflt (refine' Spec.use (c_re_forward _ xT xS xC flC (ps.map prow) f ns pl bd _ _ _ ?h0 ?h1 ?h2 ?h3) ?k1 ?k2 ?k3 ?k4 ?k5 ?k6 ?k7 ?k8 ?k9 ?_; (case k9 => (have hW9 := hLaw _ (by k_extra "LED"); exact ⟨hW9.cd, hW9.rowT, hW9.tab⟩)); k_extra "CALLS"; (case h0 => k_extra "OM"); (case h1 => k_extra "OM"); (case h2 => k_extra "OM"); (case h3 => k_extra "OM"); intro v2 nw2 h9 tk9 F9 N9 ha9 hs9 hp9; (have hf2 := FLed.of hp9); k_extra "GROWT"; (try dsimp only); (try k_fold)))
  k_with "call ref" => (k_dflt (refine' Spec.use (c_search_backward _ xB lM _ _ ns.reverse ws.reverse (ns.length - pl) (ns.length - bd) f ?h0 ?h1 ?h2 ?h3) ?k1 ?k2 ?k3 ?k4 ?k5 ?k6 ?k7 ?k8 ?k9 ?_; (case k9 => (have hW9 := hLaw _ (by k_extra "LED"); exact ⟨hW9.rowB, hW9.lm⟩)); k_extra "CALLS"; (case h0 => k_extra "OM"); (case h1 => k_extra "OM"); (case h2 => k_extra "OM"); (case h3 => k_extra "OM"); intro v5 nw5 h9 tk9 F9 N9 ha9 hs9 hp9; (have hf5 := FLed.of hp9); k_extra "GROWT"; (try dsimp only); (try k_fold)))
  k_with "call ref" => (k_dflt (refine' Spec.use (c_re_backward _ xB xS xM flM (ps.map prow).reverse f ns.reverse (ns.length - pl) (ns.length - bd) _ _ _ ?h0 ?h1 ?h2 ?h3) ?k1 ?k2 ?k3 ?k4 ?k5 ?k6 ?k7 ?k8 ?k9 ?_; (case k9 => (have hW9 := hLaw _ (by k_extra "LED"); exact ⟨hW9.cm, hW9.rowB, hW9.tab⟩)); k_extra "CALLS"; (case h0 => k_extra "OM"); (case h1 => k_extra "OM"); (case h2 => k_extra "OM"); (case h3 => k_extra "OM"); intro v6 nw6 h9 tk9 F9 N9 ha9 hs9 hp9; (have hf6 := FLed.of hp9); k_extra "GROWT"; (try dsimp only); (try k_fold)))
  k_with "call ref" => (k_dflt (refine' Spec.use (c_again1 _ n ?hn ?hc ?hn0 ?h0 ?h1) ?k1 ?k2 ?k3 ?k4 ?k5 ?k6 ?k7 ?k8 ?k9 ?_; (case k9 => (have hW9 := hLaw _ (by k_extra "LED"); have hC9 := codeRec_led hcr' (by k_extra "LED"); exact ⟨⟨(N' (f', _) (List.Mem.head _)).1, hC9⟩, hW9.folds, hW9.size, hW9.there, hW9.words, hW9.rowT, hW9.lw⟩)); k_extra "CALLS"; (case hn => omega); (case hc => omega); (case hn0 => omega); (case h0 => k_extra "OM"); (case h1 => k_extra "OM"); intro v3 nw3 h9 tk9 F9 N9 ha9 hs9 hp9; (have hf3 := FLed.of hp9); k_extra "GROWT"; (replace N9 := News.drop N9); clear e1' e2' e3' hcr'; (try dsimp only); (try k_fold)))
  k_with "call ref" => (k_dflt (refine' Spec.use (c_again2 _ n ?hn ?hc ?hn0 ?h0 ?h1) ?k1 ?k2 ?k3 ?k4 ?k5 ?k6 ?k7 ?k8 ?k9 ?_; (case k9 => (have hW9 := hLaw _ (by k_extra "LED"); have hC9 := codeRec_led hcr' (by k_extra "LED"); exact ⟨⟨(N' (f', _) (List.Mem.head _)).1, hC9⟩, hW9.code, hW9.size, hW9.table, hW9.there, hW9.cd, hW9.rowT, hW9.tab⟩)); k_extra "CALLS"; (case hn => omega); (case hc => omega); (case hn0 => omega); (case h0 => k_extra "OM"); (case h1 => k_extra "OM"); intro v4 nw4 h9 tk9 F9 N9 ha9 hs9 hp9; (have hf4 := FLed.of hp9); k_extra "GROWT"; (replace N9 := News.drop N9); clear e1' e2' e3' hcr'; (try dsimp only); (try k_fold)))
  k_with "call ref" => (k_dflt (refine' Spec.use (c_again3 _ n ?hn ?hc ?hn0 ?h0 ?h1) ?k1 ?k2 ?k3 ?k4 ?k5 ?k6 ?k7 ?k8 ?k9 ?_; (case k9 => (have hW9 := hLaw _ (by k_extra "LED"); have hC9 := codeRec_led hcr' (by k_extra "LED"); exact ⟨⟨(N' (f', _) (List.Mem.head _)).1, hC9⟩, hW9.back, hW9.folds, hW9.mwords, hW9.rowB, hW9.lm⟩)); k_extra "CALLS"; (case hn => omega); (case hc => omega); (case hn0 => omega); (case h0 => k_extra "OM"); (case h1 => k_extra "OM"); intro v7 nw7 h9 tk9 F9 N9 ha9 hs9 hp9; (have hf7 := FLed.of hp9); k_extra "GROWT"; (replace N9 := News.drop N9); clear e1' e2' e3' hcr'; (try dsimp only); (try k_fold)))
  k_with "call ref" => (k_dflt (refine' Spec.use (c_again4 _ n ?hn ?hc ?hn0 ?h0 ?h1) ?k1 ?k2 ?k3 ?k4 ?k5 ?k6 ?k7 ?k8 ?k9 ?_; (case k9 => (have hW9 := hLaw _ (by k_extra "LED"); have hC9 := codeRec_led hcr' (by k_extra "LED"); exact ⟨⟨(N' (f', _) (List.Mem.head _)).1, hC9⟩, hW9.back, hW9.mcode, hW9.table, hW9.cm, hW9.rowB, hW9.tab⟩)); k_extra "CALLS"; (case hn => omega); (case hc => omega); (case hn0 => omega); (case h0 => k_extra "OM"); (case h1 => k_extra "OM"); intro v8 nw8 h9 tk9 F9 N9 ha9 hs9 hp9; (have hf8 := FLed.of hp9); k_extra "GROWT"; (replace N9 := News.drop N9); clear e1' e2' e3' hcr'; (try dsimp only); (try k_fold)))
  k_with "eval Lambda" => (k_here; k_dflt (refine' kla_eval ?d0 ?_; (case d0 => exact rfl)); (k_dflt (refine' lam_make (qual := lamQ) ?F ?N ?T ?C ?cd ?U ?t ?cl ?_; (case F => k_asm); (case N => k_asm); (case T => k_asm); (case cd => exact rfl); (case C => kn_code); (case U => k_updF); (case t => exact hLT); (case cl => exact rfl); k_whole)); intro f' c' ps' ex' h' tk' ctv' F' N' hLT hcr' e1' e2' e3'; (try dsimp only at N'); (replace N' := News.lam N'); (simp only [List.cons_append] at N'); (replace hOff := off_growL hOff (by k_extra "ALL") e1'))
  k_with "eval Name" => (k_here; (with_reducible show wpAny _ _ (eval (Expr.Name _ _) (compEnvC _ _ _ _)) _ _ _); k_dflt (refine' ld_cellAt ?c ?C ?_ ?a ?b ?e; (case c => rfl); (case a => rfl); (case b => rfl); (case e => decide); (case C => exact hSize)))
  k_with "call ref" => (k_dflt (refine' Spec.use (c_mirr _ Zc rc _ ns.length tsz hvc) ?k1 ?k2 ?k3 ?k4 ?k5 ?k6 ?k7 ?k8 ?k9 ?_; k_extra "CALLS"; (case k9 => exact hLedc); intro v9 nw9 h9 tk9 F9 N9 ha9 hs9 hp9; (try dsimp only); (try k_fold)))
  k_with "call ref" => (k_dflt (refine' Spec.use (c_lwh _ Zc rc _ hvc) ?k1 ?k2 ?k3 ?k4 ?k5 ?k6 ?k7 ?k8 ?k9 ?_; k_extra "CALLS"; (case k9 => exact hLedc); intro v9 nw9 h9 tk9 F9 N9 ha9 hs9 hp9; (try dsimp only); (try k_fold)))
  k_with "INAPP" => (repeat' first | exact hq | exact List.mem_append_right _ hq | refine List.mem_append_left _ ?_)
  k_with "STEPSE" => (repeat' ((fail_if_success (with_reducible show wpAny _ _ (eval (Expr.ListComp _ _ _ _) _) _ _ _)); (fail_if_success (with_reducible show LCg.CompSrc _ _ _ _ _ _ _ _ _ _ _ _ _ _)); (fail_if_success (with_reducible show LCg.CompEnd _ _ _ _ _ _ _ _ _ _ _ _ _ _)); (fail_if_success (with_reducible show IfEnd _ _ _ _ _ _ _)); first | (k_unfold; (try dsimp only)) | walk1 | (dsimp only; walk1) | (dsimp only; k_unfold; (try dsimp only)) | fail "no step"))
  k_with "compareOp NotEq ref ref" => (k_here; (with_reducible show wpAny _ _ (compareOp CmpOp.NotEq (Value.ref _) (Value.ref _)) _ _ _); k_dflt (refine' ne_found (Y := Ze) ?k1 hFA ?k2 hFB ?kL ?k5 ?_; (case k1 => exact News.isList Nfin hDA); (case k2 => exact News.isList Nfin hDB); (case kL => exact fun p hp => (Nfin p (List.Mem.tail _ hp)).1); (case k5 => ktr_units)))
  trivial
--end
theorem law_eqs {KF : Frag} {name qual : Str} {params : Arguments} {body : List Stmt} {scope : Scope} {dV kV doc pm cdv ct oc : Value} {an od : Option Addr} {osl : Array (Option Value)} (ho : KF.lookup (nat_lit 851) = some ⟨oc, od, .func (fnOf name qual params body scope dV kV doc pm an cdv ct), osl⟩) : lawStmts KF = body ∧ (lawFd KF).scope = scope :=
  ⟨by unfold lawStmts lawFd; rw [ho], by unfold lawFd; rw [ho]⟩
theorem law_use {KF : Frag} {name qual : Str} {params : Arguments} {body : List Stmt} {scope : Scope} {dV kV doc pm cdv ct oc : Value} {an od : Option Addr} {osl : Array (Option Value)} (ho : KF.lookup (nat_lit 851) = some ⟨oc, od, .func (fnOf name qual params body scope dV kV doc pm an cdv ct), osl⟩) {G : Prop} (h : lawStmts KF = body → (lawFd KF).scope = scope → G) : G := h (law_eqs ho).1 (law_eqs ho).2
theorem off_I {Z : List (Addr × Obj)} {I a b : Addr} (h1 : ∀ p ∈ Z, @Ne Nat p.1 I) (h2 : Off Z [a, b]) : Off Z [I, a, b] := fun p hp x hx => by
  rcases List.mem_cons.mp hx with rfl | hx
  · exact h1 p hp
  · exact h2 p hp x hx
theorem law_if (w : World) (mg mb : Str → Option Value) (s : Shared) (h0 : Heap) (tk0 : Nat) (g : Heap) (p : Program) (loose : List Str) (mean : ExcName → Option Value) (L' fl sl : Addr) (kf ks : Nat) (u : Str → Option Value) (Zc : List (Addr × Obj)) (vsF vsS : List Value) (rsF rsS : List (Option (Int × Int))) (ns : List Int) (tsz : Tok) (E : Value → Shared → Prop)
    (b : List Stmt) (sc : Scope) (hb : lawStmts (K w.params) = b) (hs9 : (lawFd (K w.params)).scope = sc) (Xg : (K w.params).In g) (T : Top p loose mean mg mb g) (C : CodeHd g 850 848) (B : Below callerA g [] g) (F : Fr g L' h0 (fun y => if y = Str.ofString "seen" then some (.ref sl) else if y = Str.ofString "found" then some (.ref fl) else u y)) (N : News g L' h0 Zc)
    (hf : (fl, listOf vsF.toArray kf) ∈ Zc) (hs : (sl, listOf vsS.toArray ks) ∈ Zc) (hSz : ∀ h : Heap, Led Zc h → CellAt h (L' + 1 + 1 + 1 + 1 + 1 + 1 + 1) (.int ns.length tsz)) (hA : FAll Zc vsF rsF) (hB : FAll Zc vsS rsS) (hmir : rsF.map (mirr ns.length) = rsS) (hlen : rsF.length = 4) :
    wpAny (model PySem.Challenge.rw_pq0312_01.prog w) (callerA.deeper (envOfC (Str.ofString "law") sc L' (nat_lit 851) (.ref (nat_lit 850)))) (execs ((forBody b).drop 9) (envOfC (Str.ofString "law") sc L' (nat_lit 851) (.ref (nat_lit 850))))
      (IfEnd g L' (fun y => if y = Str.ofString "seen" then some (.ref sl) else if y = Str.ofString "found" then some (.ref fl) else u y) Zc s) E { s with heap := h0, toks := tk0 } := by
  revert hb hs9 Xg; k_fill; intro hb hs9 Xg
  refine' law_use (KF := K w.params) ?ho ?_
  case ho => k_is
  intro hb8 hs8
  obtain rfl := hb8.symm.trans hb
  obtain rfl := hs8.symm.trans hs9
  clear hb8 hs8 hb hs9
  dsimp only [forBody, forOf, nth, List.drop]
  have hlF : vsF.length = 4 := hA.len.trans hlen
  have hlS : vsS.length = 4 := hB.len.trans (by rw [← hmir, List.length_map]; exact hlen)
  walk1
  k_extra "STEPSE"
  refine LCg.ListComp_U (F₀ := by k_asm) (by rfl) (by decide) (by rfl) (by decide) (by rfl) ?_
  k_extra "STEPSE"
  refine LCg.CompSrc.ledger rfl (by k_asm) (by k_asm) hf (by rw [sizeLine_eq, List.size_toArray, hlF]; decide) ?_
  intro g1
  refine rest_inv (fun i ys nw => ∃ W, nw = Zc ++ W ∧ FAll (Zc ++ W) ys ((rsF.take i).map (mirr ns.length))) ?turnA ?finA _ 0 _ _ (Nat.zero_add _) ⟨[], by simp, .nil⟩
  case turnA =>
    rintro i v I oI C oC D m₂ ys nw h tk' E' hi ⟨W, rfl, hys⟩ hv hC hx F N off ne
    obtain ⟨rc, hrc, hvc⟩ := hA.get (i := i) (v := v) (by simpa using hv)
    have hLedc : Led Zc h := fun p hp => (N p (.tail _ (.tail _ (.tail _ (List.mem_append_left _ hp))))).1
    have hSize := hSz h hLedc
    (try dsimp only)
    k_extra "STEPSE"
    refine elem_end F9 N9 N off ha9 (.inr ⟨_, List.mem_append_left _ (List.mem_append_left _ hf), rfl, _, rfl⟩) ⟨W ++ nw9, by rw [List.append_assoc], ?_⟩
    rw [FAll.take1 hrc]
    exact (hys.mono fun q hq => by rw [← List.append_assoc]; exact List.mem_append_left _ hq).snoc (hp9.mono fun q hq => List.mem_append_right _ (List.mem_append_right _ hq))
  case finA =>
    rintro ysA nw ⟨W, rfl, hys⟩ DA hA' tkA FA NA o1
    rw [List.take_of_length_le (by rw [List.size_toArray, hlF, hlen]; exact Nat.le_refl _), hmir] at hys
    obtain ⟨Z2, hDA2, hsub, NB⟩ : ∃ Z2 : List (Addr × Obj), (DA, LCg.lst ysA) ∈ Z2 ∧ (∀ q ∈ Zc ++ W, q ∈ Z2) ∧ News g L' hA' Z2 := ⟨_, .head _, fun q hq => .tail _ hq, NA⟩
    clear NA o1
    (try dsimp only)
    k_extra "STEPSE"
    refine LCg.ListComp_U (F₀ := by k_asm) (by rfl) (by decide) (by rfl) (by decide) (by rfl) ?_
    k_extra "STEPSE"
    refine LCg.CompSrc.ledger rfl (by k_asm) (by k_asm) (hsub _ (List.mem_append_left _ hs)) (by rw [sizeLine_eq, List.size_toArray, hlS]; decide) ?_
    intro g2
    refine rest_inv (fun i ys nw => ∃ W2, nw = Z2 ++ W2 ∧ FAll (Z2 ++ W2) ys (rsS.take i)) ?turnB ?finB _ 0 _ _ (Nat.zero_add _) ⟨[], by simp, .nil⟩
    case turnB =>
      rintro i v I oI C oC D m₂ ys nw h tk' E' hi ⟨W2, rfl, hys2⟩ hv hC hx F N off ne
      obtain ⟨rc, hrc, hvc⟩ := hB.get (i := i) (v := v) (by simpa using hv)
      have hLedc : Led Zc h := fun p hp => (N p (.tail _ (.tail _ (.tail _ (List.mem_append_left _ (hsub _ (List.mem_append_left _ hp))))))).1
      (try dsimp only)
      k_extra "STEPSE"
      refine elem_end F9 N9 N off ha9 (.inr ⟨_, List.mem_append_left _ (List.mem_append_left _ (hsub _ (List.mem_append_left _ hs))), rfl, _, rfl⟩) ⟨W2 ++ nw9, by rw [List.append_assoc], ?_⟩
      have e : rsS.take (i + 1) = rsS.take i ++ [rc] := by rw [List.take_add_one, hrc]; rfl
      rw [e]
      refine (hys2.mono fun q hq => by rw [← List.append_assoc]; exact List.mem_append_left _ hq).snoc (hp9.mono fun q hq => ?_)
      rcases List.mem_append.mp hq with hq | hq
      · exact List.mem_append_right _ (List.mem_append_right _ hq)
      · exact List.mem_append_left _ (hsub _ (List.mem_append_left _ hq))
    case finB =>
      rintro ysB nw ⟨W2, rfl, hys2⟩ DB hB' tkB FB Nfin o1
      rw [List.take_of_length_le (by rw [List.size_toArray, hlS, ← hmir, List.length_map, hlen]; exact Nat.le_refl _)] at hys2
      obtain ⟨Ze, hZe⟩ : ∃ Ze, Ze = Z2 ++ W2 := ⟨_, rfl⟩
      rw [← hZe] at Nfin hys2
      have hFA : FAll Ze ysA rsS := hys.mono fun q hq => by rw [hZe]; exact List.mem_append_left _ (hsub q hq)
      have hFB := hys2
      have hDA : (DA, LCg.lst ysA) ∈ (DB, LCg.lst ysB) :: Ze := .tail _ (by rw [hZe]; exact List.mem_append_left _ hDA2)
      have hDB : (DB, LCg.lst ysB) ∈ (DB, LCg.lst ysB) :: Ze := .head _
      (try dsimp only)
      k_extra "STEPSE"
      exact ⟨rfl, _, _, Z2 ++ W2, rfl, FB, fun q hq => Nfin q (.tail _ (by rw [hZe]; exact (List.mem_append.mp hq).elim (fun z => List.mem_append_left _ (hsub _ (List.mem_append_left _ z))) id))⟩
noncomputable abbrev cm5 (dk xT xB : Addr) (f : Bool) (sz : Int) (tsz : Tok) : Str → Option Value := upd (upd (upd (upd (upd noC (Str.ofString "deck") (.ref dk)) (Str.ofString "folds") (.bool f)) (Str.ofString "size") (.int sz tsz)) (Str.ofString "there") (.ref xT)) (Str.ofString "back") (.ref xB)
theorem off1_mem {D : Addr} {l : List (Addr × Obj)} : LCg.Off1 D l → ∀ q ∈ l, @Ne Nat q.1 D := by
  induction l with
  | nil => exact fun _ _ h => nomatch h
  | cons p r ih => exact fun h => List.forall_mem_cons.mpr ⟨h.1, ih h.2⟩
noncomputable def InjC (env : Env) : Prop := ∀ x y c, env.cells.lookup x = some c → env.cells.lookup y = some c → x = y
inductive DeckOk (ys : List Value) : Prop | mk (nsA : List Int) (a : IntsAre ys nsA) (b : nsA.length ≤ 40) (c : ∀ n ∈ nsA, 0 ≤ n)
inductive LSt (env : Env) (dk ds : Addr) (ys : List Value) (cm : Str → Option Value) (n : Nat) (R Y : List (Addr × Obj)) : Prop
  | mk (k : Int) (t : Tok) (kd : Nat) (C : List (Addr × Obj)) (e : Y = (dk, listOf #[Value.ref ds, Value.int k t] kd) :: (848, tabObj #[]) :: (C ++ R)) (b0 : 0 ≤ k) (b1 : k ≤ n) (i : InjC env) (a : DeckOk ys)
    (c : ∀ x c, env.cells.lookup x = some c → ∃ o, (c, o) ∈ C ∧ o.data = .cell (cm x)) (f : ∀ x v, cm x = some v → (x == ("__classdict__" : Str)) = false ∧ ∃ c, env.cells.lookup x = some c)
    (o1 : ∀ q ∈ C ++ R, @Ne Nat q.1 dk) (o2 : ∀ q ∈ C ++ R, @Ne Nat q.1 848) (o3 : @Ne Nat dk 848) (o4 : ∀ q ∈ R, ∀ x c, env.cells.lookup x = some c → @Ne Nat q.1 c) (l : (ds, LCg.lst ys) ∈ R)
theorem lookup_mem {x : Str} {c : Addr} : ∀ {l : List (Str × Addr)}, l.lookup x = some c → (x, c) ∈ l
  | [], e => nomatch e
  | (y, d) :: l, e => by
    rw [List.lookup_cons] at e
    cases hb : x == y with
    | true => rw [hb] at e; cases e; rw [eq_of_beq hb]; exact .head _
    | false => rw [hb] at e; exact .tail _ (lookup_mem e)
theorem pair_inj {l : List (Str × Addr)} (h : l.Pairwise fun a b => a.2 ≠ b.2) : ∀ {x y : Str} {c : Addr}, (x, c) ∈ l → (y, c) ∈ l → x = y := by
  induction h with
  | nil => exact fun e => nomatch e
  | cons a _ ih =>
    intro x y c h1 h2
    rcases List.mem_cons.mp h1 with rfl | h1
    · rcases List.mem_cons.mp h2 with h2 | h2
      · exact (Prod.mk.inj h2).1.symm
      · exact (a (y, c) h2 rfl).elim
    · rcases List.mem_cons.mp h2 with rfl | h2
      · rcases List.mem_cons.mp h1 with h1 | h1
        · exact (Prod.mk.inj h1).1
        · exact (a (x, c) h1 rfl).elim
      · exact ih h1 h2
theorem cellsFrom_apart : ∀ (names : List (Str × NameKind)) (n : Nat) (acc : List (Str × Addr)), (∀ p ∈ acc, @LT.lt Nat _ p.2 n) → acc.Pairwise (fun a b => a.2 ≠ b.2) → (cellsFrom n names acc).Pairwise fun a b => a.2 ≠ b.2
  | [], _, _, _, h => h
  | (x, k) :: r, n, acc, hl, h => by
    unfold cellsFrom
    split
    · refine cellsFrom_apart r (n + 1) _ (fun p hp => ?_) (List.pairwise_cons.mpr ⟨fun p hp e => Nat.lt_irrefl n ((show n = p.2 from e) ▸ hl p hp), h⟩)
      rcases List.mem_cons.mp hp with rfl | hp
      · exact Nat.lt_succ_self n
      · exact Nat.lt_succ_of_lt (hl p hp)
    · exact cellsFrom_apart r n acc hl h
theorem injC_of {env : Env} {L : Addr} (h : env.cells = cellsFrom (L + 1) env.scope.names []) : InjC env := fun x y c h1 h2 => by
  rw [h] at h1 h2
  exact pair_inj (cellsFrom_apart _ _ [] (List.forall_mem_nil _) .nil) (lookup_mem h1) (lookup_mem h2)
theorem cellsAre_get {cm : Str → Option Value} {cs : List (Str × Addr)} {cells : List (Addr × Obj)} (X : CellsAre cm cs cells) : ∀ x c, cs.lookup x = some c → ∃ o, (c, o) ∈ cells ∧ o.data = .cell (cm x) := by
  induction X with
  | nil => intro _ _ e; cases e
  | @cons n' c' o cs cells hd _ ih =>
    intro x c e
    rw [List.lookup_cons] at e
    cases hb : x == n' with
    | true => rw [hb] at e; cases e; rw [eq_of_beq hb]; exact ⟨o, .head _, hd⟩
    | false => rw [hb] at e; obtain ⟨o, h1, h2⟩ := ih x c e; exact ⟨o, .tail _ h1, h2⟩
theorem cellsAre_data {cm : Str → Option Value} {cs : List (Str × Addr)} {cells : List (Addr × Obj)} (X : CellsAre cm cs cells) : ∀ p ∈ cells, ∃ v, p.2.data = .cell v := by
  induction X with
  | nil => exact fun _ h => nomatch h
  | cons hd _ ih => exact List.forall_mem_cons.mpr ⟨⟨_, hd⟩, ih⟩
section
variable {env : Env} {dk ds : Addr} {ys : List Value} {cm : Str → Option Value} {n : Nat} {R Y nw : List (Addr × Obj)} {g h h' : Heap} {L : Addr}
theorem News.led (N : News g L h Y) : Led Y h := fun p hp => (N p hp).1
theorem LSt.led (H : LSt env dk ds ys cm n R Y) (hY : Led Y h) : Led R h := by
  obtain ⟨k, t, kd, C, rfl, _⟩ := H
  exact fun p hp => hY p (.tail _ (.tail _ (List.mem_append_right _ hp)))
theorem LSt.ok (H : LSt env dk ds ys cm n R Y) (hY : Led Y h) : CmOk env h cm := by
  obtain ⟨k, t, kd, C, rfl, b0, b1, i, a, c, f, _⟩ := H
  intro x v e
  obtain ⟨z, d, hd⟩ := f x v e
  obtain ⟨o, ho, hc⟩ := c x d hd
  exact ⟨z, d, hd, o, hY (d, o) (.tail _ (.tail _ (List.mem_append_left _ ho))), by rw [hc, e]⟩
theorem LSt.cell (H : LSt env dk ds ys cm n R Y) (hY : Led Y h) {x : Str} {c : Addr} {v : Value} (hc : env.cells.lookup x = some c) (hv : cm x = some v) : CellAt h c v := by
  obtain ⟨_, d, hd, hx⟩ := H.ok hY x v hv
  rw [hc] at hd; cases hd; exact hx
theorem LSt.up {n' : Nat} (H : LSt env dk ds ys cm n R Y) (h : n ≤ n') : LSt env dk ds ys cm n' R Y := by
  obtain ⟨k, t, kd, C, e, b0, b1, i, a, c, f, o1, o2, o3, o4, l⟩ := H
  exact ⟨k, t, kd, C, e, b0, by omega, i, a, c, f, o1, o2, o3, o4, l⟩
theorem LSt.init {t : Tok} {kd : Nat} {C : List (Addr × Obj)} (N : News g L h ((dk, listOf #[Value.ref ds, Value.int 0 t] kd) :: (ds, LCg.lst ys) :: (C ++ [(848, tabObj #[])]))) (X : CellsAre noC env.cells C) (hc : env.cells = cellsFrom (L + 1) env.scope.names []) (hd : @Ne Nat ds dk) (ha : DeckOk ys) :
    LSt env dk ds ys noC 0 [(ds, LCg.lst ys)] ((dk, listOf #[Value.ref ds, Value.int 0 t] kd) :: (848, tabObj #[]) :: (C ++ [(ds, LCg.lst ys)])) := by
  have e1 := (N _ (.head _)).1
  have e2 := (N _ (.tail _ (.head _))).1
  have e3 := (N (848, tabObj #[]) (.tail _ (.tail _ (List.mem_append_right _ (.head _))))).1
  have eC : ∀ p ∈ C, h.get? p.1 = some p.2 := fun p hp => (N p (.tail _ (.tail _ (List.mem_append_left _ hp)))).1
  have dC := cellsAre_data X
  have nC : ∀ p ∈ C, ∀ a o, h.get? a = some o → (∀ v, o.data ≠ .cell v) → p.1 ≠ a := fun p hp a o ea ho e => by
    obtain ⟨v, hv⟩ := dC p hp
    rw [← e, eC p hp] at ea; cases ea; exact ho v hv
  have o3 : @Ne Nat dk 848 := fun e => by
    rw [show dk = 848 from e, e3] at e1
    cases e1
  refine ⟨0, t, kd, C, rfl, by decide, by decide, injC_of hc, ha, cellsAre_get X, (fun _ _ e => nomatch e), ?_, ?_, o3, ?_, .head _⟩
  · intro q hq
    rcases List.mem_append.mp hq with hq | hq
    · exact nC q hq dk _ e1 fun v e => nomatch e
    · rw [List.mem_singleton.mp hq]; exact hd
  · intro q hq
    rcases List.mem_append.mp hq with hq | hq
    · exact nC q hq 848 _ e3 fun v e => nomatch e
    · rw [List.mem_singleton.mp hq]
      intro e
      have e : ds = 848 := e
      rw [show (ds, LCg.lst ys).1 = 848 from e, e3] at e2
      cases e2
  · intro q hq x c hl e
    rw [List.mem_singleton.mp hq] at e
    obtain ⟨o, ho, _⟩ := cellsAre_get X x c hl
    exact nC _ ho ds _ e2 (fun v e => nomatch e) e.symm
theorem LSt.absorb (H : LSt env dk ds ys cm n R Y) (fresh : ∀ p ∈ nw, ∀ q ∈ Y, @Ne Nat p.1 q.1) (N : News g L h' (nw ++ Y)) : ∃ Y', News g L h' Y' ∧ LSt env dk ds ys cm n (nw ++ R) Y' := by
  obtain ⟨k, t, kd, C, rfl, b0, b1, i, a, c, f, o1, o2, o3, o4, l⟩ := H
  have mem : ∀ q ∈ C ++ (nw ++ R), q ∈ nw ∨ q ∈ C ++ R := fun q hq => by
    rcases List.mem_append.mp hq with hq | hq
    · exact .inr (List.mem_append_left _ hq)
    · exact (List.mem_append.mp hq).imp id fun x => List.mem_append_right _ x
  refine ⟨(dk, listOf #[Value.ref ds, Value.int k t] kd) :: (848, tabObj #[]) :: (C ++ (nw ++ R)), fun p hp => N p ?_, k, t, kd, C, rfl, b0, b1, i, a, c, f, fun q hq => ?_, fun q hq => ?_, o3, fun q hq x d hd => ?_, List.mem_append_right _ l⟩
  · rcases List.mem_cons.mp hp with rfl | hp
    · exact List.mem_append_right _ (.head _)
    · rcases List.mem_cons.mp hp with rfl | hp
      · exact List.mem_append_right _ (.tail _ (.head _))
      · exact (mem p hp).elim (List.mem_append_left _) fun x => List.mem_append_right _ (.tail _ (.tail _ x))
  · exact (mem q hq).elim (fun x => fresh q x _ (.head _)) (o1 q)
  · exact (mem q hq).elim (fun x => fresh q x _ (.tail _ (.head _))) (o2 q)
  · rcases List.mem_append.mp hq with hq | hq
    · obtain ⟨o, ho, _⟩ := c x d hd
      exact fresh q hq (d, o) (.tail _ (.tail _ (List.mem_append_left _ ho)))
    · exact o4 q hq x d hd
theorem LSt.grow (H : LSt env dk ds ys cm n R Y) (N0 : Led Y h) (fr : ∀ p ∈ nw, h.get? p.1 = none) (N : News g L h' (nw ++ Y)) : ∃ Y', News g L h' Y' ∧ LSt env dk ds ys cm n (nw ++ R) Y' :=
  H.absorb (fun p hp q hq e => by have := fr p hp; rw [show p.1 = q.1 from e, N0 q hq] at this; cases this) N
theorem LSt.keep (H : LSt env dk ds ys cm n R Y) {x : Addr} {vs : List Value} (N : News g L h' ((x, LCg.lst vs) :: Y)) (off : LCg.Off1 x Y) : ∃ nw Y', News g L h' Y' ∧ LSt env dk ds ys cm n (nw ++ R) Y' ∧ ∀ h : Heap, Led nw h → h.IsList x vs.toArray := by
  obtain ⟨Y', N', H'⟩ := H.absorb (nw := [(x, LCg.lst vs)]) (List.forall_mem_cons.mpr ⟨fun q hq e => off1_mem off q hq e.symm, List.forall_mem_nil _⟩) N
  exact ⟨_, Y', N', H', fun h hh => ⟨_, hh (x, LCg.lst vs) (.head _), rfl, _, rfl⟩⟩
end
section
variable {w : World} {p : Program} {loose : List Str} {mean : ExcName → Option Value} {mg mb : Str → Option Value} {dp un : Nat} {gd : Option (List Code)} {cn : Str} {cs : Scope} {ac : Addr} {ccd : Value} {cl : List (Str × Addr)} {outer : List Env} {A₀ : Around} {base h₀ : Heap} {L : Addr} {m : Str → Option Value} {h : Heap} {g : Array GenState} {d : Drawn} {tk : Nat} {os : OsState} {Q E : Value → Shared → Prop}
  {env : Env} {dk ds : Addr} {ys : List Value} {cm : Str → Option Value} {n : Nat} {R Y : List (Addr × Obj)}
theorem Spec.useL {D U : Nat} {f : Addr} {args : List Value} {pre : Heap → Prop} {P : List (Addr × Obj) → Addr → Prop} (hc : Spec w D U f args pre (fun v nw => ∃ x, v = .ref x ∧ P nw x))
    (B : Below A₀ base outer h₀) (F : Fr h₀ L h m) (X : (K w.params).In h₀) (H : LSt env dk ds ys cm n R Y) (N : News h₀ L h Y) (T : Top p loose mean mg mb h₀) (hk : cs.kind = .function) (hd : dp + D < recursionLimit) (hu : un + U < cLine) (hp : pre h)
    (ret : ∀ x nw h' tk' Y', Fr h₀ L h' m → News h₀ L h' Y' → LSt env dk ds ys cm n (nw ++ R) Y' → P nw x → Q (.ref x) ⟨h', g, d, tk', os⟩) :
    wpAny (model PySem.Challenge.rw_pq0312_01.prog w) (ktrTop dp un gd cn cs L ac ccd cl outer) (call (.ref f) args) Q E ⟨h, g, d, tk, os⟩ :=
  hc.use B F X N T hk hd hu hp fun v nw h' tk' F' N' hn _ ⟨x, e, hx⟩ => by
    subst e
    obtain ⟨Y', N2, H2⟩ := H.grow (News.led N) hn N'
    exact ret x nw h' tk' Y' F' N2 H2 hx
theorem draw_call {Z : List (Addr × Obj)} {many : Int} {tm : Tok} (B : Below A₀ base outer h₀) (F : Fr h₀ L h m) (X : (K w.params).In h₀) (H : LSt env dk ds ys cm n R Y) (N : News h₀ L h (Z ++ Y)) (T : Top p loose mean mg mb h₀) (hk : cs.kind = .function) (hd : dp + 3 < recursionLimit) (hu : un + 24 < cLine)
    (hZ : ∀ p ∈ Z, @Ne Nat p.1 dk) (hn : n < 1000) (h0 : 0 < many) (h1 : many < 1000)
    (ret : ∀ r t h' tk' Y', Fr h₀ L h' m → News h₀ L h' (Z ++ Y') → LSt env dk ds ys cm (n + 1) R Y' → (∀ q ∈ Y', ∃ o, (q.1, o) ∈ Y) → 0 ≤ r → r < many → Q (.int r t) ⟨h', g, d, tk', os⟩) :
    wpAny (model PySem.Challenge.rw_pq0312_01.prog w) (ktrTop dp un gd cn cs L ac ccd cl outer) (call (.ref (nat_lit 827)) [.ref dk, .int many tm]) Q E ⟨h, g, d, tk, os⟩ := by
  obtain ⟨k, t, kd, C, rfl, b0, b1, i, ⟨nsA, ia, ib, ic⟩, c, f, o1, o2, o3, o4, l⟩ := H
  have hmem : ∀ q ∈ Z ++ ((848, tabObj #[]) :: (C ++ R)), q ∈ Z ++ ((dk, listOf #[Value.ref ds, Value.int k t] kd) :: (848, tabObj #[]) :: (C ++ R)) := fun q hq => (List.mem_append.mp hq).elim (List.mem_append_left _) fun x => List.mem_append_right _ (.tail _ x)
  have hne : ∀ q ∈ Z ++ ((848, tabObj #[]) :: (C ++ R)), q.1 ≠ dk := fun q hq => by
    rcases List.mem_append.mp hq with hq | hq
    · exact hZ q hq
    · rcases List.mem_cons.mp hq with rfl | hq
      · exact Ne.symm o3
      · exact o1 q hq
  have hdk := (N (dk, _) (List.mem_append_right _ (.head _))).2.2
  have hds := (N _ (hmem _ (List.mem_append_right _ (.tail _ (List.mem_append_right _ l))))).1
  refine c_draw w dk ds k many kd t tm ys nsA b0 (by omega) h0 h1 ib p loose mean mg mb dp un gd cn cs ac ccd cl outer A₀ base h₀ _ L m (Z ++ ((848, tabObj #[]) :: (C ++ R))) _ Q E B F X (fun q hq => ?_) T hk hd hu (fun q hq e => hne q hq (List.mem_singleton.mp e)) rfl
    ⟨⟨_, hideAll_get _ hds fun e => o1 _ (List.mem_append_right _ l) (List.mem_singleton.mp e), rfl, _, rfl⟩, ia, ic⟩ fun v nw h' tk' F' N' _ _ hpost => ?_
  · rcases List.mem_append.mp hq with hq | hq
    · rw [List.mem_singleton.mp hq]; exact N _ (List.mem_append_right _ (.head _))
    · exact N q (hmem q hq)
  · obtain ⟨r, tr, t', kd', hr0, hr1, rfl, rfl⟩ := hpost
    refine ret r tr h' tk' ((dk, listOf #[Value.ref ds, Value.int (k + 1) t'] kd') :: (848, tabObj #[]) :: (C ++ R)) F' (fun q hq => N' q ?_) ⟨k + 1, t', kd', C, rfl, by omega, by omega, i, ⟨nsA, ia, ib, ic⟩, c, f, o1, o2, o3, o4, l⟩ (fun q hq => ?_) hr0 hr1
    · rcases List.mem_append.mp hq with hq | hq
      · exact List.mem_append_right _ (List.mem_append_left _ hq)
      · rcases List.mem_cons.mp hq with rfl | hq
        · exact .head _
        · exact List.mem_append_right _ (List.mem_append_right _ hq)
    · rcases List.mem_cons.mp hq with rfl | hq
      · exact ⟨_, .head _⟩
      · exact ⟨_, .tail _ hq⟩
theorem draw0 {many : Int} {tm : Tok} (B : Below A₀ base outer h₀) (F : Fr h₀ L h m) (X : (K w.params).In h₀) (H : LSt env dk ds ys cm n R Y) (N : News h₀ L h Y) (T : Top p loose mean mg mb h₀) (hk : cs.kind = .function) (hd : dp + 3 < recursionLimit) (hu : un + 24 < cLine)
    (hn : n < 1000) (h0 : 0 < many) (h1 : many < 1000) (ret : ∀ r t h' tk' Y', Fr h₀ L h' m → News h₀ L h' Y' → LSt env dk ds ys cm (n + 1) R Y' → 0 ≤ r → r < many → Q (.int r t) ⟨h', g, d, tk', os⟩) :
    wpAny (model PySem.Challenge.rw_pq0312_01.prog w) (ktrTop dp un gd cn cs L ac ccd cl outer) (call (.ref (nat_lit 827)) [.ref dk, .int many tm]) Q E ⟨h, g, d, tk, os⟩ :=
  draw_call (Z := []) B F X H N T hk hd hu (fun _ h => nomatch h) hn h0 h1 fun r t h' tk' Y' F' N' H' _ a b => ret r t h' tk' Y' F' N' H' a b
theorem draw3 {I C D : Addr} {oI oC oD : Obj} {many : Int} {tm : Tok} (B : Below A₀ base outer h₀) (F : Fr h₀ L h m) (X : (K w.params).In h₀) (H : LSt env dk ds ys cm n R Y) (N : News h₀ L h ((I, oI) :: (C, oC) :: (D, oD) :: Y)) (off : LCg.Off3 I C D Y) (T : Top p loose mean mg mb h₀) (hk : cs.kind = .function) (hd : dp + 3 < recursionLimit) (hu : un + 24 < cLine)
    (hn : n < 1000) (h0 : 0 < many) (h1 : many < 1000) (ret : ∀ r t h' tk' Y', Fr h₀ L h' m → News h₀ L h' ((I, oI) :: (C, oC) :: (D, oD) :: Y') → LSt env dk ds ys cm (n + 1) R Y' → LCg.Off3 I C D Y' → 0 ≤ r → r < many → Q (.int r t) ⟨h', g, d, tk', os⟩) :
    wpAny (model PySem.Challenge.rw_pq0312_01.prog w) (ktrTop dp un gd cn cs L ac ccd cl outer) (call (.ref (nat_lit 827)) [.ref dk, .int many tm]) Q E ⟨h, g, d, tk, os⟩ := by
  have hz : (@Ne Nat dk I) ∧ (@Ne Nat dk C) ∧ (@Ne Nat dk D) := by
    obtain ⟨k, t, kd, C', rfl, _⟩ := H
    exact off.mem _ (.head _)
  refine draw_call (Z := [(I, oI), (C, oC), (D, oD)]) B F X H N T hk hd hu ?_ hn h0 h1 fun r t h' tk' Y' F' N' H' ke a b => ret r t h' tk' Y' F' N' H' (LCg.Off3.of fun q hq => ?_) a b
  · exact List.forall_mem_cons.mpr ⟨hz.1.symm, List.forall_mem_cons.mpr ⟨hz.2.1.symm, List.forall_mem_cons.mpr ⟨hz.2.2.symm, List.forall_mem_nil _⟩⟩⟩
  · obtain ⟨o, ho⟩ := ke q hq; exact off.mem (q.1, o) ho
end
section
variable {w : World} {p : Program} {loose : List Str} {mean : ExcName → Option Value} {mg mb : Str → Option Value} {dp un : Nat} {gd : Option (List Code)} {cn : Str} {cs : Scope} {ac : Addr} {ccd : Value} {cl : List (Str × Addr)} {outer : List Env} {A₀ : Around} {base h₀ : Heap} {L : Addr} {m : Str → Option Value} {h : Heap} {g : Array GenState} {d : Drawn} {tk : Nat} {os : OsState} {Q E : Value → Shared → Prop}
  {env : Env} {dk ds : Addr} {ys : List Value} {cm : Str → Option Value} {n : Nat} {R Y : List (Addr × Obj)}
theorem LSt.newer {x : Addr} (H : LSt env dk ds ys cm n R Y) (hl : AllLt x Y) : @Ne Nat x dk := by
  obtain ⟨k, t, kd, C', rfl, _⟩ := H
  exact Nat.ne_of_gt (allLt_mem hl _ (.head _))
theorem LSt.newer1 {x : Addr} (H : LSt env dk ds ys cm n R Y) (hl : ∀ q ∈ Y, @LT.lt Nat _ q.1 x) : @Ne Nat x dk := by
  obtain ⟨k, t, kd, C', rfl, _⟩ := H
  exact Nat.ne_of_gt (hl _ (.head _))
theorem draw1 {x : Addr} {ox : Obj} {many : Int} {tm : Tok} (B : Below A₀ base outer h₀) (F : Fr h₀ L h m) (X : (K w.params).In h₀) (H : LSt env dk ds ys cm n R Y) (N : News h₀ L h ((x, ox) :: Y)) (hl : ∀ q ∈ Y, @LT.lt Nat _ q.1 x) (T : Top p loose mean mg mb h₀) (hk : cs.kind = .function) (hd : dp + 3 < recursionLimit) (hu : un + 24 < cLine)
    (hn : n < 1000) (h0 : 0 < many) (h1 : many < 1000) (ret : ∀ r t h' tk' Y', Fr h₀ L h' m → News h₀ L h' ((x, ox) :: Y') → LSt env dk ds ys cm (n + 1) R Y' → 0 ≤ r → r < many → Q (.int r t) ⟨h', g, d, tk', os⟩) :
    wpAny (model PySem.Challenge.rw_pq0312_01.prog w) (ktrTop dp un gd cn cs L ac ccd cl outer) (call (.ref (nat_lit 827)) [.ref dk, .int many tm]) Q E ⟨h, g, d, tk, os⟩ :=
  draw_call (Z := [(x, ox)]) B F X H N T hk hd hu (List.forall_mem_cons.mpr ⟨H.newer1 hl, List.forall_mem_nil _⟩) hn h0 h1 fun r t h' tk' Y' F' N' H' _ a b => ret r t h' tk' Y' F' N' H' a b
theorem draw4 {x I C D : Addr} {ox oI oC oD : Obj} {many : Int} {tm : Tok} (B : Below A₀ base outer h₀) (F : Fr h₀ L h m) (X : (K w.params).In h₀) (H : LSt env dk ds ys cm n R Y) (N : News h₀ L h ((x, ox) :: (I, oI) :: (C, oC) :: (D, oD) :: Y)) (off : LCg.Off3 I C D Y) (hl : AllLt x Y) (T : Top p loose mean mg mb h₀) (hk : cs.kind = .function) (hd : dp + 3 < recursionLimit) (hu : un + 24 < cLine)
    (hn : n < 1000) (h0 : 0 < many) (h1 : many < 1000) (ret : ∀ r t h' tk' Y', Fr h₀ L h' m → News h₀ L h' ((x, ox) :: (I, oI) :: (C, oC) :: (D, oD) :: Y') → LSt env dk ds ys cm (n + 1) R Y' → LCg.Off3 I C D Y' → 0 ≤ r → r < many → Q (.int r t) ⟨h', g, d, tk', os⟩) :
    wpAny (model PySem.Challenge.rw_pq0312_01.prog w) (ktrTop dp un gd cn cs L ac ccd cl outer) (call (.ref (nat_lit 827)) [.ref dk, .int many tm]) Q E ⟨h, g, d, tk, os⟩ := by
  have hz : (@Ne Nat dk I) ∧ (@Ne Nat dk C) ∧ (@Ne Nat dk D) := by
    obtain ⟨k, t, kd, C', rfl, _⟩ := H
    exact off.mem _ (.head _)
  refine draw_call (Z := [(x, ox), (I, oI), (C, oC), (D, oD)]) B F X H N T hk hd hu ?_ hn h0 h1 fun r t h' tk' Y' F' N' H' ke a b => ret r t h' tk' Y' F' N' H' (LCg.Off3.of fun q hq => ?_) a b
  · exact List.forall_mem_cons.mpr ⟨H.newer hl, List.forall_mem_cons.mpr ⟨hz.1.symm, List.forall_mem_cons.mpr ⟨hz.2.1.symm, List.forall_mem_cons.mpr ⟨hz.2.2.symm, List.forall_mem_nil _⟩⟩⟩⟩
  · obtain ⟨o, ho⟩ := ke q hq; exact off.mem (q.1, o) ho
end
section
variable {prog : Program} {w : World} {A : Around} {E : Value → Shared → Prop} {h : Heap} {g : Array GenState} {d : Drawn} {tk : Nat} {os : OsState} {h₀ : Heap} {L : Addr} {m : Str → Option Value} {env : Env} {dk ds : Addr} {ys : List Value} {cm : Str → Option Value} {n : Nat} {R Y : List (Addr × Obj)}
theorem store_C {x : Str} {c : Addr} {v : Value} {Q : Unit → Shared → Prop} (F : Fr h₀ L h m) (H : LSt env dk ds ys cm n R Y) (N : News h₀ L h Y) (hk : EnvOk env L) (hx : env.kindOf x = some .cell) (hc : env.cells.lookup x = some c) (hcd : (x == ("__classdict__" : Str)) = false)
    (hq : ∀ h' Y', Fr h₀ L h' m → News h₀ L h' Y' → LSt env dk ds ys (upd cm x v) n R Y' → Q () ⟨h', g, d, tk, os⟩) : wpAny (model prog w) A (storeName env x v) Q E ⟨h, g, d, tk, os⟩ := by
  obtain ⟨k, t, kd, C, rfl, b0, b1, i, a, cc, f, o1, o2, o3, o4, l⟩ := H
  obtain ⟨o, ho, hd⟩ := cc x c hc
  have hmem := N (c, o) (.tail _ (.tail _ (List.mem_append_left _ ho)))
  refine wpAny_storeName_cell hk.k hx hc ⟨o, hmem.1, hd⟩ fun h' hv hs => ?_
  obtain ⟨o', ho', hd'⟩ := hv
  have fz : ∀ q ∈ C.map (fun q => if q.1 = c then (c, o') else q), q = (c, o') ∨ (q ∈ C ∧ q.1 ≠ c) := fun q hq => by
    obtain ⟨r, hr, rfl⟩ := List.mem_map.mp hq
    by_cases e : r.1 = c
    · rw [if_pos e]; exact .inl rfl
    · rw [if_neg e]; exact .inr ⟨hr, e⟩
  have ad : ∀ q ∈ C.map (fun q => if q.1 = c then (c, o') else q) ++ R, ∃ o2, (q.1, o2) ∈ C ++ R := fun q hq => by
    rcases List.mem_append.mp hq with hq | hq
    · rcases fz q hq with rfl | hq
      · exact ⟨o, List.mem_append_left _ ho⟩
      · exact ⟨q.2, List.mem_append_left _ hq.1⟩
    · exact ⟨q.2, List.mem_append_right _ hq⟩
  have other : ∀ q : Addr × Obj, q.1 ≠ c → (h.get? q.1 = some q.2 ∧ q.1 ≠ L ∧ h₀.get? q.1 = none) → h'.get? q.1 = some q.2 ∧ q.1 ≠ L ∧ h₀.get? q.1 = none := fun q hq z => ⟨(hs.2 _ hq).trans z.1, z.2⟩
  refine hq h' ((dk, listOf #[Value.ref ds, Value.int k t] kd) :: (848, tabObj #[]) :: (C.map (fun q => if q.1 = c then (c, o') else q) ++ R)) ⟨F.ns.sameBut hs (Ne.symm hmem.2.1), fun b ob e => (hs.2 b (fun q => ?_)).trans (F.keep b ob e), F.above⟩ (fun q hq => ?_) ⟨k, t, kd, _, rfl, b0, b1, i, a, fun y e he => ?_, fun y v' e => ?_, fun q hq => ?_, fun q hq => ?_, o3, o4, l⟩
  · rw [q, hmem.2.2] at e; cases e
  · rcases List.mem_cons.mp hq with rfl | hq
    · exact other _ (Ne.symm (o1 _ (List.mem_append_left _ ho))) (N _ (.head _))
    · rcases List.mem_cons.mp hq with rfl | hq
      · exact other _ (Ne.symm (o2 _ (List.mem_append_left _ ho))) (N _ (.tail _ (.head _)))
      · rcases List.mem_append.mp hq with hq | hq
        · rcases fz q hq with rfl | hq
          · exact ⟨ho', hmem.2⟩
          · exact other _ hq.2 (N q (.tail _ (.tail _ (List.mem_append_left _ hq.1))))
        · exact other _ (o4 q hq x c hc) (N q (.tail _ (.tail _ (List.mem_append_right _ hq))))
  · by_cases hy : y = x
    · subst hy
      rw [hc] at he; cases he
      refine ⟨o', List.mem_map.mpr ⟨(c, o), ho, if_pos rfl⟩, ?_⟩
      rw [hd']; unfold upd; rw [if_pos rfl]
    · obtain ⟨o2, h2, d2⟩ := cc y e he
      have hne : e ≠ c := fun q => hy (i y x c (q ▸ he) hc)
      refine ⟨o2, List.mem_map.mpr ⟨(e, o2), h2, if_neg hne⟩, ?_⟩
      rw [d2]; unfold upd; rw [if_neg hy]
  · unfold upd at e
    by_cases hy : y = x
    · subst hy; exact ⟨hcd, c, hc⟩
    · rw [if_neg hy] at e; exact f y v' e
  · obtain ⟨z, h2⟩ := ad q hq; exact o1 (q.1, z) h2
  · obtain ⟨z, h2⟩ := ad q hq; exact o2 (q.1, z) h2
end
theorem Fr.canon {g h : Heap} {L : Addr} {m : Str → Option Value} {x : Str} {v : Value} (F : Fr g L h m) (e : m x = some v) : Fr g L h (upd m x v) := by
  have : upd m x v = m := by funext y; unfold upd; split; · rename_i q; rw [q, e]
                             · rfl
  rw [this]; exact F
theorem cmOk_upd {env : Env} {h : Heap} {cm : Str → Option Value} {x : Str} {v : Value} {c : Addr} (H : CmOk env h cm) (hc : env.cells.lookup x = some c) (hd : (x == ("__classdict__" : Str)) = false) (C : CellAt h c v) : CmOk env h (upd cm x v) := fun y u e => by
  unfold upd at e
  by_cases hy : y = x
  · subst hy; rw [if_pos rfl] at e; cases e; exact ⟨hd, c, hc, C⟩
  · rw [if_neg hy] at e; exact H y u e
noncomputable abbrev cm10 (dk xT xB xS lW lM xC xM : Addr) (f : Bool) (sz : Int) (tsz : Tok) : Str → Option Value := upd (upd (upd (upd (upd (cm5 dk xT xB f sz tsz) (Str.ofString "table") (.ref xS)) (Str.ofString "words") (.ref lW)) (Str.ofString "mirror_words") (.ref lM)) (Str.ofString "code") (.ref xC)) (Str.ofString "mirror_code") (.ref xM)
theorem law_cm {env : Env} {Y : List (Addr × Obj)} {L dk ds xT xB xS lW lM xC xM flC flM : Addr} {ys : List Value} {ns ws : List Int} {ps : List Pc} {f : Bool} {tsz : Tok} (hE : EnvOk env L) (hLaw : ∀ h : Heap, Led Y h → LawIn h L dk ds xT xB xS lW lM xC xM flC flM ys ns ws ps f tsz) (c0 : env.cells.lookup (Str.ofString "deck") = some (L + 1)) (c1 : env.cells.lookup (Str.ofString "folds") = some (L + 1 + 1 + 1 + 1)) (c2 : env.cells.lookup (Str.ofString "size") = some (L + 1 + 1 + 1 + 1 + 1 + 1 + 1)) (c3 : env.cells.lookup (Str.ofString "there") = some (L + 1 + 1 + 1 + 1 + 1 + 1 + 1 + 1 + 1)) (c4 : env.cells.lookup (Str.ofString "back") = some (L + 1 + 1)) (c5 : env.cells.lookup (Str.ofString "table") = some (L + 1 + 1 + 1 + 1 + 1 + 1 + 1 + 1)) (c6 : env.cells.lookup (Str.ofString "words") = some (L + 1 + 1 + 1 + 1 + 1 + 1 + 1 + 1 + 1 + 1)) (c7 : env.cells.lookup (Str.ofString "mirror_words") = some (L + 1 + 1 + 1 + 1 + 1 + 1)) (c8 : env.cells.lookup (Str.ofString "code") = some (L + 1 + 1 + 1)) (c9 : env.cells.lookup (Str.ofString "mirror_code") = some (L + 1 + 1 + 1 + 1 + 1)) :
    ∀ h : Heap, Led Y h → CmOk env h (cm10 dk xT xB xS lW lM xC xM f ns.length tsz) := fun h hh => cmOk_upd (cmOk_upd (cmOk_upd (cmOk_upd (cmOk_upd (cmOk_upd (cmOk_upd (cmOk_upd (cmOk_upd (cmOk_upd (noC_ok) c0 rfl (hLaw h hh).deck) c1 rfl (hLaw h hh).folds) c2 rfl (hLaw h hh).size) c3 rfl (hLaw h hh).there) c4 rfl (hLaw h hh).back) c5 rfl (hLaw h hh).table) c6 rfl (hLaw h hh).words) c7 rfl (hLaw h hh).mwords) c8 rfl (hLaw h hh).code) c9 rfl (hLaw h hh).mcode
theorem LSt.start {env : Env} {dk ds : Addr} {ys : List Value} {g h : Heap} {L : Addr} {t : Tok} {kd : Nat} {C : List (Addr × Obj)} {z : Addr × Obj} (hE : EnvOk env L) (N : News g L h ((dk, listOf #[Value.ref ds, Value.int 0 t] kd) :: (ds, LCg.lst ys) :: z :: (C ++ [(848, tabObj #[])]))) (X : CellsAre noC env.cells C) (hd : @LT.lt Nat _ ds dk) (ha : DeckOk ys) (hc : env.cells = cellsFrom (L + 1) env.scope.names []) :
    ∃ R Y, News g L h Y ∧ LSt env dk ds ys noC 0 R Y := by
  have N2 : News g L h ((dk, listOf #[Value.ref ds, Value.int 0 t] kd) :: (ds, LCg.lst ys) :: (C ++ [(848, tabObj #[])])) := fun p hp => N p (by
    rcases List.mem_cons.mp hp with rfl | hp
    · exact .head _
    · rcases List.mem_cons.mp hp with rfl | hp
      · exact .tail _ (.head _)
      · exact .tail _ (.tail _ (.tail _ hp)))
  refine ⟨[(ds, LCg.lst ys)], (dk, listOf #[Value.ref ds, Value.int 0 t] kd) :: (848, tabObj #[]) :: (C ++ [(ds, LCg.lst ys)]), fun p hp => N2 p ?_, LSt.init N2 X hc (Nat.ne_of_lt hd) ha⟩
  rcases List.mem_cons.mp hp with rfl | hp
  · exact .head _
  · rcases List.mem_cons.mp hp with rfl | hp
    · exact .tail _ (.tail _ (List.mem_append_right _ (.head _)))
    · rcases List.mem_append.mp hp with hp | hp
      · exact .tail _ (.tail _ (List.mem_append_left _ hp))
      · rw [List.mem_singleton.mp hp]; exact .tail _ (.head _)
inductive LOut (env : Env) (dk ds : Addr) (ys : List Value) (cm : Str → Option Value) (n : Nat) (R : List (Addr × Obj)) (g : Heap) (L : Addr) (h : Heap) : Prop
  | mk (Z : List (Addr × Obj)) (k : Int) (t : Tok) (kd : Nat) (b0 : 0 ≤ k) (b1 : k ≤ n) (N : News g L h ((848, tabObj #[]) :: (dk, listOf #[Value.ref ds, Value.int k t] kd) :: Z)) (o : Off Z [dk, 848]) (d : @Ne Nat dk 848) (a : DeckOk ys)
    (c : ∀ h : Heap, Led Z h → ∀ x c v, env.cells.lookup x = some c → cm x = some v → CellAt h c v) (r : ∀ h : Heap, Led Z h → Led R h) (l : ∀ h : Heap, Led Z h → h.IsList ds ys.toArray)
theorem LSt.out {env : Env} {dk ds : Addr} {ys : List Value} {cm : Str → Option Value} {n : Nat} {R Y : List (Addr × Obj)} {g h : Heap} {L : Addr} (H : LSt env dk ds ys cm n R Y) (N : News g L h Y) : LOut env dk ds ys cm n R g L h := by
  obtain ⟨k, t, kd, C, rfl, b0, b1, i, a, c, f, o1, o2, o3, o4, l⟩ := H
  refine ⟨C ++ R, k, t, kd, b0, b1, fun p hp => N p ?_, fun p hp x hx => ?_, o3, a, fun h hh x d v hd hv => ?_, fun h hh => hh.sub fun _ q => List.mem_append_right _ q, fun h hh => ⟨_, hh _ (List.mem_append_right _ l), rfl, _, rfl⟩⟩
  · rcases List.mem_cons.mp hp with rfl | hp
    · exact .tail _ (.head _)
    · rcases List.mem_cons.mp hp with rfl | hp
      · exact .head _
      · exact .tail _ (.tail _ hp)
  · rcases List.mem_cons.mp hx with rfl | hx
    · exact o1 p hp
    · rw [List.mem_singleton.mp hx]; exact o2 p hp
  · obtain ⟨o, ho, e⟩ := c x d hd
    exact ⟨o, hh (d, o) (List.mem_append_left _ ho), by rw [e, hv]⟩
theorem c_lcodesL (w : World) (X : Str) (tX : Tok) (NS : List Int) (ha : Plain X) (hsz : X.cps.size ≤ 40) (hN : codesOf X = NS) : Spec w 4 32 (nat_lit 832) [.str X tX] (fun _ => True) (fun v nw => ∃ x, v = .ref x ∧ ∀ h : Heap, Led nw h → ListIn h x NS) :=
  (c_lcodes w X tX ha hsz).imp (fun _ h => h) fun v nw ⟨l, vs, k, e1, e2, e3⟩ => ⟨l, e1, fun h hh => ⟨vs, ⟨_, hh (l, listOf vs.toArray k) (e2 ▸ .head _), rfl, _, rfl⟩, hN ▸ e3, by rw [← hN]; simpa [codesOf] using hsz⟩⟩
example : True := by
  k_with "LEDY" => (exact hcm _ (by k_extra "LED"))
  k_with "eval Name" => (k_here; (with_reducible show wpAny _ _ (eval (Expr.Name _ _) (envOfC _ _ _ _ _)) _ _ _); k_dflt (refine' evC_ok (n := 1) ?F ?k ?c ?v ?_; (case F => k_asm); (case k => with_reducible assumption); (case c => k_extra "LEDY"); (case v => exact rfl); k_whole))
  k_with "eval Call" => (k_here; (with_reducible show wpAny _ _ (eval (Expr.Call (Expr.Name _ _) (_ :: _) [] _) (envOfC _ _ _ _ _)) _ _ _); k_dflt (refine' callG_C (n := 4) ?X ?F ?T ?k ?c ?e ?f ?a ?b ?v ?_; (case F => k_asm); (case X => k_asm); (case T => k_asm); (case k => with_reducible assumption); (case a => exact rfl); (case b => exact rfl); (case c => k_extra "LEDY"); (case v => exact rfl); (case e => k_is); (case f => k_is); k_whole))
  trivial
theorem law_turn (w : World) (mg mb : Str → Option Value) (s : Shared) (g : Heap) (p : Program) (loose : List Str) (mean : ExcName → Option Value) (L' dk ds xT xB xS lW lM xC xM flC flM I : Addr) (oI : Obj) (ys : List Value) (nsA ns ws : List Int) (ps : List Pc) (f : Bool) (tsz : Tok) (E : Value → Shared → Prop) (m : Str → Option Value) (Y : List (Addr × Obj)) (k : Int) (kd : Nat) (t : Tok) (pst : Array Value)
    (b : List Stmt) (sc : Scope) (hb : lawStmts (K w.params) = b) (hs : (lawFd (K w.params)).scope = sc) (hE : EnvOk (envOfC (Str.ofString "law") sc L' (nat_lit 851) (.ref (nat_lit 850))) L') (Xg : (K w.params).In g) (T : Top p loose mean mg mb g) (C : CodeHd g 850 848) (B : Below callerA g [] g) (F : Fr g L' s.heap m) (N : News g L' s.heap ((I, oI) :: (848, tabObj pst) :: (dk, listOf #[.ref ds, .int k t] kd) :: Y))
    (hLaw : ∀ h : Heap, Led Y h → LawIn h L' dk ds xT xB xS lW lM xC xM flC flM ys ns ws ps f tsz) (hOff : Off Y [I, dk, 848]) (hLT : LTab lamQ pst Y) (hIA : IntsAre ys nsA) (hnl : nsA.length ≤ 40) (hpos : ∀ n ∈ nsA, 0 ≤ n) (hk : 0 ≤ k ∧ k ≤ 60) (hps : 1 ≤ ps.length) (hn9 : ns.length ≤ 9)
    (hdk : @Ne Nat dk 848) (hI1 : @Ne Nat I dk) (hI2 : @Ne Nat I 848) :
    wpAny (model PySem.Challenge.rw_pq0312_01.prog w) (callerA.deeper (envOfC (Str.ofString "law") sc L' (nat_lit 851) (.ref (nat_lit 850)))) (execs (forBody b) (envOfC (Str.ofString "law") sc L' (nat_lit 851) (.ref (nat_lit 850))))
      (TurnEnd g L' dk ds I oI Y k s) E s := by
  revert hb hs Xg; k_fill; intro hb hs Xg
  refine' law_use (KF := K w.params) ?ho ?_
  case ho => k_is
  intro hb9 hs9
  obtain rfl := hb9.symm.trans hb
  obtain rfl := hs9.symm.trans hs
  dsimp only [forBody, forOf, nth]
  have hcm := law_cm hE hLaw rfl rfl rfl rfl rfl rfl rfl rfl rfl rfl
  walk1
  k_extra "STEPSX"
  rename_i hA1 tkA pl trA tA kdA hp0 hp1 hB1 tkB bd trB tB kdB hb0 hb1 DT hT l1t hT2 hT3 tkT hT5 tkT2
  replace N' := News.drop N'
  obtain ⟨n, hn0, hn3, hn⟩ : ∃ n : Nat, 0 < n ∧ n ≤ 3 ∧ (1 + r9) = (n : Int) := ⟨(1 + r9).toNat, by omega, by omega, by omega⟩
  rw [hn] at F'
  clear hr0 hr1 hn l1t
  walk1
  k_extra "STEPSX"
  rename_i fl hF1 l1f
  replace hOff := off_new hOff l1f.2.2.2
  walk1
  k_extra "STEPSX"
  walk1
  k_extra "STEPSX"
  walk1
  k_extra "STEPSX"
  walk1
  k_extra "STEPSX"
  rename_i sl hG1 l1s
  replace hOff := off_new hOff l1s.2.2.2.2.2
  replace N' := News.drop2 N'
  walk1
  k_extra "STEPSX"
  walk1
  k_extra "STEPSX"
  walk1
  k_extra "STEPSX"
  rename News _ _ _ _ => N7
  rename Fr _ _ _ _ => F7
  simp only [List.push_toArray, List.cons_append, List.nil_append] at N7
  obtain ⟨u7, F8⟩ := fr_seen (sl := sl) (fl := fl) F7 rfl rfl
  have hif := fun tk0 => law_if w mg mb s _ tk0 g p loose mean L' fl sl _ _ u7 _ [v1, v2, v3, v4] [v5, v6, v7, v8] (found4 ns ws (ps.map prow) f pl bd n) (seen4 ns.reverse ws.reverse (ps.map prow).reverse f (ns.length - pl) (ns.length - bd) n) ns tsz E _ _ hb9 hs9 Xg T C B F8 N7 (.tail _ (.head _)) (.head _)
    (fun h hh => (hLaw h fun q hq => hh q (.tail _ (.tail _ (.tail _ (.tail _ (.tail _ (by k_extra "INAPP"))))))).size)
    (.cons (hf1.mono fun q hq => .tail _ (.tail _ (.tail _ (.tail _ (.tail _ (by k_extra "INAPP")))))) (.cons (hf2.mono fun q hq => .tail _ (.tail _ (.tail _ (.tail _ (.tail _ (by k_extra "INAPP")))))) (.cons (hf3.mono fun q hq => .tail _ (.tail _ (.tail _ (.tail _ (.tail _ (by k_extra "INAPP")))))) (.cons (hf4.mono fun q hq => .tail _ (.tail _ (.tail _ (.tail _ (.tail _ (by k_extra "INAPP")))))) .nil))))
    (.cons (hf5.mono fun q hq => .tail _ (.tail _ (.tail _ (.tail _ (.tail _ (by k_extra "INAPP")))))) (.cons (hf6.mono fun q hq => .tail _ (.tail _ (.tail _ (.tail _ (.tail _ (by k_extra "INAPP")))))) (.cons (hf7.mono fun q hq => .tail _ (.tail _ (.tail _ (.tail _ (.tail _ (by k_extra "INAPP")))))) (.cons (hf8.mono fun q hq => .tail _ (.tail _ (.tail _ (.tail _ (.tail _ (by k_extra "INAPP")))))) .nil))))
    (law_mirror ns ws (ps.map prow) f pl bd n (by rw [List.length_map]; exact hps) hp0 (by omega) hb0 (by omega)) rfl
  refine wpAny_mono (hif _) (fun fl' s' h => ?_) fun _ _ e => e
  obtain ⟨rfl, hE, tkE, WE, rfl, FE, NE⟩ := h
  refine' ⟨rfl, hE, tkE, _, ps', t9, kd9, _, rfl, FE, ?kn, ?ky, hLT, fun q hq a ha => hOff q hq a (.tail _ (.tail _ ha))⟩
  case kn => exact fun q hq => NE q (List.mem_append_left _ (.tail _ (.tail _ hq)))
  case ky => exact fun q hq => by k_extra "INAPP"
inductive LoopJ (dk ds : Addr) (Z0 : List (Addr × Obj)) (i : Nat) (m : Str → Option Value) (nx : List (Addr × Obj)) : Prop
  | mk (k : Int) (t : Tok) (kd : Nat) (pst : Array Value) (Z : List (Addr × Obj)) (e : nx = (848, tabObj pst) :: (dk, listOf #[Value.ref ds, Value.int k t] kd) :: Z) (b0 : 0 ≤ k) (b1 : k ≤ 40 + 3 * (i : Int)) (s : ∀ p ∈ Z0, p ∈ Z) (o : Off Z [dk, 848]) (l : LTab lamQ pst Z)
inductive PieJ (env : Env) (dk ds : Addr) (ys : List Value) (cm : Str → Option Value) (n : Nat) (R : List (Addr × Obj)) (i : Nat) (ys3 : List Value) (nw : List (Addr × Obj)) : Prop
  | mk (ps : List Pc) (H : LSt env dk ds ys cm (n + i) R nw) (a : StrsAre ys3 (ps.map pcStr)) (b : ps.length = i)
--reg
example : True := by
  k_with "NY" => (first | with_reducible assumption | exact News.drop (by with_reducible assumption) | exact News.drop (News.drop (by with_reducible assumption)) | exact News.drop (News.drop (News.drop (by with_reducible assumption))) | exact News.drop (News.drop (News.drop (News.drop (by with_reducible assumption)))) | fail)
  k_with "LSIDES" => ((case k1 => k_asm); (case k2 => k_asm); (case k3 => k_asm); (case zH => with_reducible assumption); (case k4 => k_extra "NY"); (case k5 => k_asm); (case k6 => first | exact rfl | assumption); (case k7 => ktr_room); (case k8 => ktr_units))
  k_with "INR" => (repeat' first | exact hq | exact List.mem_append_left _ hq | refine List.mem_append_right _ ?_)
  k_with "LEDR" => (exact (LSt.led (by with_reducible assumption) (News.led (by k_extra "NY"))).sub (fun q hq => by k_extra "INR"))
  k_with "eval Name" => (k_here; (with_reducible show wpAny _ _ (eval (Expr.Name _ _) (envOfC _ _ _ _ _)) _ _ _); k_dflt (refine' evC_ok (n := 1) ?F ?k ?c ?v ?_; (case F => k_asm); (case k => with_reducible assumption); (case c => exact LSt.ok (by with_reducible assumption) (News.led (by k_extra "NY"))); (case v => exact rfl); k_whole))
  k_with "eval Call" => (k_here; (with_reducible show wpAny _ _ (eval (Expr.Call (Expr.Name _ _) (_ :: _) [] _) (envOfC _ _ _ _ _)) _ _ _); k_dflt (refine' callG_C (n := 4) ?X ?F ?T ?k ?c ?e ?f ?a ?b ?v ?_; (case F => k_asm); (case X => k_asm); (case T => k_asm); (case k => with_reducible assumption); (case a => exact rfl); (case b => exact rfl); (case c => exact LSt.ok (by with_reducible assumption) (News.led (by k_extra "NY"))); (case v => exact rfl); (case e => k_is); (case f => k_is); k_whole))
  k_with "eval Name" => (k_here; (with_reducible show wpAny _ _ (eval (Expr.Name _ _) (compEnvC _ _ _ _)) _ _ _); k_dflt (refine' ld_cellAt ?c ?C ?_ ?a ?b ?e; (case c => rfl); (case a => rfl); (case b => rfl); (case e => decide); (case C => (refine' LSt.cell (x := Str.ofString "deck") ?zH ?zN ?zp ?zq; (case zH => with_reducible assumption); (case zN => exact News.led (by k_extra "NY")); (case zp => exact rfl); (case zq => exact rfl)))))
  k_with "storeName" => (k_here; (with_reducible show wpAny _ _ (storeName (envOfC _ _ _ _ _) _ _) _ _ _); k_dflt (refine' store_C ?zF ?zH ?zN ?zk ?za ?zb ?zc ?_; (case zF => k_asm); (case zH => with_reducible assumption); (case zN => k_extra "NY"); (case zk => with_reducible assumption); (case za => exact rfl); (case zb => exact rfl); (case zc => exact rfl); k_whole; clear H; intro h' Y9 F' N' H; (try k_sweep)))
  k_with "ALT" => (first | with_reducible assumption | exact And.right (by with_reducible assumption) | exact And.right (And.right (And.right (by with_reducible assumption))))
  k_with "call ref" => (k_dflt (first
    | (refine' draw4 ?k1 ?k2 ?k3 ?zH ?k4 ?zo ?zl ?k5 ?k6 ?k7 ?k8 ?zn ?za ?zb ?_; (case zH => with_reducible assumption); (case k4 => with_reducible assumption); (case zo => with_reducible assumption); (case zl => k_extra "ALT"); (case k1 => k_asm); (case k2 => k_asm); (case k3 => k_asm); (case k5 => k_asm); (case k6 => first | exact rfl | assumption); (case k7 => ktr_room); (case k8 => ktr_units); (case zn => first | decide | omega); (case za => first | decide | omega); (case zb => first | decide | omega); clear H; intro r9 t9 h9 tk9 Y9 F9 N9 H off hr0 hr1; (try dsimp only); (try k_fold))
    | (refine' draw1 ?k1 ?k2 ?k3 ?zH ?k4 ?zl ?k5 ?k6 ?k7 ?k8 ?zn ?za ?zb ?_; (case zH => with_reducible assumption); (case k4 => with_reducible assumption); (case zl => k_extra "ALT"); (case k1 => k_asm); (case k2 => k_asm); (case k3 => k_asm); (case k5 => k_asm); (case k6 => first | exact rfl | assumption); (case k7 => ktr_room); (case k8 => ktr_units); (case zn => first | decide | omega); (case za => first | decide | omega); (case zb => first | decide | omega); clear H; intro r9 t9 h9 tk9 Y9 F9 N9 H hr0 hr1; (try dsimp only); (try k_fold))
    | (refine' draw3 ?k1 ?k2 ?k3 ?zH ?k4 ?zo ?k5 ?k6 ?k7 ?k8 ?zn ?za ?zb ?_; (case zo => with_reducible assumption); k_extra "LSIDES"; (case zn => first | decide | omega); (case za => first | decide | omega); (case zb => first | decide | omega); clear H; intro r9 t9 h9 tk9 Y9 F9 N9 H off hr0 hr1; (try dsimp only); (try k_fold))
    | (refine' draw0 ?k1 ?k2 ?k3 ?zH ?k4 ?k5 ?k6 ?k7 ?k8 ?zn ?za ?zb ?_; k_extra "LSIDES"; (case zn => first | decide | omega); (case za => first | decide | omega); (case zb => first | decide | omega); clear H; intro r9 t9 h9 tk9 Y9 F9 N9 H hr0 hr1; (try dsimp only); (try k_fold))
    | fail))
  k_with "STEPSY" => (repeat' ((fail_if_success (with_reducible show wpAny _ _ (execs (_ :: _) _) _ _ _)); (fail_if_success (with_reducible show wpAny _ _ (pyIter _) _ _ _)); (fail_if_success (with_reducible show wpAny _ _ (eval (Expr.ListComp _ _ _ _) _) _ _ _)); (fail_if_success (with_reducible show LCg.CompSrc _ _ _ _ _ _ _ _ _ _ _ _ _ _)); (try dsimp only); first | (k_unfold; (try dsimp only)) | walk1 | fail "no step"))
  trivial
--end
example : True := by
  k_with "subscriptTail" => (k_here; (with_reducible show wpAny _ _ (subscriptTail _ _ (Value.ref _) (Value.int _ _)) _ _ _); k_dflt (refine' item_menu PieceV ?k1 ?kP ?k2 ?k3 ?k4 ?_ ?k5; (case k1 => exact News.isList (by k_asm) (List.Mem.head _)); (case kP => exact List.forall_mem_cons.mpr ⟨⟨.a, _, rfl⟩, List.forall_mem_cons.mpr ⟨⟨.b, _, rfl⟩, List.forall_mem_cons.mpr ⟨⟨.ab, _, rfl⟩, List.forall_mem_cons.mpr ⟨⟨.na, _, rfl⟩, List.forall_mem_cons.mpr ⟨⟨.dot, _, rfl⟩, List.forall_mem_nil _⟩⟩⟩⟩⟩); (case k2 => omega); (case k3 => exact hr1); (case k4 => exact Nat.le_of_ble_eq_true rfl); (case k5 => with_unfolding_all rfl)); intro v9 hv9; obtain ⟨p9, tp9, hv9⟩ := hv9; subst hv9)
  trivial
example : True := by
  k_with "LCALL" => (k_extra "LSIDES"; (case k9 => exact trivial); clear H)
  k_with "call ref" => (k_dflt (refine' Spec.useL (P := fun nw x => ∀ h : Heap, Led nw h → TableIn h x) (c_table _) ?k1 ?k2 ?k3 ?zH ?k4 ?k5 ?k6 ?k7 ?k8 ?k9 ?_; k_extra "LCALL"; intro xS nwS h9 tk9 Y9 F9 N9 H hXS; (try dsimp only); (try k_fold)))
  k_with "call ref" => (k_dflt (refine' Spec.useL (P := fun nw x => ∀ h : Heap, Led nw h → ListIn h x (codesOf P9)) (c_lcodesL _ P9 _ _ ?ha ?hz rfl) ?k1 ?k2 ?k3 ?zH ?k4 ?k5 ?k6 ?k7 ?k8 ?k9 ?_; (case ha => exact hPp); (case hz => exact Nat.le_trans hP9 (by decide)); k_extra "LCALL"; intro xW nwW h9 tk9 Y9 F9 N9 H hW; (try dsimp only); (try k_fold)))
  k_with "call ref" => (k_dflt (refine' Spec.useL (P := fun nw x => ∀ h : Heap, Led nw h → ListIn h x (codesOf P9).reverse) (c_lcodesL _ _ _ _ ?ha ?hz (codes_rev P9 _)) ?k1 ?k2 ?k3 ?zH ?k4 ?k5 ?k6 ?k7 ?k8 ?k9 ?_; (case ha => exact plain_rev hPp _); (case hz => (rw [size_rev]; exact Nat.le_trans hP9 (by decide))); k_extra "LCALL"; intro xM nwM h9 tk9 Y9 F9 N9 H hM; (try dsimp only); (try k_fold)))
  k_with "call ref" => (k_dflt (refine' Spec.useL (P := fun nw x => ∀ h : Heap, Led nw h → ListIn h x (allCodes ps)) (c_lcodesL _ _ _ _ ?ha ?hz (codesOf_join ps)) ?k1 ?k2 ?k3 ?zH ?k4 ?k5 ?k6 ?k7 ?k8 ?k9 ?_; (case ha => exact plain_pcs ps); (case hz => exact Nat.le_trans (size_pcs ps) (by omega)); k_extra "LCALL"; intro xJ nwJ h9 tk9 Y9 F9 N9 H hJ; (try dsimp only); (try k_fold)))
  k_with "call ref" => (k_dflt (refine' Spec.useL (P := fun nw x => ∀ h : Heap, Led nw h → ListIn h x (allCodes ps.reverse)) (c_lcodesL _ _ _ _ ?ha ?hz (codesOf_join ps.reverse)) ?k1 ?k2 ?k3 ?zH ?k4 ?k5 ?k6 ?k7 ?k8 ?k9 ?_; (case ha => exact plain_pcs ps.reverse); (case hz => exact Nat.le_trans (size_pcs ps.reverse) (by rw [List.length_reverse]; omega)); k_extra "LCALL"; intro xJ nwJ h9 tk9 Y9 F9 N9 H hJ; (try dsimp only); (try k_fold)))
  k_with "call ref" => (k_dflt (refine' Spec.useL (P := fun nw x => ∃ fl, ∀ h : Heap, Led nw h → CodeIn h x fl (List.map prow _) f) (c_cregexpL _ xJ f _ ?zq1 ?zq3) ?k1 ?k2 ?k3 ?zH ?k4 ?k5 ?k6 ?k7 ?k8 ?k9 ?_; k_extra "LSIDES"; (case k9 => exact hJ _ (by k_extra "LEDR")); (case zq1 => first | exact hq1 | (rw [List.length_reverse]; exact hq1)); (case zq3 => first | exact hq3 | (rw [List.length_reverse]; exact hq3)); clear H hJ; intro xC nwC h9 tk9 Y9 F9 N9 H hXC; obtain ⟨flC, hXC⟩ := hXC; (try dsimp only); (try k_fold)))
  k_with "call builtin:str.join" => (k_dflt (refine' join_listW (ys := ps.map pcStr) ?k1 ?k2 ?k3 ?k4 ?_; (case k1 => exact hDs _ (by k_extra "LEDR")); (case k2 => simpa using hss8); (case k3 => decide); (case k4 => exact sum4 (four_pcs ps) (by rw [List.length_map]; omega)); intro t' k'))
  k_with "call builtin:str.join" => (k_dflt (refine' join_listW (ys := ps.reverse.map pcStr) ?k1 ?k2 ?k3 ?k4 ?_; (case k1 => exact News.isList (by k_asm) (by k_mem)); (case k2 => exact strs_pick hss8); (case k3 => decide); (case k4 => exact sum4 (four_pcs ps.reverse) (by rw [List.length_map, List.length_reverse]; omega)); intro t' k'))
  k_with "subscriptTail Name Slice ref ref" => (k_here; k_dflt (refine' kmk_slice3_lit (s := ⟨_, _, _, _, _⟩) ?zF ?zN ?zl ?zp ?zq ?zk ?zo ?ze ?_ ?zs ?zt ?zz; (case zF => k_asm); (case zN => k_extra "NY"); (case zl => exact hDs _ (by k_extra "LEDR")); (case zp => kmk_part); (case zq => kmk_part); (case zk => kmk_part); (case zo => decide); (case ze => exact rfl); (case zs => with_unfolding_all rfl); (case zt => kmk_pure); (case zz => (rw [sizeLine_eq, List.size_toArray, hss8.length, List.length_map]; omega))); intro D' h' F' N' l1)
  trivial
theorem c_cregexpL (w : World) (cl : Addr) (f : Bool) (pcs : List Pc) (hp1 : 1 ≤ pcs.length) (hp3 : pcs.length ≤ 3) :
    Spec w 24 280 (nat_lit 657) [.ref cl, .bool f] (fun h => ListIn h cl (allCodes pcs)) (fun v nw => ∃ x, v = .ref x ∧ ∃ fl, ∀ h : Heap, Led nw h → CodeIn h x fl (pcs.map prow) f) :=
  (c_cregexp w cl f pcs hp1 hp3).imp (fun _ h => h) fun v nw ⟨x, fl, e, r⟩ => ⟨x, e, fl, r⟩
theorem lawB (w : World) (mg mb : Str → Option Value) (g : Heap) (p : Program) (loose : List Str) (mean : ExcName → Option Value) (L' dk ds xT xB : Addr) (ys : List Value) (NS : List Int) (P9 : Str) (tP : Tok) (f : Bool) (tsz : Tok) (R Y : List (Addr × Obj)) (m : Str → Option Value) (h : Heap) (gs : Array GenState) (dr : Drawn) (tk : Nat) (os : OsState) (Q : Flow → Shared → Prop) (E : Value → Shared → Prop)
    (b : List Stmt) (sc : Scope) (hb : lawStmts (K w.params) = b) (hs : (lawFd (K w.params)).scope = sc) (Xg : (K w.params).In g) (T : Top p loose mean mg mb g) (C : CodeHd g 850 848) (B : Below callerA g [] g) (hE : EnvOk (envOfC (Str.ofString "law") sc L' (nat_lit 851) (.ref (nat_lit 850))) L') (F : Fr g L' h m) (hm : m (Str.ofString "part") = some (.str P9 tP)) (N : News g L' h Y)
    (H : LSt (envOfC (Str.ofString "law") sc L' (nat_lit 851) (.ref (nat_lit 850))) dk ds ys (cm5 dk xT xB f NS.length tsz) 30 R Y) (hT : ∀ h : Heap, Led R h → RowIn h xT NS) (hB : ∀ h : Heap, Led R h → RowIn h xB NS.reverse) (hN9 : NS.length ≤ 9) (hPp : Plain P9) (hP9 : P9.cps.size ≤ 9)
    (hPO : PassesOwn (model PySem.Challenge.rw_pq0312_01.prog w) (callerA.deeper (envOfC (Str.ofString "law") sc L' (nat_lit 851) (.ref (nat_lit 850)))) (envOfC (Str.ofString "law") sc L' (nat_lit 851) (.ref (nat_lit 850))) E)
    (ret : ∀ h' tk' m' ps, Fr g L' h' m' → h'.get? 848 = some (tabObj ps) → Q (.ret (.bool true)) ⟨h', gs, dr, tk', os⟩) :
    wpAny (model PySem.Challenge.rw_pq0312_01.prog w) (callerA.deeper (envOfC (Str.ofString "law") sc L' (nat_lit 851) (.ref (nat_lit 850)))) (execs (b.drop 7) (envOfC (Str.ofString "law") sc L' (nat_lit 851) (.ref (nat_lit 850)))) Q E ⟨h, gs, dr, tk, os⟩ := by
  revert hb hs Xg; k_fill; intro hb hs Xg
  refine' law_use (KF := K w.params) ?ho ?_
  case ho => k_is
  intro hb9 hs9
  obtain rfl := hb9.symm.trans hb
  obtain rfl := hs9.symm.trans hs
  replace F := Fr.canon F hm
  clear hm
  dsimp only [List.drop]
  walk1
  k_extra "STEPSX"
  rename_i hS14 tk11 ta2 tb2 tc2 hRg F24 N25 hSt
  (try dsimp only)
  refine LCg.CompSrc.range (n := (1 + r9 - 0).toNat) rfl F24 N25 hRg (small_one (by decide) (by decide) (by omega) (by omega)) (rangeSize_nat ..) (by rw [sizeLine_eq]; omega) ?_
  intro g8
  refine rest_inv (PieJ _ dk ds ys (cm5 dk xT xB f NS.length tsz) 31 R) ?turn8 ?fin8 _ 0 _ _ (Nat.zero_add _) ⟨[], H, .nil, rfl⟩
  case turn8 =>
    clear H
    rintro i v I oI C oC D m₂ ys3 nw h tk' E' hi ⟨ps, H, hss, hsl⟩ ⟨tv, rfl⟩ hC hx F N off ne
    (try dsimp only)
    k_extra "STEPSY"
    exact LCg.CompEnd.intro F9 N9 Y9 (fun _ q => .tail _ q) off trivial ⟨ps ++ [p9], H, by rw [List.map_append]; exact strs_snoc hss, by simp [hsl]⟩
  case fin8 =>
    clear H
    rintro ys8 nw ⟨ps, H, hss8, hpl⟩ D h tk' F N o1'
    have hq1 : 1 ≤ ps.length := by omega
    have hq3 : ps.length ≤ 3 := by omega
    obtain ⟨nwD, Y2, N, H, hDs⟩ := H.keep N o1'
    replace H := H.up (n' := 40) (by omega)
    replace F : Fr g L' h (upd (upd m (Str.ofString "part") (.str P9 tP)) (Str.ofString "pieces") (.ref D)) := F
    clear F24 N25 hSt hRg o1' hr0 hr1 hpl
    (try dsimp only)
    walk1
    k_extra "STEPSY"
    walk1
    k_extra "STEPSY"
    have hC1 := hXC
    clear hXC
    walk1
    k_extra "STEPSY"
    obtain ⟨Z, k3, t3, kd3, hk0, hk1, N40, hOffR, hdk8, ⟨nsA, hIA, hnl, hpos⟩, hcell, hled, hlist⟩ := H.out (by assumption)
    have hLawR := fun (h : Heap) (hh : Led Z h) => (LawIn.mk (hcell h hh (Str.ofString "deck") _ _ rfl rfl) (hcell h hh (Str.ofString "back") _ _ rfl rfl) (hcell h hh (Str.ofString "code") _ _ rfl rfl) (hcell h hh (Str.ofString "folds") _ _ rfl rfl) (hcell h hh (Str.ofString "mirror_code") _ _ rfl rfl) (hcell h hh (Str.ofString "mirror_words") _ _ rfl rfl) (hcell h hh (Str.ofString "size") _ _ rfl rfl) (hcell h hh (Str.ofString "table") _ _ rfl rfl) (hcell h hh (Str.ofString "there") _ _ rfl rfl) (hcell h hh (Str.ofString "words") _ _ rfl rfl)
      (hlist h hh) (hT h ((hled h hh).sub fun q hq => by k_extra "INR")) (hB h ((hled h hh).sub fun q hq => by k_extra "INR")) (hXS h ((hled h hh).sub fun q hq => by k_extra "INR")) (hW h ((hled h hh).sub fun q hq => by k_extra "INR")) (hM h ((hled h hh).sub fun q hq => by k_extra "INR")) (hC1 h ((hled h hh).sub fun q hq => by k_extra "INR")) (List.map_reverse ▸ hXC h ((hled h hh).sub fun q hq => by k_extra "INR")) : LawIn h L' dk ds xT xB xS xW xM _ _ _ _ ys NS (codesOf P9) ps f tsz)
    clear hT hB hXS hW hM hC1 hXC hcell hled hlist H
    walk1
    with_unfolding_all refine' For_invVF F' ?zk1 ?zk2 ?_ (hE := hPO)
    case zk1 => exact rfl
    case zk2 => exact rfl
    k_whole
    k_extra "STEPSX"
    with_unfolding_all refine range_K (LoopJ dk ds Z) rfl (by assumption) (by decide) (by k_asm) (by assumption) (fun _ h => h) ⟨k3, t3, kd3, _, Z, rfl, hk0, by omega, fun _ h => h, hOffR, LTab.nil⟩ ?turnL ?doneL
    case turnL =>
      rintro i tI m₁ nx h tkI I oI hlt ⟨kk, tt, kdd, pst, Z1, rfl, hkk0, hkk1, hsub, hoff, hltab⟩ hnI FI NI
      have hI1 : @Ne Nat I dk := fun e => hnI (dk, _) (.tail _ (.head _)) e.symm
      have hI2 : @Ne Nat I 848 := fun e => hnI (848, _) (.head _) e.symm
      have ht := fun E => law_turn w mg mb ⟨h, gs, dr, tkI, os⟩ g p loose mean L' dk ds xT xB xS xW xM _ _ _ _ I oI ys nsA NS (codesOf P9) ps f tsz E _ Z1 kk kdd tt pst _ _ hb9 hs9 hE Xg T C B FI NI (fun h' hh => hLawR h' (hh.sub hsub)) (off_I (fun q hq => hnI q (.tail _ (.tail _ hq))) hoff) hltab hIA hnl hpos ⟨hkk0, by omega⟩ hq1 hN9 hdk8 hI1 hI2
      refine wpAny_mono (ht _) (fun f5 s' h5 => ?_) fun _ _ e => e
      obtain ⟨rfl, h6, tk6, m6, ps6, t6, kd6, Y6, rfl, F6, N6, hs6, hl6, ho6⟩ := h5
      exact ⟨rfl, h6, tk6, m6, _, rfl, F6, N6, List.forall_mem_cons.mpr ⟨Ne.symm hI2, List.forall_mem_cons.mpr ⟨Ne.symm hI1, fun q hq => ho6 q hq I (.head _)⟩⟩, ⟨kk + 1 + 1 + 1, t6, kd6, ps6, Y6, rfl, by omega, by omega, fun q hq => hs6 q (hsub q hq), fun q hq a ha => ho6 q hq a (.tail _ ha), hl6⟩⟩
    case doneL =>
      rintro m₁ nx h tkI ⟨kk, tt, kdd, pst, Z1, rfl, hkk0, hkk1, hsub, hoff, hltab⟩ FI NI
      (try dsimp only)
      k_extra "STEPSX"
      walk1
      k_extra "STEPSX"
      exact ret _ _ _ pst FI (NI _ (.head _)).1
inductive GivJ (env : Env) (dk ds : Addr) (ys : List Value) (cm : Str → Option Value) (n : Nat) (R : List (Addr × Obj)) (i : Nat) (ys3 : List Value) (nw : List (Addr × Obj)) : Prop
  | mk (ss : List Str) (H : LSt env dk ds ys cm (n + i) R nw) (a : StrsAre ys3 ss) (b : ss.length = i) (c : ∀ S ∈ ss, S.cps.size = 1 ∧ Plain S)
inductive GivS (ss : List Str) (G : Str) (NS : List Int) : Prop | mk (e : Txt.join (Str.ofString "") ss = G) (p : Plain G) (z : G.cps.size ≤ 9) (c : codesOf G = NS) (l : G.length = NS.length) (n : NS.length ≤ 9)
theorem givS {ss : List Str} (h : ∀ S ∈ ss, S.cps.size = 1 ∧ Plain S) (hl : ss.length ≤ 9) : ∃ G NS, GivS ss G NS :=
  ⟨_, _, rfl, by rw [ofs_nil]; exact plain_join fun S hS => (h S hS).2, by rw [ofs_nil, size_join fun S hS => (h S hS).1]; exact hl, rfl, by simp [codesOf, Str.length], by simp only [codesOf, List.length_map, Array.length_toList]; rw [ofs_nil, size_join fun S hS => (h S hS).1]; exact hl⟩
theorem abs_ok {ns : List Int} {ys : List Value} {f : Int → Int} (hf : ∀ k, 0 ≤ f k) (h : IntsAre ys (ns.map f)) (hl : (ns.map f).length ≤ 40) : DeckOk ys :=
  ⟨_, h, hl, fun n hn => by obtain ⟨k, _, rfl⟩ := List.mem_map.mp hn; exact hf k⟩
example : True := by
  k_with "call builtin:str.join" => (k_dflt (refine' join_listW (ys := ss) ?k1 ?k2 ?k3 ?k4 ?_; (case k1 => exact News.isList (by k_asm) (by k_mem)); (case k2 => simpa using hss); (case k3 => decide); (case k4 => exact sum4 hs4 hs9); intro t' k'))
  k_with "call builtin:len" => (k_here; (with_reducible show wpAny _ _ (call (Value.builtin "len") [Value.str _ _]) _ _ _); k_dflt (refine' len_writK NS.length ?k1 ?k2 ?_; (case k1 => exact hNl); (case k2 => omega)))
  k_with "subscriptTail" => (k_here; (with_reducible show wpAny _ _ (subscriptTail _ _ (Value.ref _) (Value.int _ _)) _ _ _); k_dflt (refine' item_menu PartV ?k1 ?kP ?k2 ?k3 ?k4 ?_ ?k5; (case k1 => exact News.isList (by k_asm) (List.Mem.head _)); (case kP => exact List.forall_mem_cons.mpr ⟨⟨_, _, rfl, plain_slice hGp _ _, Nat.le_trans (Txt.slice_le G _ _) hG9⟩, List.forall_mem_cons.mpr ⟨partV_lit (by decide +kernel), List.forall_mem_cons.mpr ⟨partV_lit (by decide +kernel), List.forall_mem_cons.mpr ⟨partV_lit (by decide +kernel), List.forall_mem_cons.mpr ⟨partV_lit (by decide +kernel), List.forall_mem_nil _⟩⟩⟩⟩⟩); (case k2 => omega); (case k3 => exact hr1); (case k4 => exact Nat.le_of_ble_eq_true rfl); (case k5 => with_unfolding_all rfl)); intro v9 hv9; obtain ⟨P9, tP9, hv9, hPp, hP9⟩ := hv9; subst hv9)
  k_with "LCALL" => (k_extra "LSIDES"; (case k9 => exact trivial); clear H)
  k_with "call ref" => (k_dflt (refine' Spec.useL (P := fun nw x => ∀ h : Heap, Led nw h → ListIn h x NS) (c_lcodesL _ G _ NS ?ha ?hz hNS) ?k1 ?k2 ?k3 ?zH ?k4 ?k5 ?k6 ?k7 ?k8 ?k9 ?_; (case ha => exact hGp); (case hz => exact Nat.le_trans hG9 (by decide)); k_extra "LCALL"; intro xJ nwJ h9 tk9 Y9 F9 N9 H hJ; (try dsimp only); (try k_fold)))
  k_with "call ref" => (k_dflt (refine' Spec.useL (P := fun nw x => ∀ h : Heap, Led nw h → ListIn h x NS.reverse) (c_lcodesL _ _ _ _ ?ha ?hz ((codes_rev G _).trans (congrArg List.reverse hNS))) ?k1 ?k2 ?k3 ?zH ?k4 ?k5 ?k6 ?k7 ?k8 ?k9 ?_; (case ha => exact plain_rev hGp _); (case hz => (rw [size_rev]; exact Nat.le_trans hG9 (by decide))); k_extra "LCALL"; intro xI nwI h9 tk9 Y9 F9 N9 H hI; (try dsimp only); (try k_fold)))
  k_with "call ref" => (k_dflt (refine' Spec.useL (P := fun nw x => ∀ h : Heap, Led nw h → RowIn h x NS) (c_textrow _ xJ NS _ hN9) ?k1 ?k2 ?k3 ?zH ?k4 ?k5 ?k6 ?k7 ?k8 ?k9 ?_; k_extra "LSIDES"; (case k9 => exact hJ _ (by k_extra "LEDR")); clear H hJ; intro xT nwT h9 tk9 Y9 F9 N9 H hT; (try dsimp only); (try k_fold)))
  k_with "call ref" => (k_dflt (refine' Spec.useL (P := fun nw x => ∀ h : Heap, Led nw h → RowIn h x NS.reverse) (c_textrow _ _ NS.reverse _ ?hn) ?k1 ?k2 ?k3 ?zH ?k4 ?k5 ?k6 ?k7 ?k8 ?k9 ?_; k_extra "LSIDES"; (case k9 => exact hI _ (by k_extra "LEDR")); (case hn => rw [List.length_reverse]; exact hN9); clear H hI; intro xB nwB h9 tk9 Y9 F9 N9 H hB; (try dsimp only); (try k_fold)))
  trivial
theorem c_law (w : World) (mg mb : Str → Option Value) (s : Shared) (g : Heap) (p : Program) (loose : List Str) (mean : ExcName → Option Value) (al : Addr) (vs : List Value) (ns : List Int) (R : Result → Shared → Prop)
    (hg : g = hideAll s.heap [848]) (h848 : s.heap.get? 848 = some (tabObj #[])) (X : (K w.params).In s.heap) (Xg : (K w.params).In g) (T : Top p loose mean mg mb g) (hlim : s.heap.NoLimit) (C : CodeHd g 850 848) (B : Below callerA g [] g)
    (hl : g.IsList al vs.toArray) (hi : IntsAre vs ns) (hn : ns.length ≤ 63)
    (ret : ∀ h' tk ps, g.StaysIn h' → h'.get? 848 = some (tabObj ps) → R (.ok (.ret (.bool true))) { s with heap := h', toks := tk }) :
    codeAny (model PySem.Challenge.rw_pq0312_01.prog w) callerA (.call (.ref (nat_lit 851)) ⟨[.ref al], []⟩) R s := by
  revert Xg; k_fill; intro Xg
  refine' law_use (KF := K w.params) ?ho ?_
  case ho => k_is
  intro hb9 hs9
  k_extra "ENTERT"
  replace F' : Fr g L' h' (upd noC (Str.ofString "script") (.ref al)) := F'
  replace Y' : CellsAre noC (cellsFrom (L' + 1) (lawFd (K w.params)).scope.names []) cells' := hs9 ▸ Y'
  rw [hs9] at Y'
  walk1
  k_extra "STEPSX"
  k_extra "MYCOMP"
  k_extra "STEPSX"
  rename_i D0 ws0 hA l1a hI0 hC0 hL0 hk1 hk2 gA hI8 hL8 ds hB tkA o1a dk hC F1 N1 l1b
  obtain ⟨R0, Y0, N, H⟩ := LSt.start hE' N1 Y' l1b.1 (abs_ok (fun k => by split <;> omega) hI8 (by rw [List.length_map, List.length_take]; omega)) rfl
  clear N1 Y' hI8 hL8 hI0 hC0 hL0 hk1 hk2 l1a l1b o1a
  k_extra "STEPSY"
  walk1
  k_extra "STEPSY"
  generalize (r9 == 0) = f at H
  clear hr0 hr1
  walk1
  k_extra "STEPSY"
  refine LCg.ListComp_U (F₀ := by k_asm) (by rfl) (by decide) (by rfl) (by decide) (by rfl) ?_
  k_extra "STEPSY"
  rename_i hS4 tk5 ta tb tc hRg F4 N5 hSt
  (try dsimp only)
  refine LCg.CompSrc.range (n := (r9 - 0).toNat) rfl F4 N5 hRg (small_one (by decide) (by decide) (by omega) (by omega)) (rangeSize_nat ..) (by rw [sizeLine_eq]; omega) ?_
  intro g3
  refine rest_inv (GivJ _ dk ds ys (upd (upd noC (Str.ofString "deck") (.ref dk)) (Str.ofString "folds") (.bool f)) 2 R0) ?turn3 ?fin3 _ 0 _ _ (Nat.zero_add _) ⟨[], H, .nil, rfl, fun _ h => nomatch h⟩
  case turn3 =>
    clear H
    rintro i v I oI C oC D m₂ ys3 nw h tk' E' hi ⟨ss, H, hss, hsl, hsp⟩ ⟨tv, rfl⟩ hC hx F N off ne
    (try dsimp only)
    k_extra "STEPSY"
    refine LCg.CompEnd.intro F9 N9 Y9 (fun _ q => q) off trivial ⟨ss ++ [_], H, strs_snoc hss, by simp [hsl], fun S hS => ?_⟩
    rcases List.mem_append.mp hS with hS | hS
    · exact hsp S hS
    · rw [List.mem_singleton.mp hS]; exact ⟨item_one _ _, item_ascii (by decide +kernel) _⟩
  case fin3 =>
    clear H
    rintro ys3 nw ⟨ss, H, hss, hsl, hsp⟩ D h tk' F N o1'
    have hs4 : ∀ S ∈ ss, S.cps.size ≤ 4 := fun S hS => by rw [(hsp S hS).1]; decide
    have hs9 : ss.length ≤ 9 := by rw [hsl]; omega
    replace H := H.up (n' := 12) (by omega)
    clear F4 N5 hSt hRg o1' hr0 hr1
    (try dsimp only)
    k_extra "STEPSY"
    obtain ⟨G, NS, hGe, hGp, hG9, hNS, hNl, hN9⟩ := givS hsp hs9
    rw [hGe] at F'
    replace N' := News.drop N'
    clear hss hsl hsp hs4 hs9 hGe
    walk1
    k_extra "STEPSY"
    walk1
    k_extra "STEPSY"
    rename_i lS hS6 l1c DS vS nS cS hS7 F10 N11 iS eS pS oS p0S l1d bS sS tS
    obtain ⟨lo, hi', tlo, thi, rfl⟩ := two_ints iS eS
    clear iS eS pS oS p0S bS sS tS l1c l1d hr0 hr1 hi hl hn vs ns
    replace N11 := News.drop2 N11
    k_extra "STEPSY"
    rename News _ _ _ _ => N7
    replace N7 := News.drop N7
    walk1
    k_extra "STEPSY"
    walk1
    k_extra "STEPSY"
    exact lawB w mg mb g p loose mean L' dk ds xT xB ys NS P9 tP9 f _ _ Y9 _ h' _ _ _ _ _ _ _ _ hb9 hs9 Xg T C B hE' F' rfl N' (H.up (by decide)) (fun h hh => hT h (hh.sub fun q hq => by k_extra "INR")) (fun h hh => hB h (hh.sub fun q hq => by k_extra "INR")) hN9 hPp hP9 (by passes_own) (fun h' tk' m' ps F h8 => ret h' tk' ps F.keep h8)
theorem law_fa {KF : Frag} {h : Heap} {mg : Str → Option Value} {fa f : Addr} {x : Str} (X : KF.In h) (G : h.Ns mainGlobals mg) (hf : nsIn KF mainGlobals x = some (some (.ref f))) (hm : mg x = some (.ref fa)) : fa = f := by
  have e1 := mg_of X G hf
  rw [hm] at e1
  cases e1; rfl
set_option maxHeartbeats 0 in
theorem final_holds : PySem.Challenge.rw_pq0312_01.Holds := by
  w_on
  refine holds_law said_ok fun said => ?_
  refine holds_open (q := lq) (loose := loose) (Xt := fun s => xlAt lq [] s && recOk [] s) (XP := XL lq []) (Yf := hookObs) (Ya := hookVal) (YP := HookK.says) (N := 6000) left_ok HookK.of HookK.keeps (fun s e => xl_of s (Bool.and_eq_true_iff.mp e).1) XL.keeps (by rfl) (by rfl) (by rfl) (fun s e => recFacts_of (Bool.and_eq_true_iff.mp e).2) (by rfl) (by assumption) (by decide +kernel) ⟨rfl, rfl, rfl, rfl, rfl, by decide +kernel⟩ ?hw ?hc
  case hw => w_witness2
  case hc =>
    intro w s₀ s₁ mg mb G Y fa o pm cd doc dV kV ho hd hcd hD hmg hg args vals as hpre hlay hrd hwl hlo
    have KX := km_in_of Y
    revert KX
    k_fill
    intro KX
    km_tabs Y
    have X := (Ground.X G).1
    have V := (Ground.X G).2
    refine Ground.open G ?_
    intro T B D TE TW
    try (refine guard_noD D (by decide +kernel) ?_; clear D)
    km_lay T hmg ho hd cd
    have hfa := law_fa (f := nat_lit 851) KX (Top.g T) (by kernel_rfl) hmg
    clear hmg
    wrow_args hpre hlay hrd hwl hlo
    refine enter_call ?_
    w_top on
    kn_posts
    subst hfa
    clear hd hD ho hcd X
    rename_i nsI hs0 hlay0 hL1 hr1 hl2 wa wb al vsI wc hLst ra w1 r0 hI hr0 hc1 hc2
    have hC8 : CodeHd (ghostOf s₁.heap [(850, 848)]) 850 848 := (ghost_code hT9).1
    refine c_law w mg mb s₁ (ghostOf s₁.heap [(850, 848)]) _ _ _ al vsI nsI _ rfl (hT8 848 (by k_mem)) KX (ghost_K hT9 KX (by kernel_rfl)) (ghost_top hT9 T) (Top.nolimit T) hC8 (ghost_below hT9) (ghost_list hT9 hLst) hI (by omega) fun h' tk ps hst h8 => ?_
    refine ⟨⟨.inl ⟨.bool true, .bool true, [], rfl, fun _ => rfl, .bool true, ?post, fun _ => ⟨List.nodup_nil, fun _ h => nomatch h⟩⟩, hst, rfl, hg⟩, ⟨ps, h8⟩, trivial⟩
    case post => first | rfl | decide +kernel | kernel_rfl

end Mine
set_option maxRecDepth 100000 in
set_option maxHeartbeats 8000000 in
theorem PySem.Challenge.cw_pq0312_01_holds : PySem.Challenge.rw_pq0312_01.Holds := by
  exact Mine.final_holds
