import PyProof.Rows.All
import Wide.All
import OpenK.AllK
import Wide.FinOn
import KE.KStateDown
import KE.KExcSuper
import Lean
import HandS.ForMost
import HandS.ForExc
import HandS.Codes
import HandS.Defaults
import HandS.CallRecv
import HandS.IsInst
import HandS.StrMore
import HandS.Conv
import HandS.NoneIn
import HandS.DictComp
import HandS.TupSets
import HandS.TryMany
import HandS.ExcInit
import HandS.ExcField
import HandS.Replace
import HandS.ReplaceList
import HandS.Flow
import HandS.Evl
import HandS.Head0
import HandS.Head1
import HandS.Head2
import HandS.HeadEnd
import HandS.HeadHook1
import HandS.HeadHook2
import HandS.HeadHook3
import HandS.HeadHook4
import PySem.Challenge.RW_fascicle_k05_order_and_needs
import HandS.Nested
import HandS.RaiseMore
import HandS.ReplaceLit
import HandS.Walk
set_option Elab.async false
set_option linter.all false
set_option maxRecDepth 100000
set_option maxHeartbeats 4000000
namespace K5
open PySem PySem.Spec PyProof.Rows L2
/-! the text by places -/
def top (i : Nat) : Stmt := PySem.Challenge.pw_fascicle_k05_order_and_needs.main.body.getD i (.Pass ⟨0, 0, 0, 0⟩)
/-- the default of run's keyword -/
def emptyAt (K : PySem.W.Frag) : Addr := match K.lookup (He.fAd K ("run", none)) with
  | some ⟨_, _, .func fd, _⟩ => (match fd.kwdefaults with
    | .ref D => (match PySem.W.nsIn K D "answers" with
      | some (some (.ref a)) => a
      | _ => 0)
    | _ => 0)
  | _ => 0
abbrev s_is_letter : Stmt := top 17
abbrev s_is_digit : Stmt := top 18
abbrev s_in_name : Stmt := top 19
abbrev s_run_end : Stmt := top 20
abbrev s_read_word : Stmt := top 22
abbrev s_read_number : Stmt := top 23
abbrev s_read_string : Stmt := top 24
abbrev s_read_sign : Stmt := top 25
abbrev s_read_token : Stmt := top 26
abbrev s_tokens : Stmt := top 27
abbrev s_read_primary : Stmt := top 37
abbrev s_read_call : Stmt := top 38
abbrev s_read_product : Stmt := top 39
abbrev s_read_sum : Stmt := top 40
abbrev s_read_plain : Stmt := top 41
abbrev s_read_both : Stmt := top 42
abbrev s_read_expression : Stmt := top 43
abbrev s_read_compound : Stmt := top 47
abbrev s_read_simple : Stmt := top 48
abbrev s_read_statement : Stmt := top 49
abbrev s_read_pairs : Stmt := top 50
abbrev s_read_from : Stmt := top 51
abbrev s_read_import : Stmt := top 52
abbrev s_read_export : Stmt := top 53
abbrev s_expression_depth : Stmt := top 54
abbrev s_depth : Stmt := top 56
abbrev s_parse : Stmt := top 57
abbrev s_needs : Stmt := top 61
abbrev s_checked : Stmt := top 65
abbrev s_shown : Stmt := top 73
abbrev s_run : Stmt := top 79
abbrev s_law_cell : Stmt := top 81
abbrev s_law_numbers : Stmt := top 82
abbrev s_law_texts : Stmt := top 83
abbrev s_law_walk : Stmt := top 84
abbrev s_law_long : Stmt := top 85
abbrev s_law : Stmt := top 86
abbrev s_Reader_init : Stmt := inClass (top 33) 0
abbrev s_Reader_at : Stmt := inClass (top 33) 1
abbrev s_Reader_sees : Stmt := inClass (top 33) 2
abbrev s_Reader_sees_kind : Stmt := inClass (top 33) 3
abbrev s_Reader_accept : Stmt := inClass (top 33) 5
abbrev s_Reader_expect : Stmt := inClass (top 33) 6
abbrev s_Reader_read : Stmt := inClass (top 33) 7
abbrev s_Graph_init : Stmt := inClass (top 62) 0
abbrev s_Graph_reach : Stmt := inClass (top 62) 1
abbrev s_Graph_order : Stmt := inClass (top 62) 2
abbrev s_Graph_module_items : Stmt := inClass (top 62) 3
abbrev s_Graph_told_names : Stmt := inClass (top 62) 11
abbrev s_Graph_exports : Stmt := inClass (top 62) 12
abbrev s_Checker_init : Stmt := inClass (top 64) 0
abbrev s_Checker_declare : Stmt := inClass (top 64) 1
abbrev s_Checker_top : Stmt := inClass (top 64) 3
abbrev s_Checker_exports : Stmt := inClass (top 64) 4
abbrev s_Checker_imports : Stmt := inClass (top 64) 5
abbrev s_Checker_expression : Stmt := inClass (top 64) 6
abbrev s_Checker_statement : Stmt := inClass (top 64) 11
abbrev s_Checker_whole : Stmt := inClass (top 64) 12
abbrev s_Run_init : Stmt := inClass (top 78) 0
abbrev s_Run_opened : Stmt := inClass (top 78) 2
abbrev s_Run_evaluate : Stmt := inClass (top 78) 9
abbrev s_Run_statements : Stmt := inClass (top 78) 11
abbrev s_Run_statement : Stmt := inClass (top 78) 14
abbrev s_Run_simple : Stmt := inClass (top 78) 15
abbrev s_Run_whole : Stmt := inClass (top 78) 16
abbrev s_Run_exports : Stmt := inClass (top 78) 17
/-! the data -/
def d_is_letter : He.DefD := ⟨("is_letter", none), "is_letter", "is_letter", defArgs s_is_letter, defBody s_is_letter, defScope s_is_letter, [], []⟩
def d_is_digit : He.DefD := ⟨("is_digit", none), "is_digit", "is_digit", defArgs s_is_digit, defBody s_is_digit, defScope s_is_digit, [], []⟩
def d_in_name : He.DefD := ⟨("in_name", none), "in_name", "in_name", defArgs s_in_name, defBody s_in_name, defScope s_in_name, [], []⟩
def d_run_end : He.DefD := ⟨("run_end", none), "run_end", "run_end", defArgs s_run_end, defBody s_run_end, defScope s_run_end, [], []⟩
def d_read_word : He.DefD := ⟨("read_word", none), "read_word", "read_word", defArgs s_read_word, defBody s_read_word, defScope s_read_word, [], []⟩
def d_read_number : He.DefD := ⟨("read_number", none), "read_number", "read_number", defArgs s_read_number, defBody s_read_number, defScope s_read_number, [], []⟩
def d_read_string : He.DefD := ⟨("read_string", none), "read_string", "read_string", defArgs s_read_string, defBody s_read_string, defScope s_read_string, [], []⟩
def d_read_sign : He.DefD := ⟨("read_sign", none), "read_sign", "read_sign", defArgs s_read_sign, defBody s_read_sign, defScope s_read_sign, [], []⟩
def d_read_token : He.DefD := ⟨("read_token", none), "read_token", "read_token", defArgs s_read_token, defBody s_read_token, defScope s_read_token, [], []⟩
def d_tokens : He.DefD := ⟨("tokens", none), "tokens", "tokens", defArgs s_tokens, defBody s_tokens, defScope s_tokens, [], []⟩
def d_read_primary : He.DefD := ⟨("read_primary", none), "read_primary", "read_primary", defArgs s_read_primary, defBody s_read_primary, defScope s_read_primary, [], []⟩
def d_read_call : He.DefD := ⟨("read_call", none), "read_call", "read_call", defArgs s_read_call, defBody s_read_call, defScope s_read_call, [], []⟩
def d_read_product : He.DefD := ⟨("read_product", none), "read_product", "read_product", defArgs s_read_product, defBody s_read_product, defScope s_read_product, [], []⟩
def d_read_sum : He.DefD := ⟨("read_sum", none), "read_sum", "read_sum", defArgs s_read_sum, defBody s_read_sum, defScope s_read_sum, [], []⟩
def d_read_plain : He.DefD := ⟨("read_plain", none), "read_plain", "read_plain", defArgs s_read_plain, defBody s_read_plain, defScope s_read_plain, [], []⟩
def d_read_both : He.DefD := ⟨("read_both", none), "read_both", "read_both", defArgs s_read_both, defBody s_read_both, defScope s_read_both, [], []⟩
def d_read_expression : He.DefD := ⟨("read_expression", none), "read_expression", "read_expression", defArgs s_read_expression, defBody s_read_expression, defScope s_read_expression, [], []⟩
def d_read_compound : He.DefD := ⟨("read_compound", none), "read_compound", "read_compound", defArgs s_read_compound, defBody s_read_compound, defScope s_read_compound, [], []⟩
def d_read_simple : He.DefD := ⟨("read_simple", none), "read_simple", "read_simple", defArgs s_read_simple, defBody s_read_simple, defScope s_read_simple, [], []⟩
def d_read_statement : He.DefD := ⟨("read_statement", none), "read_statement", "read_statement", defArgs s_read_statement, defBody s_read_statement, defScope s_read_statement, [], []⟩
def d_read_pairs : He.DefD := ⟨("read_pairs", none), "read_pairs", "read_pairs", defArgs s_read_pairs, defBody s_read_pairs, defScope s_read_pairs, [], []⟩
def d_read_from : He.DefD := ⟨("read_from", none), "read_from", "read_from", defArgs s_read_from, defBody s_read_from, defScope s_read_from, [], []⟩
def d_read_import : He.DefD := ⟨("read_import", none), "read_import", "read_import", defArgs s_read_import, defBody s_read_import, defScope s_read_import, [], []⟩
def d_read_export : He.DefD := ⟨("read_export", none), "read_export", "read_export", defArgs s_read_export, defBody s_read_export, defScope s_read_export, [], []⟩
def d_expression_depth : He.DefD := ⟨("expression_depth", none), "expression_depth", "expression_depth", defArgs s_expression_depth, defBody s_expression_depth, defScope s_expression_depth, [], []⟩
def d_depth : He.DefD := ⟨("depth", none), "depth", "depth", defArgs s_depth, defBody s_depth, defScope s_depth, [], []⟩
def d_parse : He.DefD := ⟨("parse", none), "parse", "parse", defArgs s_parse, defBody s_parse, defScope s_parse, [], []⟩
def d_needs : He.DefD := ⟨("needs", none), "needs", "needs", defArgs s_needs, defBody s_needs, defScope s_needs, [], []⟩
def d_checked : He.DefD := ⟨("checked", none), "checked", "checked", defArgs s_checked, defBody s_checked, defScope s_checked, [], []⟩
def d_shown : He.DefD := ⟨("shown", none), "shown", "shown", defArgs s_shown, defBody s_shown, defScope s_shown, [], []⟩
def d_run : He.DefD := ⟨("run", none), "run", "run", defArgs s_run, defBody s_run, defScope s_run, [], [("answers", .adr emptyAt)]⟩
def d_law_cell : He.DefD := ⟨("_law_cell", none), "_law_cell", "_law_cell", defArgs s_law_cell, defBody s_law_cell, defScope s_law_cell, [], []⟩
def d_law_numbers : He.DefD := ⟨("_law_numbers", none), "_law_numbers", "_law_numbers", defArgs s_law_numbers, defBody s_law_numbers, defScope s_law_numbers, [], []⟩
def d_law_texts : He.DefD := ⟨("_law_texts", none), "_law_texts", "_law_texts", defArgs s_law_texts, defBody s_law_texts, defScope s_law_texts, [], []⟩
def d_law_walk : He.DefD := ⟨("_law_walk", none), "_law_walk", "_law_walk", defArgs s_law_walk, defBody s_law_walk, defScope s_law_walk, [], []⟩
def d_law_long : He.DefD := ⟨("_law_long", none), "_law_long", "_law_long", defArgs s_law_long, defBody s_law_long, defScope s_law_long, [], []⟩
def d_law : He.DefD := ⟨("law", none), "law", "law", defArgs s_law, defBody s_law, defScope s_law, [], []⟩
def d_Reader_init : He.DefD := ⟨("Reader", some "__init__"), "__init__", "Reader.__init__", defArgs s_Reader_init, defBody s_Reader_init, defScope s_Reader_init, [], []⟩
def d_Reader_at : He.DefD := ⟨("Reader", some "at"), "at", "Reader.at", defArgs s_Reader_at, defBody s_Reader_at, defScope s_Reader_at, [], []⟩
def d_Reader_sees : He.DefD := ⟨("Reader", some "sees"), "sees", "Reader.sees", defArgs s_Reader_sees, defBody s_Reader_sees, defScope s_Reader_sees, [], []⟩
def d_Reader_sees_kind : He.DefD := ⟨("Reader", some "sees_kind"), "sees_kind", "Reader.sees_kind", defArgs s_Reader_sees_kind, defBody s_Reader_sees_kind, defScope s_Reader_sees_kind, [], []⟩
def d_Reader_accept : He.DefD := ⟨("Reader", some "accept"), "accept", "Reader.accept", defArgs s_Reader_accept, defBody s_Reader_accept, defScope s_Reader_accept, [], []⟩
def d_Reader_expect : He.DefD := ⟨("Reader", some "expect"), "expect", "Reader.expect", defArgs s_Reader_expect, defBody s_Reader_expect, defScope s_Reader_expect, [], []⟩
def d_Reader_read : He.DefD := ⟨("Reader", some "read"), "read", "Reader.read", defArgs s_Reader_read, defBody s_Reader_read, defScope s_Reader_read, [], []⟩
def d_Graph_init : He.DefD := ⟨("Graph", some "__init__"), "__init__", "Graph.__init__", defArgs s_Graph_init, defBody s_Graph_init, defScope s_Graph_init, [], []⟩
def d_Graph_reach : He.DefD := ⟨("Graph", some "_reach"), "_reach", "Graph._reach", defArgs s_Graph_reach, defBody s_Graph_reach, defScope s_Graph_reach, [], []⟩
def d_Graph_order : He.DefD := ⟨("Graph", some "order"), "order", "Graph.order", defArgs s_Graph_order, defBody s_Graph_order, defScope s_Graph_order, [], []⟩
def d_Graph_module_items : He.DefD := ⟨("Graph", some "module_items"), "module_items", "Graph.module_items", defArgs s_Graph_module_items, defBody s_Graph_module_items, defScope s_Graph_module_items, [], []⟩
def d_Graph_told_names : He.DefD := ⟨("Graph", some "told_names"), "told_names", "Graph.told_names", defArgs s_Graph_told_names, defBody s_Graph_told_names, defScope s_Graph_told_names, [], []⟩
def d_Graph_exports : He.DefD := ⟨("Graph", some "exports"), "exports", "Graph.exports", defArgs s_Graph_exports, defBody s_Graph_exports, defScope s_Graph_exports, [], []⟩
def d_Checker_init : He.DefD := ⟨("Checker", some "__init__"), "__init__", "Checker.__init__", defArgs s_Checker_init, defBody s_Checker_init, defScope s_Checker_init, [], []⟩
def d_Checker_declare : He.DefD := ⟨("Checker", some "declare"), "declare", "Checker.declare", defArgs s_Checker_declare, defBody s_Checker_declare, defScope s_Checker_declare, [], []⟩
def d_Checker_top : He.DefD := ⟨("Checker", some "top"), "top", "Checker.top", defArgs s_Checker_top, defBody s_Checker_top, defScope s_Checker_top, [], []⟩
def d_Checker_exports : He.DefD := ⟨("Checker", some "exports"), "exports", "Checker.exports", defArgs s_Checker_exports, defBody s_Checker_exports, defScope s_Checker_exports, [], []⟩
def d_Checker_imports : He.DefD := ⟨("Checker", some "imports"), "imports", "Checker.imports", defArgs s_Checker_imports, defBody s_Checker_imports, defScope s_Checker_imports, [], []⟩
def d_Checker_expression : He.DefD := ⟨("Checker", some "expression"), "expression", "Checker.expression", defArgs s_Checker_expression, defBody s_Checker_expression, defScope s_Checker_expression, [], []⟩
def d_Checker_statement : He.DefD := ⟨("Checker", some "statement"), "statement", "Checker.statement", defArgs s_Checker_statement, defBody s_Checker_statement, defScope s_Checker_statement, [], []⟩
def d_Checker_whole : He.DefD := ⟨("Checker", some "whole"), "whole", "Checker.whole", defArgs s_Checker_whole, defBody s_Checker_whole, defScope s_Checker_whole, [], []⟩
def d_Run_init : He.DefD := ⟨("Run", some "__init__"), "__init__", "Run.__init__", defArgs s_Run_init, defBody s_Run_init, defScope s_Run_init, [], []⟩
def d_Run_opened : He.DefD := ⟨("Run", some "opened"), "opened", "Run.opened", defArgs s_Run_opened, defBody s_Run_opened, defScope s_Run_opened, [], []⟩
def d_Run_evaluate : He.DefD := ⟨("Run", some "evaluate"), "evaluate", "Run.evaluate", defArgs s_Run_evaluate, defBody s_Run_evaluate, defScope s_Run_evaluate, [], []⟩
def d_Run_statements : He.DefD := ⟨("Run", some "statements"), "statements", "Run.statements", defArgs s_Run_statements, defBody s_Run_statements, defScope s_Run_statements, [], []⟩
def d_Run_statement : He.DefD := ⟨("Run", some "statement"), "statement", "Run.statement", defArgs s_Run_statement, defBody s_Run_statement, defScope s_Run_statement, [], []⟩
def d_Run_simple : He.DefD := ⟨("Run", some "simple"), "simple", "Run.simple", defArgs s_Run_simple, defBody s_Run_simple, defScope s_Run_simple, [], []⟩
def d_Run_whole : He.DefD := ⟨("Run", some "whole"), "whole", "Run.whole", defArgs s_Run_whole, defBody s_Run_whole, defScope s_Run_whole, [], []⟩
def d_Run_exports : He.DefD := ⟨("Run", some "exports"), "exports", "Run.exports", defArgs s_Run_exports, defBody s_Run_exports, defScope s_Run_exports, [], []⟩
def fn : List He.DefD := [d_is_letter, d_is_digit, d_in_name, d_run_end, d_read_word, d_read_number, d_read_string, d_read_sign, d_read_token, d_tokens, d_read_primary, d_read_call, d_read_product, d_read_sum, d_read_plain, d_read_both, d_read_expression, d_read_compound, d_read_simple, d_read_statement, d_read_pairs, d_read_from, d_read_import, d_read_export, d_expression_depth, d_depth, d_parse, d_needs, d_checked, d_shown, d_run, d_law_cell, d_law_numbers, d_law_texts, d_law_walk, d_law_long, d_law, d_Reader_init, d_Reader_at, d_Reader_sees, d_Reader_sees_kind, d_Reader_accept, d_Reader_expect, d_Reader_read, d_Graph_init, d_Graph_reach, d_Graph_order, d_Graph_module_items, d_Graph_told_names, d_Graph_exports, d_Checker_init, d_Checker_declare, d_Checker_top, d_Checker_exports, d_Checker_imports, d_Checker_expression, d_Checker_statement, d_Checker_whole, d_Run_init, d_Run_opened, d_Run_evaluate, d_Run_statements, d_Run_statement, d_Run_simple, d_Run_whole, d_Run_exports]
def fa : List He.Fa := [.glo "is_letter", .glo "is_digit", .glo "in_name", .glo "run_end", .glo "read_word", .glo "read_number", .glo "read_string", .glo "read_sign", .glo "read_token", .glo "tokens", .glo "read_primary", .glo "read_call", .glo "read_product", .glo "read_sum", .glo "read_plain", .glo "read_both", .glo "read_expression", .glo "read_compound", .glo "read_simple", .glo "read_statement", .glo "read_pairs", .glo "read_from", .glo "read_import", .glo "read_export", .glo "expression_depth", .glo "depth", .glo "parse", .glo "needs", .glo "checked", .glo "shown", .glo "run", .glo "_law_cell", .glo "_law_numbers", .glo "_law_texts", .glo "_law_walk", .glo "_law_long", .glo "law", .glo "Reader", .glo "Graph", .glo "Checker", .glo "Run", .glo "Oversized", .glo "NoModule", .glo "Thrown", .glo "Weary", .glo "Function", .glo "RESERVED", .glo "SIGNS", .glo "NEEDS", .glo "COMPARISONS", .free "super", .free "str", .free "len", .free "all", .free "int", .free "dict", .free "list", .free "tuple", .free "sorted", .free "set", .free "isinstance", .free "range", .free "abs", .free "reversed", .free "max", .int "MAX_TEXT" 20000, .int "MAX_NAME" 20, .int "MAX_DEPTH" 12, .int "MAX_MODULES" 40, .int "SIZE" 65536, .int "BUDGET" 200, .cls "Reader", .mkr "Reader", .noat "Reader" "rest", .noat "Reader" "module", .noat "Reader" "place", .noat "Reader" "limit", .noat "Reader" "inside", .meth "Reader" "at", .meth "Reader" "sees", .meth "Reader" "sees_kind", .meth "Reader" "accept", .meth "Reader" "expect", .meth "Reader" "read", .cls "Graph", .mkr "Graph", .noat "Graph" "entry", .noat "Graph" "_texts", .noat "Graph" "_items", .noat "Graph" "_order", .meth "Graph" "_reach", .meth "Graph" "order", .meth "Graph" "module_items", .meth "Graph" "told_names", .meth "Graph" "exports", .cls "Checker", .mkr "Checker", .noat "Checker" "graph", .noat "Checker" "module", .noat "Checker" "scopes", .meth "Checker" "declare", .meth "Checker" "top", .meth "Checker" "exports", .meth "Checker" "imports", .meth "Checker" "expression", .meth "Checker" "statement", .meth "Checker" "whole", .cls "Run", .mkr "Run", .noat "Run" "graph", .noat "Run" "answers", .noat "Run" "asked", .noat "Run" "events", .noat "Run" "budget", .noat "Run" "depth", .noat "Run" "tops", .meth "Run" "opened", .meth "Run" "evaluate", .meth "Run" "statements", .meth "Run" "statement", .meth "Run" "simple", .meth "Run" "whole", .meth "Run" "exports"]
def nm0 : List PySem.Str := ["Refused", "Malformed", "Oversized", "NoModule", "NoExport", "Clashing", "Unknown", "Fixed", "Misused", "Thrown", "Weary", "MAX_TEXT", "MAX_NAME", "RESERVED", "SIGNS", "is_letter", "is_digit", "in_name", "run_end", "comment_end", "read_word", "read_number", "read_string", "read_sign", "read_token", "tokens", "MAX_NESTING", "MAX_DEPTH", "SUMS"]
def nm1 : List PySem.Str := ["COMPARISONS", "Reader", "read_parameters", "read_body", "read_arguments", "read_primary", "read_call", "read_product", "read_sum", "read_plain", "read_both", "read_expression", "read_block", "read_let", "read_fun", "read_compound", "read_simple", "read_statement", "read_pairs", "read_from", "read_import", "read_export", "expression_depth", "block_depth", "depth", "parse", "MAX_MODULES", "NEEDS", "needs", "Graph"]
def nm2 : List PySem.Str := ["Checker", "checked", "SIZE", "BUDGET", "DEPTH", "TURNS", "Cell", "Function", "shown", "is_int", "same", "number", "truth", "Run", "run", "_law_cell", "_law_numbers", "_law_texts", "_law_walk", "_law_long"]
def names : List PySem.Str := nm0 ++ nm1 ++ nm2
/-! further facts of the written part -/
def tupAt (K : PySem.W.Frag) (a : Addr) : Bool := match K.lookup a with
  | some ⟨.type c, _, .seq its _, _⟩ => decide (c = "tuple") && its.isEmpty
  | _ => false
def dkB (K : PySem.W.Frag) (a : Addr) (ks : List Str) : Bool := match K.lookup a with
  | some ⟨.type c, none, .dict es _, sl⟩ => decide (c = "dict") && (sl.isEmpty && (!(a == sysModules) && decide (es.toList.map (fun e => match e.key with
    | .str z _ => some z
    | _ => none) = ks.map some)))
  | _ => false
def txts (l : List Str) : List He.Dv := l.map He.Dv.str
def reservedL : List Str := ["and", "as", "ask", "catch", "else", "export", "false", "from", "fun", "if", "import", "let", "none", "not", "or", "repeat", "return", "tell", "throw", "true", "try"]
def signsL : List Str := ["==", "=", "<", "+", "-", "*", ".", ",", ";", "(", ")", "{", "}"]
def needsL : List Str := ["import", "space", "need", "from", "star"]
def tabB (K : PySem.W.Frag) : Bool := He.tupB K "RESERVED" (txts reservedL) && (He.tupB K "SIGNS" (txts signsL) && (He.tupB K "NEEDS" (txts needsL) && (tupAt K (emptyAt K) && (dkB K (He.ga K "COMPARISONS") ["<", "=="]
  && decide (PySem.W.kitOne K (.type "int") (.ref (He.ga K "Function")) = some false)))))
/-- an own error over ValueError whose __init__ closes over its class -/
def initAt (K : PySem.W.Frag) (x : Str) : Addr := He.ma K (He.ga K x) "__init__"
def closB (K : PySem.W.Frag) (x : Str) : Bool := match K.lookup (initAt K x) with
  | some ⟨_, _, .func fd, _⟩ => (match fd.closure, fd.code, fd.defaults, fd.kwdefaults with
    | [(n, cc)], .ref c, .none, .none => decide (n = "__class__") && (PySem.W.codeIn K (.ref c) fd.qualname && ((match K.lookup cc with
      | some ⟨_, _, .cell (some (.ref D)), _⟩ => decide (D = He.ga K x)
      | _ => false) && (match K.lookup c with
      | some ⟨_, _, .fields vs, _⟩ => (match vs.getD 2 .none with
        | .str f _ => decide (f = ("/claim/cut.py" : Str))
        | _ => false)
      | _ => false)))
    | _, _, _, _ => false)
  | _ => false
def excB (K : PySem.W.Frag) (x f : Str) : Bool := PySem.W.excInitIn K (He.ga K x) He.veBase "ValueError.__new__" && ((PySem.W.clsIn K (He.ga K x)).any (fun cd => PySem.HandSPX.refsVE cd.mro.tail && cd.hasDict)
  && (He.eqO (PySem.W.findIn K (.ref (He.ga K x)) "__setattr__") (some (some (.builtin "object.__setattr__"))) && (decide (PySem.W.subIn K (.ref (He.ga K x)) (.type "BaseException") = some true)
  && (decide (PySem.W.typeIn K (.ref (He.ga K x)) = some (.type "type")) && (PySem.W.keepIn K (.ref (He.ga K x)) && (xfB K (He.ga K x) && (He.eqO (PySem.W.findIn K (.ref (He.ga K x)) f) (some none)
  && (He.eqO (PySem.W.findIn K (.ref (He.ga K x)) "__init__") (some (some (.ref (initAt K x)))) && (PySem.W.isFn K (.ref (initAt K x)) && (decide (PySem.W.exmOne K (.ref (He.ga K x)) (.ref (He.ga K x)) = some true)
  && (He.eqO (PySem.W.ks_superIn K (He.ga K x) (He.ga K x) "__init__") (some (some (.builtin "ValueError.__init__"))) && (closB K x && decide (PySem.W.mroIn K (He.ga K x) (.ref (He.ga K x)) = some true)))))))))))))
def moreB (K : PySem.W.Frag) : Bool := tabB K && (excB K "Oversized" "limit" && (excB K "NoModule" "name" && He.eqO (PySem.W.nsIn K cStatics "thirdparty.any") (some none)))
/-! the two defs that close over their class: all but the closure -/
abbrev FnE : Type := Option (Str × Str × Arguments × FuncBody × Scope × Addr × Addr)
def fnE (K : PySem.W.Frag) (f : Addr) : FnE := match K.lookup f with
  | some ⟨_, _, .func fd, _⟩ => some (fd.name, fd.qualname, fd.params, fd.body, fd.scope, fd.globals, fd.builtins)
  | _ => none
abbrev s_Oversized_init : Stmt := inClass (top 3) 0
abbrev s_NoModule_init : Stmt := inClass (top 4) 0
def valE (q : Str) (s : Stmt) : FnE := some ("__init__", q, defArgs s, .stmts (defBody s), defScope s, mainGlobals, builtinsNs)
/-! the part of the heap that is looked at -/
def refsE (g : Addr → Option Obj) (a : Addr) : List Addr := match g a with
  | some o => He.refsD o
  | none => []
def subE (g : Addr → Option Obj) (a : Addr) : List Addr := match g a with
  | some o => (match o.data with
    | .func fd => He.refV fd.code ++ (He.refV fd.kwdefaults ++ (He.refV fd.kwdefaults).flatMap (refsE g))
    | .cls cd => cd.ns :: ((refsE g cd.ns).flatMap fun m => match g m with
      | some o => (match o.data with
        | .func fd => m :: (He.refV fd.code ++ fd.closure.map (·.2))
        | _ => [])
      | none => [])
    | _ => [])
  | none => []
def selE (g : Addr → Option Obj) : List Addr := mainGlobals :: (refsE g mainGlobals ++ ((refsE g mainGlobals).flatMap (subE g) ++ [cStatics]))
/-! the list is laid out before it is looked at -/
def layN {α : Type} : List Addr → (List Addr → α) → α
  | [], k => k []
  | a :: r, k => HandSHeadRun.frNat a fun a => layN r fun r => k (a :: r)
theorem layN_eq {α : Type} : ∀ (l : List Addr) (k : List Addr → α), layN l k = k l
  | [], _ => rfl
  | a :: r, k => by
    show HandSHeadRun.frNat a (fun a => layN r fun r => k (a :: r)) = _
    rw [HandSHeadRun.frNat_eq, layN_eq r]
def layO {α : Type} (o : Obj) (k : Obj → α) : α := match o with
  | ⟨c, d, .dict es n, sl⟩ => k ⟨c, d, .dict es n, sl⟩
  | ⟨c, d, .cls cd, sl⟩ => k ⟨c, d, .cls cd, sl⟩
  | ⟨c, d, .func fd, sl⟩ => k ⟨c, d, .func fd, sl⟩
  | ⟨c, d, .fields vs, sl⟩ => k ⟨c, d, .fields vs, sl⟩
  | ⟨c, d, .seq vs n, sl⟩ => k ⟨c, d, .seq vs n, sl⟩
  | o => k o
theorem layO_eq {α : Type} (o : Obj) (k : Obj → α) : layO o k = k o := by
  obtain ⟨c, d, dt, sl⟩ := o
  cases dt <;> rfl
def layF {α : Type} : PySem.W.Frag → (PySem.W.Frag → α) → α
  | [], k => k []
  | (a, o) :: r, k => HandSHeadRun.frNat a fun a => layO o fun o => layF r fun r => k ((a, o) :: r)
theorem layF_eq {α : Type} : ∀ (l : PySem.W.Frag) (k : PySem.W.Frag → α), layF l k = k l
  | [], _ => rfl
  | (a, o) :: r, k => by
    show HandSHeadRun.frNat a (fun a => layO o fun o => layF r fun r => k ((a, o) :: r)) = _
    rw [HandSHeadRun.frNat_eq, layO_eq, layF_eq r]
/-! the hook -/
abbrev AlE : Type := He.AlD × Bool × List FnE
def obsE (K : PySem.W.Frag) : AlE := (He.obsD fa fn K, moreB K, [fnE K (initAt K "Oversized"), fnE K (initAt K "NoModule")])
def goodE : AlE := (He.valD fn, true, [valE "Oversized.__init__" s_Oversized_init, valE "NoModule.__init__" s_NoModule_init])
structure Says (K : PySem.W.Frag) : Prop where
  d : He.SaysD fa fn K
  m : moreB K = true
  e : [fnE K (initAt K "Oversized"), fnE K (initAt K "NoModule")] = [valE "Oversized.__init__" s_Oversized_init, valE "NoModule.__init__" s_NoModule_init]
theorem says_of {K : PySem.W.Frag} (e : obsE K = goodE) : Says K := ⟨congrArg (fun z : AlE => z.1) e, congrArg (fun z : AlE => z.2.1) e, congrArg (fun z : AlE => z.2.2) e⟩
def hk : PySem.W.Hook where
  α := AlE
  obs := fun s => obsE (He.frG s.heap.get? (selE s.heap.get?))
  val := fun _ => goodE
  says := fun _ h => ∃ K : PySem.W.Frag, K.In h ∧ Says K
  of := fun _ _ e => ⟨_, He.frG_in, says_of e⟩
  keeps := fun _ _ _ ⟨K, hK, c⟩ k => ⟨K, PySem.W.Frag.In.keeps hK k, c⟩
def ob (s : PySem.W.SharedT) : AlE := layN (selE (HandSHeadRun.getT s)) fun as => layF (He.frG (HandSHeadRun.getT s) as) obsE
theorem ob_eq (s : PySem.W.SharedT) : ob s = hk.obs s.abs := by
  have e : HandSHeadRun.getT s = s.abs.heap.get? := funext (HandSHeadRun.getT_eq s)
  unfold ob
  rw [layN_eq, layF_eq, e]
  rfl
abbrev R : PySem.W.OpenRow := PySem.W.OpenLaw.row PySem.Challenge.rw_fascicle_k05_order_and_needs
/-! what the walk asks of the text behind the top -/
structure Tx (K : PySem.W.Frag) (mg : Str → Option Value) : Prop where
  s : Says K
  at_ : ∃ h : Heap, K.In h ∧ h.Ns mainGlobals mg
section
variable {P : Program} {w : World} {K : PySem.W.Frag} {mg : Str → Option Value} {base : Heap} {CX : CXT}
theorem Tx.gl (T : Tx K mg) {x : Str} (c : (He.Fa.glo x).ok K = true) : mg x = some (.ref (He.ga K x)) := let ⟨_, X, G⟩ := T.at_; He.glo_ok X G c
theorem Tx.fr (T : Tx K mg) {x : Str} (c : (He.Fa.free x).ok K = true) : mg x = none := let ⟨_, X, G⟩ := T.at_; He.free_ok X G c
theorem Tx.it (T : Tx K mg) {x : Str} {i : Int} (c : (He.Fa.int x i).ok K = true) : ∃ u, mg x = some u ∧ RelV (.int i) u := let ⟨_, X, G⟩ := T.at_; let ⟨t, e⟩ := He.int_ok X G c; ⟨_, e, t, rfl⟩
/-- a def of the text stands at f -/
abbrev DefAt (K : PySem.W.Frag) (d : He.DefD) (f : Addr) : Prop := ∃ fd, FunD K d.name d.qual d.params d.body d.scope (d.dvs K) (d.kws K) f fd
/-- the def at f keeps a promise and takes just its parameters -/
structure Dok (P : Program) (w : World) (K : PySem.W.Frag) (mg : Str → Option Value) (base : Heap) (CX : CXT) (k : Nat) (f : Addr) (ps : List Str) (sp : Sp) : Prop where
  ex : ∃ fd, FnOk P w K mg base CX k f fd ps sp ∧ Binds K fd ps []
  kp : PySem.W.keepIn K (.ref f) = true
/-- by its body: nothing is raised -/
theorem Dok.mk0 {d : He.DefD} {f : Addr} {N ps : List Str} {k : Nat} {sp : Sp} (F : DefAt K d f) (S : FnScope N ps d.scope) (hd : d.dvs K = [])
    (hbind : ∀ (kV doc pm : Value) (an : Option Addr) (cdv ct : Value) (us : List Value), us.length = ps.length → bindArgs (PySem.W.fnOf d.name d.qual d.params d.body d.scope .none kV doc pm an cdv ct) ⟨us, []⟩ = pure (ps.zip us))
    (len : ∀ vs H Q E, sp vs H Q E → vs.length = ps.length)
    (hbody : ∀ (cdv : Value) (A : Around) (outer : List Env) (s : Shared) (H : Hp) (vs : List V) (Q : VK) (E : XK), Room k (A.deeper (envOfC d.qual d.scope s.heap.objs.size f cdv)) → sp vs H Q E →
      ∃ t, PSs (cxOf CX0 P w K mg base N d.qual d.scope f cdv A outer s H E).nox d.body t ∧ t { nx := fun _ H' => Q .non H', rt := Q } (start N vs) H) : Dok P w K mg base CX0 (k + 1) f ps sp := by
  obtain ⟨fd, F⟩ := F
  rw [hd] at F
  refine ⟨⟨fd, F.ok S len fun cdv A outer s H vs Q E hr hsp => ?_, F.bindsN hbind⟩, F.kp⟩
  obtain ⟨t, h, q⟩ := hbody cdv A outer s H vs Q E hr hsp
  exact ⟨t, h.nox, q⟩
/-- .. it may raise -/
theorem Dok.mkX {d : He.DefD} {f : Addr} {N ps : List Str} {k : Nat} {sp : Sp} (F : DefAt K d f) (S : FnScope N ps d.scope) (hd : d.dvs K = [])
    (hbind : ∀ (kV doc pm : Value) (an : Option Addr) (cdv ct : Value) (us : List Value), us.length = ps.length → bindArgs (PySem.W.fnOf d.name d.qual d.params d.body d.scope .none kV doc pm an cdv ct) ⟨us, []⟩ = pure (ps.zip us))
    (len : ∀ vs H Q E, sp vs H Q E → vs.length = ps.length)
    (hbody : ∀ (cdv : Value) (A : Around) (outer : List Env) (s : Shared) (H : Hp) (vs : List V) (Q : VK) (E : XK), Room k (A.deeper (envOfC d.qual d.scope s.heap.objs.size f cdv)) → sp vs H Q E →
      ∃ t, PSs (cxOf (L2.CX P w) P w K mg base N d.qual d.scope f cdv A outer s H E) d.body t ∧ t { nx := fun _ H' => Q .non H', rt := Q } (start N vs) H) : Dok P w K mg base (L2.CX P w) (k + 1) f ps sp := by
  obtain ⟨fd, F⟩ := F
  rw [hd] at F
  exact ⟨⟨fd, F.ok S len fun cdv A outer s H vs Q E hr hsp => hbody cdv A outer s H vs Q E hr hsp, F.bindsN hbind⟩, F.kp⟩
theorem Dok.mono {f : Addr} {ps : List Str} {sp : Sp} {j k : Nat} (F : Dok P w K mg base CX j f ps sp) (h : j ≤ k) : Dok P w K mg base CX k f ps sp := ⟨F.ex.imp fun _ z => ⟨z.1.mono h, z.2⟩, F.kp⟩
/-- a def that never raises, where one that may is asked -/
theorem Dok.toX {f : Addr} {ps : List Str} {sp : Sp} {k : Nat} (F : Dok P w K mg base CX0 k f ps sp) : Dok P w K mg base (L2.CX P w) k f ps sp :=
  ⟨F.ex.imp fun _ z => ⟨⟨z.1.len, fun A outer s H args us vs Q E hr he hb hv hs => codeAny_mono (z.1.run A outer s H args us vs Q E hr he hb hv hs) fun r s' hq => by
    cases r with
    | error e => exact hq.elim
    | ok fl =>
      cases fl with
      | ret u => exact hq
      | next => exact hq.elim
      | brk => exact hq.elim
      | cont => exact hq.elim⟩, z.2⟩, F.kp⟩
end
/-! calls of such a def -/
section
variable {X : Cx} {CX : CXT} {j k : Nat} {f C : Addr} {ps : List Str} {sp : Sp} {x m : Str} {p pos apos : Pos} {e o : Expr} {es : List Expr} {ta : TE} {t : TA} {E : XK}
theorem pc (c : Dok X.prog X.w X.K X.mg X.base CX0 k f ps sp) (hm : X.mg x = some (.ref f)) (hr : Room j X.A) (ha : PA X (e :: es) t) (hk : k ≤ j := by decide) (hg : Gl X x := by rfl)
    (hdb : (x == ("__debug__" : Str)) = false := by decide) (he : starEach (e :: es) X.env = (false, eval e X.env) :: starEach es X.env := by rfl) (hpl : (backTo pos (starEach es X.env)).any (·.1) = false := by rfl) :
    PE X (.Call (.Name x p) (e :: es) [] pos) (tCall sp [] E0 t) := by
  obtain ⟨fd, F, b⟩ := c.ex
  exact pe_call F (hr.mono hk) hg hm c.kp b .nil pass0 ha hdb he hpl
theorem pm {pl : Sem Bool} (c : Dok X.prog X.w X.K X.mg X.base CX0 k f ps sp) (hC : Cls X.K C) (hm : Meth X.K C m f) (hr : Room j X.A) (ho : PE X o ta) (ha : PA X (e :: es) t) (hk : k ≤ j := by decide)
    (hst : starEach (e :: es) X.env = (false, eval e X.env) :: starEach es X.env := by rfl) (hpl : (backTo pos (starEach es X.env)).any (·.1) = false := by rfl)
    (ht : eval (.Call (.Attribute o m apos) (e :: es) [] pos) X.env = (do
      let ov ← eval o X.env
      standAt apos.atName
      let (f, first) ← holding [ov] (getMethod ov m pl)
      callWith pos f first (backTo pos (starEach (e :: es) X.env)) (backToKw pos (keywordEach [] X.env))) := by rfl) :
    PE X (.Call (.Attribute o m apos) (e :: es) [] pos) (tMeth C m sp [] E0 ta t) := by
  obtain ⟨fd, F, b⟩ := c.ex
  exact pe_meth (pl := pl) ho hC hm F (hr.mono hk) b .nil pass0 ha hst hpl ht
theorem pm0 {pl : Sem Bool} (c : Dok X.prog X.w X.K X.mg X.base CX0 k f ps sp) (hC : Cls X.K C) (hm : Meth X.K C m f) (hr : Room j X.A) (ho : PE X o ta) (hk : k ≤ j := by decide)
    (ht : eval (.Call (.Attribute o m apos) [] [] pos) X.env = (do
      let ov ← eval o X.env
      standAt apos.atName
      let (f, first) ← holding [ov] (getMethod ov m pl)
      callWith pos f first (backTo pos (starEach [] X.env)) (backToKw pos (keywordEach [] X.env))) := by rfl) :
    PE X (.Call (.Attribute o m apos) [] [] pos) (tMeth C m sp [] E0 ta tNil) := by
  obtain ⟨fd, F, b⟩ := c.ex
  exact pe_meth0 (pl := pl) ho hC hm F (hr.mono hk) b .nil pass0 ht
theorem pk (M : Mk X.K C f) (c : Dok X.prog X.w X.K X.mg X.base CX0 k f ps sp) (hm : X.mg x = some (.ref C)) (hr : Room j X.A) (ha : PA X (e :: es) t) (hk : k + 1 ≤ j := by decide) (hg : Gl X x := by rfl)
    (hdb : (x == ("__debug__" : Str)) = false := by decide) (he : starEach (e :: es) X.env = (false, eval e X.env) :: starEach es X.env := by rfl) (hpl : (backTo pos (starEach es X.env)).any (·.1) = false := by rfl) :
    PE X (.Call (.Name x p) (e :: es) [] pos) (tMake C sp [] E0 t) := by
  obtain ⟨fd, F, b⟩ := c.ex
  exact pe_make M F (hr.mono hk) hg hm b .nil pass0 ha hdb he hpl
end
section
variable {K : PySem.W.Frag} {mg : Str → Option Value}
theorem Tx.g_is_letter (T : Tx K mg) : mg "is_letter" = some (.ref (He.ga K "is_letter")) := T.gl (T.s.d.fact 0 (f := .glo "is_letter") rfl)
theorem Tx.r_is_letter (T : Tx K mg) : ∃ u, mg "is_letter" = some u ∧ RelV (.ref (He.ga K "is_letter")) u := ⟨_, T.g_is_letter, rfl⟩
theorem Tx.g_is_digit (T : Tx K mg) : mg "is_digit" = some (.ref (He.ga K "is_digit")) := T.gl (T.s.d.fact 1 (f := .glo "is_digit") rfl)
theorem Tx.r_is_digit (T : Tx K mg) : ∃ u, mg "is_digit" = some u ∧ RelV (.ref (He.ga K "is_digit")) u := ⟨_, T.g_is_digit, rfl⟩
theorem Tx.g_in_name (T : Tx K mg) : mg "in_name" = some (.ref (He.ga K "in_name")) := T.gl (T.s.d.fact 2 (f := .glo "in_name") rfl)
theorem Tx.r_in_name (T : Tx K mg) : ∃ u, mg "in_name" = some u ∧ RelV (.ref (He.ga K "in_name")) u := ⟨_, T.g_in_name, rfl⟩
theorem Tx.g_run_end (T : Tx K mg) : mg "run_end" = some (.ref (He.ga K "run_end")) := T.gl (T.s.d.fact 3 (f := .glo "run_end") rfl)
theorem Tx.r_run_end (T : Tx K mg) : ∃ u, mg "run_end" = some u ∧ RelV (.ref (He.ga K "run_end")) u := ⟨_, T.g_run_end, rfl⟩
theorem Tx.g_read_word (T : Tx K mg) : mg "read_word" = some (.ref (He.ga K "read_word")) := T.gl (T.s.d.fact 4 (f := .glo "read_word") rfl)
theorem Tx.r_read_word (T : Tx K mg) : ∃ u, mg "read_word" = some u ∧ RelV (.ref (He.ga K "read_word")) u := ⟨_, T.g_read_word, rfl⟩
theorem Tx.g_read_number (T : Tx K mg) : mg "read_number" = some (.ref (He.ga K "read_number")) := T.gl (T.s.d.fact 5 (f := .glo "read_number") rfl)
theorem Tx.r_read_number (T : Tx K mg) : ∃ u, mg "read_number" = some u ∧ RelV (.ref (He.ga K "read_number")) u := ⟨_, T.g_read_number, rfl⟩
theorem Tx.g_read_string (T : Tx K mg) : mg "read_string" = some (.ref (He.ga K "read_string")) := T.gl (T.s.d.fact 6 (f := .glo "read_string") rfl)
theorem Tx.r_read_string (T : Tx K mg) : ∃ u, mg "read_string" = some u ∧ RelV (.ref (He.ga K "read_string")) u := ⟨_, T.g_read_string, rfl⟩
theorem Tx.g_read_sign (T : Tx K mg) : mg "read_sign" = some (.ref (He.ga K "read_sign")) := T.gl (T.s.d.fact 7 (f := .glo "read_sign") rfl)
theorem Tx.r_read_sign (T : Tx K mg) : ∃ u, mg "read_sign" = some u ∧ RelV (.ref (He.ga K "read_sign")) u := ⟨_, T.g_read_sign, rfl⟩
theorem Tx.g_read_token (T : Tx K mg) : mg "read_token" = some (.ref (He.ga K "read_token")) := T.gl (T.s.d.fact 8 (f := .glo "read_token") rfl)
theorem Tx.r_read_token (T : Tx K mg) : ∃ u, mg "read_token" = some u ∧ RelV (.ref (He.ga K "read_token")) u := ⟨_, T.g_read_token, rfl⟩
theorem Tx.g_tokens (T : Tx K mg) : mg "tokens" = some (.ref (He.ga K "tokens")) := T.gl (T.s.d.fact 9 (f := .glo "tokens") rfl)
theorem Tx.r_tokens (T : Tx K mg) : ∃ u, mg "tokens" = some u ∧ RelV (.ref (He.ga K "tokens")) u := ⟨_, T.g_tokens, rfl⟩
theorem Tx.g_read_primary (T : Tx K mg) : mg "read_primary" = some (.ref (He.ga K "read_primary")) := T.gl (T.s.d.fact 10 (f := .glo "read_primary") rfl)
theorem Tx.r_read_primary (T : Tx K mg) : ∃ u, mg "read_primary" = some u ∧ RelV (.ref (He.ga K "read_primary")) u := ⟨_, T.g_read_primary, rfl⟩
theorem Tx.g_read_call (T : Tx K mg) : mg "read_call" = some (.ref (He.ga K "read_call")) := T.gl (T.s.d.fact 11 (f := .glo "read_call") rfl)
theorem Tx.r_read_call (T : Tx K mg) : ∃ u, mg "read_call" = some u ∧ RelV (.ref (He.ga K "read_call")) u := ⟨_, T.g_read_call, rfl⟩
theorem Tx.g_read_product (T : Tx K mg) : mg "read_product" = some (.ref (He.ga K "read_product")) := T.gl (T.s.d.fact 12 (f := .glo "read_product") rfl)
theorem Tx.r_read_product (T : Tx K mg) : ∃ u, mg "read_product" = some u ∧ RelV (.ref (He.ga K "read_product")) u := ⟨_, T.g_read_product, rfl⟩
theorem Tx.g_read_sum (T : Tx K mg) : mg "read_sum" = some (.ref (He.ga K "read_sum")) := T.gl (T.s.d.fact 13 (f := .glo "read_sum") rfl)
theorem Tx.r_read_sum (T : Tx K mg) : ∃ u, mg "read_sum" = some u ∧ RelV (.ref (He.ga K "read_sum")) u := ⟨_, T.g_read_sum, rfl⟩
theorem Tx.g_read_plain (T : Tx K mg) : mg "read_plain" = some (.ref (He.ga K "read_plain")) := T.gl (T.s.d.fact 14 (f := .glo "read_plain") rfl)
theorem Tx.r_read_plain (T : Tx K mg) : ∃ u, mg "read_plain" = some u ∧ RelV (.ref (He.ga K "read_plain")) u := ⟨_, T.g_read_plain, rfl⟩
theorem Tx.g_read_both (T : Tx K mg) : mg "read_both" = some (.ref (He.ga K "read_both")) := T.gl (T.s.d.fact 15 (f := .glo "read_both") rfl)
theorem Tx.r_read_both (T : Tx K mg) : ∃ u, mg "read_both" = some u ∧ RelV (.ref (He.ga K "read_both")) u := ⟨_, T.g_read_both, rfl⟩
theorem Tx.g_read_expression (T : Tx K mg) : mg "read_expression" = some (.ref (He.ga K "read_expression")) := T.gl (T.s.d.fact 16 (f := .glo "read_expression") rfl)
theorem Tx.r_read_expression (T : Tx K mg) : ∃ u, mg "read_expression" = some u ∧ RelV (.ref (He.ga K "read_expression")) u := ⟨_, T.g_read_expression, rfl⟩
theorem Tx.g_read_compound (T : Tx K mg) : mg "read_compound" = some (.ref (He.ga K "read_compound")) := T.gl (T.s.d.fact 17 (f := .glo "read_compound") rfl)
theorem Tx.r_read_compound (T : Tx K mg) : ∃ u, mg "read_compound" = some u ∧ RelV (.ref (He.ga K "read_compound")) u := ⟨_, T.g_read_compound, rfl⟩
theorem Tx.g_read_simple (T : Tx K mg) : mg "read_simple" = some (.ref (He.ga K "read_simple")) := T.gl (T.s.d.fact 18 (f := .glo "read_simple") rfl)
theorem Tx.r_read_simple (T : Tx K mg) : ∃ u, mg "read_simple" = some u ∧ RelV (.ref (He.ga K "read_simple")) u := ⟨_, T.g_read_simple, rfl⟩
theorem Tx.g_read_statement (T : Tx K mg) : mg "read_statement" = some (.ref (He.ga K "read_statement")) := T.gl (T.s.d.fact 19 (f := .glo "read_statement") rfl)
theorem Tx.r_read_statement (T : Tx K mg) : ∃ u, mg "read_statement" = some u ∧ RelV (.ref (He.ga K "read_statement")) u := ⟨_, T.g_read_statement, rfl⟩
theorem Tx.g_read_pairs (T : Tx K mg) : mg "read_pairs" = some (.ref (He.ga K "read_pairs")) := T.gl (T.s.d.fact 20 (f := .glo "read_pairs") rfl)
theorem Tx.r_read_pairs (T : Tx K mg) : ∃ u, mg "read_pairs" = some u ∧ RelV (.ref (He.ga K "read_pairs")) u := ⟨_, T.g_read_pairs, rfl⟩
theorem Tx.g_read_from (T : Tx K mg) : mg "read_from" = some (.ref (He.ga K "read_from")) := T.gl (T.s.d.fact 21 (f := .glo "read_from") rfl)
theorem Tx.r_read_from (T : Tx K mg) : ∃ u, mg "read_from" = some u ∧ RelV (.ref (He.ga K "read_from")) u := ⟨_, T.g_read_from, rfl⟩
theorem Tx.g_read_import (T : Tx K mg) : mg "read_import" = some (.ref (He.ga K "read_import")) := T.gl (T.s.d.fact 22 (f := .glo "read_import") rfl)
theorem Tx.r_read_import (T : Tx K mg) : ∃ u, mg "read_import" = some u ∧ RelV (.ref (He.ga K "read_import")) u := ⟨_, T.g_read_import, rfl⟩
theorem Tx.g_read_export (T : Tx K mg) : mg "read_export" = some (.ref (He.ga K "read_export")) := T.gl (T.s.d.fact 23 (f := .glo "read_export") rfl)
theorem Tx.r_read_export (T : Tx K mg) : ∃ u, mg "read_export" = some u ∧ RelV (.ref (He.ga K "read_export")) u := ⟨_, T.g_read_export, rfl⟩
theorem Tx.g_expression_depth (T : Tx K mg) : mg "expression_depth" = some (.ref (He.ga K "expression_depth")) := T.gl (T.s.d.fact 24 (f := .glo "expression_depth") rfl)
theorem Tx.r_expression_depth (T : Tx K mg) : ∃ u, mg "expression_depth" = some u ∧ RelV (.ref (He.ga K "expression_depth")) u := ⟨_, T.g_expression_depth, rfl⟩
theorem Tx.g_depth (T : Tx K mg) : mg "depth" = some (.ref (He.ga K "depth")) := T.gl (T.s.d.fact 25 (f := .glo "depth") rfl)
theorem Tx.r_depth (T : Tx K mg) : ∃ u, mg "depth" = some u ∧ RelV (.ref (He.ga K "depth")) u := ⟨_, T.g_depth, rfl⟩
theorem Tx.g_parse (T : Tx K mg) : mg "parse" = some (.ref (He.ga K "parse")) := T.gl (T.s.d.fact 26 (f := .glo "parse") rfl)
theorem Tx.r_parse (T : Tx K mg) : ∃ u, mg "parse" = some u ∧ RelV (.ref (He.ga K "parse")) u := ⟨_, T.g_parse, rfl⟩
theorem Tx.g_needs (T : Tx K mg) : mg "needs" = some (.ref (He.ga K "needs")) := T.gl (T.s.d.fact 27 (f := .glo "needs") rfl)
theorem Tx.r_needs (T : Tx K mg) : ∃ u, mg "needs" = some u ∧ RelV (.ref (He.ga K "needs")) u := ⟨_, T.g_needs, rfl⟩
theorem Tx.g_checked (T : Tx K mg) : mg "checked" = some (.ref (He.ga K "checked")) := T.gl (T.s.d.fact 28 (f := .glo "checked") rfl)
theorem Tx.r_checked (T : Tx K mg) : ∃ u, mg "checked" = some u ∧ RelV (.ref (He.ga K "checked")) u := ⟨_, T.g_checked, rfl⟩
theorem Tx.g_shown (T : Tx K mg) : mg "shown" = some (.ref (He.ga K "shown")) := T.gl (T.s.d.fact 29 (f := .glo "shown") rfl)
theorem Tx.r_shown (T : Tx K mg) : ∃ u, mg "shown" = some u ∧ RelV (.ref (He.ga K "shown")) u := ⟨_, T.g_shown, rfl⟩
theorem Tx.g_run (T : Tx K mg) : mg "run" = some (.ref (He.ga K "run")) := T.gl (T.s.d.fact 30 (f := .glo "run") rfl)
theorem Tx.r_run (T : Tx K mg) : ∃ u, mg "run" = some u ∧ RelV (.ref (He.ga K "run")) u := ⟨_, T.g_run, rfl⟩
theorem Tx.g_law_cell (T : Tx K mg) : mg "_law_cell" = some (.ref (He.ga K "_law_cell")) := T.gl (T.s.d.fact 31 (f := .glo "_law_cell") rfl)
theorem Tx.r_law_cell (T : Tx K mg) : ∃ u, mg "_law_cell" = some u ∧ RelV (.ref (He.ga K "_law_cell")) u := ⟨_, T.g_law_cell, rfl⟩
theorem Tx.g_law_numbers (T : Tx K mg) : mg "_law_numbers" = some (.ref (He.ga K "_law_numbers")) := T.gl (T.s.d.fact 32 (f := .glo "_law_numbers") rfl)
theorem Tx.r_law_numbers (T : Tx K mg) : ∃ u, mg "_law_numbers" = some u ∧ RelV (.ref (He.ga K "_law_numbers")) u := ⟨_, T.g_law_numbers, rfl⟩
theorem Tx.g_law_texts (T : Tx K mg) : mg "_law_texts" = some (.ref (He.ga K "_law_texts")) := T.gl (T.s.d.fact 33 (f := .glo "_law_texts") rfl)
theorem Tx.r_law_texts (T : Tx K mg) : ∃ u, mg "_law_texts" = some u ∧ RelV (.ref (He.ga K "_law_texts")) u := ⟨_, T.g_law_texts, rfl⟩
theorem Tx.g_law_walk (T : Tx K mg) : mg "_law_walk" = some (.ref (He.ga K "_law_walk")) := T.gl (T.s.d.fact 34 (f := .glo "_law_walk") rfl)
theorem Tx.r_law_walk (T : Tx K mg) : ∃ u, mg "_law_walk" = some u ∧ RelV (.ref (He.ga K "_law_walk")) u := ⟨_, T.g_law_walk, rfl⟩
theorem Tx.g_law_long (T : Tx K mg) : mg "_law_long" = some (.ref (He.ga K "_law_long")) := T.gl (T.s.d.fact 35 (f := .glo "_law_long") rfl)
theorem Tx.r_law_long (T : Tx K mg) : ∃ u, mg "_law_long" = some u ∧ RelV (.ref (He.ga K "_law_long")) u := ⟨_, T.g_law_long, rfl⟩
theorem Tx.g_law (T : Tx K mg) : mg "law" = some (.ref (He.ga K "law")) := T.gl (T.s.d.fact 36 (f := .glo "law") rfl)
theorem Tx.r_law (T : Tx K mg) : ∃ u, mg "law" = some u ∧ RelV (.ref (He.ga K "law")) u := ⟨_, T.g_law, rfl⟩
theorem Tx.g_Reader (T : Tx K mg) : mg "Reader" = some (.ref (He.ga K "Reader")) := T.gl (T.s.d.fact 37 (f := .glo "Reader") rfl)
theorem Tx.r_Reader (T : Tx K mg) : ∃ u, mg "Reader" = some u ∧ RelV (.ref (He.ga K "Reader")) u := ⟨_, T.g_Reader, rfl⟩
theorem Tx.g_Graph (T : Tx K mg) : mg "Graph" = some (.ref (He.ga K "Graph")) := T.gl (T.s.d.fact 38 (f := .glo "Graph") rfl)
theorem Tx.r_Graph (T : Tx K mg) : ∃ u, mg "Graph" = some u ∧ RelV (.ref (He.ga K "Graph")) u := ⟨_, T.g_Graph, rfl⟩
theorem Tx.g_Checker (T : Tx K mg) : mg "Checker" = some (.ref (He.ga K "Checker")) := T.gl (T.s.d.fact 39 (f := .glo "Checker") rfl)
theorem Tx.r_Checker (T : Tx K mg) : ∃ u, mg "Checker" = some u ∧ RelV (.ref (He.ga K "Checker")) u := ⟨_, T.g_Checker, rfl⟩
theorem Tx.g_Run (T : Tx K mg) : mg "Run" = some (.ref (He.ga K "Run")) := T.gl (T.s.d.fact 40 (f := .glo "Run") rfl)
theorem Tx.r_Run (T : Tx K mg) : ∃ u, mg "Run" = some u ∧ RelV (.ref (He.ga K "Run")) u := ⟨_, T.g_Run, rfl⟩
theorem Tx.g_Oversized (T : Tx K mg) : mg "Oversized" = some (.ref (He.ga K "Oversized")) := T.gl (T.s.d.fact 41 (f := .glo "Oversized") rfl)
theorem Tx.r_Oversized (T : Tx K mg) : ∃ u, mg "Oversized" = some u ∧ RelV (.ref (He.ga K "Oversized")) u := ⟨_, T.g_Oversized, rfl⟩
theorem Tx.g_NoModule (T : Tx K mg) : mg "NoModule" = some (.ref (He.ga K "NoModule")) := T.gl (T.s.d.fact 42 (f := .glo "NoModule") rfl)
theorem Tx.r_NoModule (T : Tx K mg) : ∃ u, mg "NoModule" = some u ∧ RelV (.ref (He.ga K "NoModule")) u := ⟨_, T.g_NoModule, rfl⟩
theorem Tx.g_Thrown (T : Tx K mg) : mg "Thrown" = some (.ref (He.ga K "Thrown")) := T.gl (T.s.d.fact 43 (f := .glo "Thrown") rfl)
theorem Tx.r_Thrown (T : Tx K mg) : ∃ u, mg "Thrown" = some u ∧ RelV (.ref (He.ga K "Thrown")) u := ⟨_, T.g_Thrown, rfl⟩
theorem Tx.g_Weary (T : Tx K mg) : mg "Weary" = some (.ref (He.ga K "Weary")) := T.gl (T.s.d.fact 44 (f := .glo "Weary") rfl)
theorem Tx.r_Weary (T : Tx K mg) : ∃ u, mg "Weary" = some u ∧ RelV (.ref (He.ga K "Weary")) u := ⟨_, T.g_Weary, rfl⟩
theorem Tx.g_Function (T : Tx K mg) : mg "Function" = some (.ref (He.ga K "Function")) := T.gl (T.s.d.fact 45 (f := .glo "Function") rfl)
theorem Tx.r_Function (T : Tx K mg) : ∃ u, mg "Function" = some u ∧ RelV (.ref (He.ga K "Function")) u := ⟨_, T.g_Function, rfl⟩
theorem Tx.g_RESERVED (T : Tx K mg) : mg "RESERVED" = some (.ref (He.ga K "RESERVED")) := T.gl (T.s.d.fact 46 (f := .glo "RESERVED") rfl)
theorem Tx.r_RESERVED (T : Tx K mg) : ∃ u, mg "RESERVED" = some u ∧ RelV (.ref (He.ga K "RESERVED")) u := ⟨_, T.g_RESERVED, rfl⟩
theorem Tx.g_SIGNS (T : Tx K mg) : mg "SIGNS" = some (.ref (He.ga K "SIGNS")) := T.gl (T.s.d.fact 47 (f := .glo "SIGNS") rfl)
theorem Tx.r_SIGNS (T : Tx K mg) : ∃ u, mg "SIGNS" = some u ∧ RelV (.ref (He.ga K "SIGNS")) u := ⟨_, T.g_SIGNS, rfl⟩
theorem Tx.g_NEEDS (T : Tx K mg) : mg "NEEDS" = some (.ref (He.ga K "NEEDS")) := T.gl (T.s.d.fact 48 (f := .glo "NEEDS") rfl)
theorem Tx.r_NEEDS (T : Tx K mg) : ∃ u, mg "NEEDS" = some u ∧ RelV (.ref (He.ga K "NEEDS")) u := ⟨_, T.g_NEEDS, rfl⟩
theorem Tx.g_COMPARISONS (T : Tx K mg) : mg "COMPARISONS" = some (.ref (He.ga K "COMPARISONS")) := T.gl (T.s.d.fact 49 (f := .glo "COMPARISONS") rfl)
theorem Tx.r_COMPARISONS (T : Tx K mg) : ∃ u, mg "COMPARISONS" = some u ∧ RelV (.ref (He.ga K "COMPARISONS")) u := ⟨_, T.g_COMPARISONS, rfl⟩
theorem Tx.n_super (T : Tx K mg) : mg "super" = none := T.fr (T.s.d.fact 50 (f := .free "super") rfl)
theorem Tx.n_str (T : Tx K mg) : mg "str" = none := T.fr (T.s.d.fact 51 (f := .free "str") rfl)
theorem Tx.n_len (T : Tx K mg) : mg "len" = none := T.fr (T.s.d.fact 52 (f := .free "len") rfl)
theorem Tx.n_all (T : Tx K mg) : mg "all" = none := T.fr (T.s.d.fact 53 (f := .free "all") rfl)
theorem Tx.n_int (T : Tx K mg) : mg "int" = none := T.fr (T.s.d.fact 54 (f := .free "int") rfl)
theorem Tx.n_dict (T : Tx K mg) : mg "dict" = none := T.fr (T.s.d.fact 55 (f := .free "dict") rfl)
theorem Tx.n_list (T : Tx K mg) : mg "list" = none := T.fr (T.s.d.fact 56 (f := .free "list") rfl)
theorem Tx.n_tuple (T : Tx K mg) : mg "tuple" = none := T.fr (T.s.d.fact 57 (f := .free "tuple") rfl)
theorem Tx.n_sorted (T : Tx K mg) : mg "sorted" = none := T.fr (T.s.d.fact 58 (f := .free "sorted") rfl)
theorem Tx.n_set (T : Tx K mg) : mg "set" = none := T.fr (T.s.d.fact 59 (f := .free "set") rfl)
theorem Tx.n_isinstance (T : Tx K mg) : mg "isinstance" = none := T.fr (T.s.d.fact 60 (f := .free "isinstance") rfl)
theorem Tx.n_range (T : Tx K mg) : mg "range" = none := T.fr (T.s.d.fact 61 (f := .free "range") rfl)
theorem Tx.n_abs (T : Tx K mg) : mg "abs" = none := T.fr (T.s.d.fact 62 (f := .free "abs") rfl)
theorem Tx.n_reversed (T : Tx K mg) : mg "reversed" = none := T.fr (T.s.d.fact 63 (f := .free "reversed") rfl)
theorem Tx.n_max (T : Tx K mg) : mg "max" = none := T.fr (T.s.d.fact 64 (f := .free "max") rfl)
theorem Tx.i_MAX_TEXT (T : Tx K mg) : ∃ u, mg "MAX_TEXT" = some u ∧ RelV (.int 20000) u := T.it (T.s.d.fact 65 (f := .int "MAX_TEXT" 20000) rfl)
theorem Tx.i_MAX_NAME (T : Tx K mg) : ∃ u, mg "MAX_NAME" = some u ∧ RelV (.int 20) u := T.it (T.s.d.fact 66 (f := .int "MAX_NAME" 20) rfl)
theorem Tx.i_MAX_DEPTH (T : Tx K mg) : ∃ u, mg "MAX_DEPTH" = some u ∧ RelV (.int 12) u := T.it (T.s.d.fact 67 (f := .int "MAX_DEPTH" 12) rfl)
theorem Tx.i_MAX_MODULES (T : Tx K mg) : ∃ u, mg "MAX_MODULES" = some u ∧ RelV (.int 40) u := T.it (T.s.d.fact 68 (f := .int "MAX_MODULES" 40) rfl)
theorem Tx.i_SIZE (T : Tx K mg) : ∃ u, mg "SIZE" = some u ∧ RelV (.int 65536) u := T.it (T.s.d.fact 69 (f := .int "SIZE" 65536) rfl)
theorem Tx.i_BUDGET (T : Tx K mg) : ∃ u, mg "BUDGET" = some u ∧ RelV (.int 200) u := T.it (T.s.d.fact 70 (f := .int "BUDGET" 200) rfl)
theorem Tx.cl_Reader (T : Tx K mg) : Cls K (He.ga K "Reader") := He.cls_ok (T.s.d.fact 71 (f := .cls "Reader") rfl)
theorem Tx.mk_Reader (T : Tx K mg) : Mk K (He.ga K "Reader") (He.ma K (He.ga K "Reader") "__init__") := He.mkr_ok (T.s.d.fact 72 (f := .mkr "Reader") rfl)
theorem Tx.no_Reader_rest (T : Tx K mg) : NoAttr K (He.ga K "Reader") "rest" := He.noat_ok (T.s.d.fact 73 (f := .noat "Reader" "rest") rfl)
theorem Tx.no_Reader_module (T : Tx K mg) : NoAttr K (He.ga K "Reader") "module" := He.noat_ok (T.s.d.fact 74 (f := .noat "Reader" "module") rfl)
theorem Tx.no_Reader_place (T : Tx K mg) : NoAttr K (He.ga K "Reader") "place" := He.noat_ok (T.s.d.fact 75 (f := .noat "Reader" "place") rfl)
theorem Tx.no_Reader_limit (T : Tx K mg) : NoAttr K (He.ga K "Reader") "limit" := He.noat_ok (T.s.d.fact 76 (f := .noat "Reader" "limit") rfl)
theorem Tx.no_Reader_inside (T : Tx K mg) : NoAttr K (He.ga K "Reader") "inside" := He.noat_ok (T.s.d.fact 77 (f := .noat "Reader" "inside") rfl)
theorem Tx.me_Reader_at (T : Tx K mg) : Meth K (He.ga K "Reader") "at" (He.ma K (He.ga K "Reader") "at") := He.meth_ok (T.s.d.fact 78 (f := .meth "Reader" "at") rfl)
theorem Tx.me_Reader_sees (T : Tx K mg) : Meth K (He.ga K "Reader") "sees" (He.ma K (He.ga K "Reader") "sees") := He.meth_ok (T.s.d.fact 79 (f := .meth "Reader" "sees") rfl)
theorem Tx.me_Reader_sees_kind (T : Tx K mg) : Meth K (He.ga K "Reader") "sees_kind" (He.ma K (He.ga K "Reader") "sees_kind") := He.meth_ok (T.s.d.fact 80 (f := .meth "Reader" "sees_kind") rfl)
theorem Tx.me_Reader_accept (T : Tx K mg) : Meth K (He.ga K "Reader") "accept" (He.ma K (He.ga K "Reader") "accept") := He.meth_ok (T.s.d.fact 81 (f := .meth "Reader" "accept") rfl)
theorem Tx.me_Reader_expect (T : Tx K mg) : Meth K (He.ga K "Reader") "expect" (He.ma K (He.ga K "Reader") "expect") := He.meth_ok (T.s.d.fact 82 (f := .meth "Reader" "expect") rfl)
theorem Tx.me_Reader_read (T : Tx K mg) : Meth K (He.ga K "Reader") "read" (He.ma K (He.ga K "Reader") "read") := He.meth_ok (T.s.d.fact 83 (f := .meth "Reader" "read") rfl)
theorem Tx.cl_Graph (T : Tx K mg) : Cls K (He.ga K "Graph") := He.cls_ok (T.s.d.fact 84 (f := .cls "Graph") rfl)
theorem Tx.mk_Graph (T : Tx K mg) : Mk K (He.ga K "Graph") (He.ma K (He.ga K "Graph") "__init__") := He.mkr_ok (T.s.d.fact 85 (f := .mkr "Graph") rfl)
theorem Tx.no_Graph_entry (T : Tx K mg) : NoAttr K (He.ga K "Graph") "entry" := He.noat_ok (T.s.d.fact 86 (f := .noat "Graph" "entry") rfl)
theorem Tx.no_Graph_texts (T : Tx K mg) : NoAttr K (He.ga K "Graph") "_texts" := He.noat_ok (T.s.d.fact 87 (f := .noat "Graph" "_texts") rfl)
theorem Tx.no_Graph_items (T : Tx K mg) : NoAttr K (He.ga K "Graph") "_items" := He.noat_ok (T.s.d.fact 88 (f := .noat "Graph" "_items") rfl)
theorem Tx.no_Graph_order (T : Tx K mg) : NoAttr K (He.ga K "Graph") "_order" := He.noat_ok (T.s.d.fact 89 (f := .noat "Graph" "_order") rfl)
theorem Tx.me_Graph_reach (T : Tx K mg) : Meth K (He.ga K "Graph") "_reach" (He.ma K (He.ga K "Graph") "_reach") := He.meth_ok (T.s.d.fact 90 (f := .meth "Graph" "_reach") rfl)
theorem Tx.me_Graph_order (T : Tx K mg) : Meth K (He.ga K "Graph") "order" (He.ma K (He.ga K "Graph") "order") := He.meth_ok (T.s.d.fact 91 (f := .meth "Graph" "order") rfl)
theorem Tx.me_Graph_module_items (T : Tx K mg) : Meth K (He.ga K "Graph") "module_items" (He.ma K (He.ga K "Graph") "module_items") := He.meth_ok (T.s.d.fact 92 (f := .meth "Graph" "module_items") rfl)
theorem Tx.me_Graph_told_names (T : Tx K mg) : Meth K (He.ga K "Graph") "told_names" (He.ma K (He.ga K "Graph") "told_names") := He.meth_ok (T.s.d.fact 93 (f := .meth "Graph" "told_names") rfl)
theorem Tx.me_Graph_exports (T : Tx K mg) : Meth K (He.ga K "Graph") "exports" (He.ma K (He.ga K "Graph") "exports") := He.meth_ok (T.s.d.fact 94 (f := .meth "Graph" "exports") rfl)
theorem Tx.cl_Checker (T : Tx K mg) : Cls K (He.ga K "Checker") := He.cls_ok (T.s.d.fact 95 (f := .cls "Checker") rfl)
theorem Tx.mk_Checker (T : Tx K mg) : Mk K (He.ga K "Checker") (He.ma K (He.ga K "Checker") "__init__") := He.mkr_ok (T.s.d.fact 96 (f := .mkr "Checker") rfl)
theorem Tx.no_Checker_graph (T : Tx K mg) : NoAttr K (He.ga K "Checker") "graph" := He.noat_ok (T.s.d.fact 97 (f := .noat "Checker" "graph") rfl)
theorem Tx.no_Checker_module (T : Tx K mg) : NoAttr K (He.ga K "Checker") "module" := He.noat_ok (T.s.d.fact 98 (f := .noat "Checker" "module") rfl)
theorem Tx.no_Checker_scopes (T : Tx K mg) : NoAttr K (He.ga K "Checker") "scopes" := He.noat_ok (T.s.d.fact 99 (f := .noat "Checker" "scopes") rfl)
theorem Tx.me_Checker_declare (T : Tx K mg) : Meth K (He.ga K "Checker") "declare" (He.ma K (He.ga K "Checker") "declare") := He.meth_ok (T.s.d.fact 100 (f := .meth "Checker" "declare") rfl)
theorem Tx.me_Checker_top (T : Tx K mg) : Meth K (He.ga K "Checker") "top" (He.ma K (He.ga K "Checker") "top") := He.meth_ok (T.s.d.fact 101 (f := .meth "Checker" "top") rfl)
theorem Tx.me_Checker_exports (T : Tx K mg) : Meth K (He.ga K "Checker") "exports" (He.ma K (He.ga K "Checker") "exports") := He.meth_ok (T.s.d.fact 102 (f := .meth "Checker" "exports") rfl)
theorem Tx.me_Checker_imports (T : Tx K mg) : Meth K (He.ga K "Checker") "imports" (He.ma K (He.ga K "Checker") "imports") := He.meth_ok (T.s.d.fact 103 (f := .meth "Checker" "imports") rfl)
theorem Tx.me_Checker_expression (T : Tx K mg) : Meth K (He.ga K "Checker") "expression" (He.ma K (He.ga K "Checker") "expression") := He.meth_ok (T.s.d.fact 104 (f := .meth "Checker" "expression") rfl)
theorem Tx.me_Checker_statement (T : Tx K mg) : Meth K (He.ga K "Checker") "statement" (He.ma K (He.ga K "Checker") "statement") := He.meth_ok (T.s.d.fact 105 (f := .meth "Checker" "statement") rfl)
theorem Tx.me_Checker_whole (T : Tx K mg) : Meth K (He.ga K "Checker") "whole" (He.ma K (He.ga K "Checker") "whole") := He.meth_ok (T.s.d.fact 106 (f := .meth "Checker" "whole") rfl)
theorem Tx.cl_Run (T : Tx K mg) : Cls K (He.ga K "Run") := He.cls_ok (T.s.d.fact 107 (f := .cls "Run") rfl)
theorem Tx.mk_Run (T : Tx K mg) : Mk K (He.ga K "Run") (He.ma K (He.ga K "Run") "__init__") := He.mkr_ok (T.s.d.fact 108 (f := .mkr "Run") rfl)
theorem Tx.no_Run_graph (T : Tx K mg) : NoAttr K (He.ga K "Run") "graph" := He.noat_ok (T.s.d.fact 109 (f := .noat "Run" "graph") rfl)
theorem Tx.no_Run_answers (T : Tx K mg) : NoAttr K (He.ga K "Run") "answers" := He.noat_ok (T.s.d.fact 110 (f := .noat "Run" "answers") rfl)
theorem Tx.no_Run_asked (T : Tx K mg) : NoAttr K (He.ga K "Run") "asked" := He.noat_ok (T.s.d.fact 111 (f := .noat "Run" "asked") rfl)
theorem Tx.no_Run_events (T : Tx K mg) : NoAttr K (He.ga K "Run") "events" := He.noat_ok (T.s.d.fact 112 (f := .noat "Run" "events") rfl)
theorem Tx.no_Run_budget (T : Tx K mg) : NoAttr K (He.ga K "Run") "budget" := He.noat_ok (T.s.d.fact 113 (f := .noat "Run" "budget") rfl)
theorem Tx.no_Run_depth (T : Tx K mg) : NoAttr K (He.ga K "Run") "depth" := He.noat_ok (T.s.d.fact 114 (f := .noat "Run" "depth") rfl)
theorem Tx.no_Run_tops (T : Tx K mg) : NoAttr K (He.ga K "Run") "tops" := He.noat_ok (T.s.d.fact 115 (f := .noat "Run" "tops") rfl)
theorem Tx.me_Run_opened (T : Tx K mg) : Meth K (He.ga K "Run") "opened" (He.ma K (He.ga K "Run") "opened") := He.meth_ok (T.s.d.fact 116 (f := .meth "Run" "opened") rfl)
theorem Tx.me_Run_evaluate (T : Tx K mg) : Meth K (He.ga K "Run") "evaluate" (He.ma K (He.ga K "Run") "evaluate") := He.meth_ok (T.s.d.fact 117 (f := .meth "Run" "evaluate") rfl)
theorem Tx.me_Run_statements (T : Tx K mg) : Meth K (He.ga K "Run") "statements" (He.ma K (He.ga K "Run") "statements") := He.meth_ok (T.s.d.fact 118 (f := .meth "Run" "statements") rfl)
theorem Tx.me_Run_statement (T : Tx K mg) : Meth K (He.ga K "Run") "statement" (He.ma K (He.ga K "Run") "statement") := He.meth_ok (T.s.d.fact 119 (f := .meth "Run" "statement") rfl)
theorem Tx.me_Run_simple (T : Tx K mg) : Meth K (He.ga K "Run") "simple" (He.ma K (He.ga K "Run") "simple") := He.meth_ok (T.s.d.fact 120 (f := .meth "Run" "simple") rfl)
theorem Tx.me_Run_whole (T : Tx K mg) : Meth K (He.ga K "Run") "whole" (He.ma K (He.ga K "Run") "whole") := He.meth_ok (T.s.d.fact 121 (f := .meth "Run" "whole") rfl)
theorem Tx.me_Run_exports (T : Tx K mg) : Meth K (He.ga K "Run") "exports" (He.ma K (He.ga K "Run") "exports") := He.meth_ok (T.s.d.fact 122 (f := .meth "Run" "exports") rfl)
theorem Tx.F_is_letter (T : Tx K mg) : DefAt K d_is_letter (He.ga K "is_letter") := T.s.d.def_ 0 rfl
theorem Tx.F_is_digit (T : Tx K mg) : DefAt K d_is_digit (He.ga K "is_digit") := T.s.d.def_ 1 rfl
theorem Tx.F_in_name (T : Tx K mg) : DefAt K d_in_name (He.ga K "in_name") := T.s.d.def_ 2 rfl
theorem Tx.F_run_end (T : Tx K mg) : DefAt K d_run_end (He.ga K "run_end") := T.s.d.def_ 3 rfl
theorem Tx.F_read_word (T : Tx K mg) : DefAt K d_read_word (He.ga K "read_word") := T.s.d.def_ 4 rfl
theorem Tx.F_read_number (T : Tx K mg) : DefAt K d_read_number (He.ga K "read_number") := T.s.d.def_ 5 rfl
theorem Tx.F_read_string (T : Tx K mg) : DefAt K d_read_string (He.ga K "read_string") := T.s.d.def_ 6 rfl
theorem Tx.F_read_sign (T : Tx K mg) : DefAt K d_read_sign (He.ga K "read_sign") := T.s.d.def_ 7 rfl
theorem Tx.F_read_token (T : Tx K mg) : DefAt K d_read_token (He.ga K "read_token") := T.s.d.def_ 8 rfl
theorem Tx.F_tokens (T : Tx K mg) : DefAt K d_tokens (He.ga K "tokens") := T.s.d.def_ 9 rfl
theorem Tx.F_read_primary (T : Tx K mg) : DefAt K d_read_primary (He.ga K "read_primary") := T.s.d.def_ 10 rfl
theorem Tx.F_read_call (T : Tx K mg) : DefAt K d_read_call (He.ga K "read_call") := T.s.d.def_ 11 rfl
theorem Tx.F_read_product (T : Tx K mg) : DefAt K d_read_product (He.ga K "read_product") := T.s.d.def_ 12 rfl
theorem Tx.F_read_sum (T : Tx K mg) : DefAt K d_read_sum (He.ga K "read_sum") := T.s.d.def_ 13 rfl
theorem Tx.F_read_plain (T : Tx K mg) : DefAt K d_read_plain (He.ga K "read_plain") := T.s.d.def_ 14 rfl
theorem Tx.F_read_both (T : Tx K mg) : DefAt K d_read_both (He.ga K "read_both") := T.s.d.def_ 15 rfl
theorem Tx.F_read_expression (T : Tx K mg) : DefAt K d_read_expression (He.ga K "read_expression") := T.s.d.def_ 16 rfl
theorem Tx.F_read_compound (T : Tx K mg) : DefAt K d_read_compound (He.ga K "read_compound") := T.s.d.def_ 17 rfl
theorem Tx.F_read_simple (T : Tx K mg) : DefAt K d_read_simple (He.ga K "read_simple") := T.s.d.def_ 18 rfl
theorem Tx.F_read_statement (T : Tx K mg) : DefAt K d_read_statement (He.ga K "read_statement") := T.s.d.def_ 19 rfl
theorem Tx.F_read_pairs (T : Tx K mg) : DefAt K d_read_pairs (He.ga K "read_pairs") := T.s.d.def_ 20 rfl
theorem Tx.F_read_from (T : Tx K mg) : DefAt K d_read_from (He.ga K "read_from") := T.s.d.def_ 21 rfl
theorem Tx.F_read_import (T : Tx K mg) : DefAt K d_read_import (He.ga K "read_import") := T.s.d.def_ 22 rfl
theorem Tx.F_read_export (T : Tx K mg) : DefAt K d_read_export (He.ga K "read_export") := T.s.d.def_ 23 rfl
theorem Tx.F_expression_depth (T : Tx K mg) : DefAt K d_expression_depth (He.ga K "expression_depth") := T.s.d.def_ 24 rfl
theorem Tx.F_depth (T : Tx K mg) : DefAt K d_depth (He.ga K "depth") := T.s.d.def_ 25 rfl
theorem Tx.F_parse (T : Tx K mg) : DefAt K d_parse (He.ga K "parse") := T.s.d.def_ 26 rfl
theorem Tx.F_needs (T : Tx K mg) : DefAt K d_needs (He.ga K "needs") := T.s.d.def_ 27 rfl
theorem Tx.F_checked (T : Tx K mg) : DefAt K d_checked (He.ga K "checked") := T.s.d.def_ 28 rfl
theorem Tx.F_shown (T : Tx K mg) : DefAt K d_shown (He.ga K "shown") := T.s.d.def_ 29 rfl
theorem Tx.F_run (T : Tx K mg) : DefAt K d_run (He.ga K "run") := T.s.d.def_ 30 rfl
theorem Tx.F_law_cell (T : Tx K mg) : DefAt K d_law_cell (He.ga K "_law_cell") := T.s.d.def_ 31 rfl
theorem Tx.F_law_numbers (T : Tx K mg) : DefAt K d_law_numbers (He.ga K "_law_numbers") := T.s.d.def_ 32 rfl
theorem Tx.F_law_texts (T : Tx K mg) : DefAt K d_law_texts (He.ga K "_law_texts") := T.s.d.def_ 33 rfl
theorem Tx.F_law_walk (T : Tx K mg) : DefAt K d_law_walk (He.ga K "_law_walk") := T.s.d.def_ 34 rfl
theorem Tx.F_law_long (T : Tx K mg) : DefAt K d_law_long (He.ga K "_law_long") := T.s.d.def_ 35 rfl
theorem Tx.F_law (T : Tx K mg) : DefAt K d_law (He.ga K "law") := T.s.d.def_ 36 rfl
theorem Tx.F_Reader_init (T : Tx K mg) : DefAt K d_Reader_init (He.ma K (He.ga K "Reader") "__init__") := T.s.d.def_ 37 rfl
theorem Tx.F_Reader_at (T : Tx K mg) : DefAt K d_Reader_at (He.ma K (He.ga K "Reader") "at") := T.s.d.def_ 38 rfl
theorem Tx.F_Reader_sees (T : Tx K mg) : DefAt K d_Reader_sees (He.ma K (He.ga K "Reader") "sees") := T.s.d.def_ 39 rfl
theorem Tx.F_Reader_sees_kind (T : Tx K mg) : DefAt K d_Reader_sees_kind (He.ma K (He.ga K "Reader") "sees_kind") := T.s.d.def_ 40 rfl
theorem Tx.F_Reader_accept (T : Tx K mg) : DefAt K d_Reader_accept (He.ma K (He.ga K "Reader") "accept") := T.s.d.def_ 41 rfl
theorem Tx.F_Reader_expect (T : Tx K mg) : DefAt K d_Reader_expect (He.ma K (He.ga K "Reader") "expect") := T.s.d.def_ 42 rfl
theorem Tx.F_Reader_read (T : Tx K mg) : DefAt K d_Reader_read (He.ma K (He.ga K "Reader") "read") := T.s.d.def_ 43 rfl
theorem Tx.F_Graph_init (T : Tx K mg) : DefAt K d_Graph_init (He.ma K (He.ga K "Graph") "__init__") := T.s.d.def_ 44 rfl
theorem Tx.F_Graph_reach (T : Tx K mg) : DefAt K d_Graph_reach (He.ma K (He.ga K "Graph") "_reach") := T.s.d.def_ 45 rfl
theorem Tx.F_Graph_order (T : Tx K mg) : DefAt K d_Graph_order (He.ma K (He.ga K "Graph") "order") := T.s.d.def_ 46 rfl
theorem Tx.F_Graph_module_items (T : Tx K mg) : DefAt K d_Graph_module_items (He.ma K (He.ga K "Graph") "module_items") := T.s.d.def_ 47 rfl
theorem Tx.F_Graph_told_names (T : Tx K mg) : DefAt K d_Graph_told_names (He.ma K (He.ga K "Graph") "told_names") := T.s.d.def_ 48 rfl
theorem Tx.F_Graph_exports (T : Tx K mg) : DefAt K d_Graph_exports (He.ma K (He.ga K "Graph") "exports") := T.s.d.def_ 49 rfl
theorem Tx.F_Checker_init (T : Tx K mg) : DefAt K d_Checker_init (He.ma K (He.ga K "Checker") "__init__") := T.s.d.def_ 50 rfl
theorem Tx.F_Checker_declare (T : Tx K mg) : DefAt K d_Checker_declare (He.ma K (He.ga K "Checker") "declare") := T.s.d.def_ 51 rfl
theorem Tx.F_Checker_top (T : Tx K mg) : DefAt K d_Checker_top (He.ma K (He.ga K "Checker") "top") := T.s.d.def_ 52 rfl
theorem Tx.F_Checker_exports (T : Tx K mg) : DefAt K d_Checker_exports (He.ma K (He.ga K "Checker") "exports") := T.s.d.def_ 53 rfl
theorem Tx.F_Checker_imports (T : Tx K mg) : DefAt K d_Checker_imports (He.ma K (He.ga K "Checker") "imports") := T.s.d.def_ 54 rfl
theorem Tx.F_Checker_expression (T : Tx K mg) : DefAt K d_Checker_expression (He.ma K (He.ga K "Checker") "expression") := T.s.d.def_ 55 rfl
theorem Tx.F_Checker_statement (T : Tx K mg) : DefAt K d_Checker_statement (He.ma K (He.ga K "Checker") "statement") := T.s.d.def_ 56 rfl
theorem Tx.F_Checker_whole (T : Tx K mg) : DefAt K d_Checker_whole (He.ma K (He.ga K "Checker") "whole") := T.s.d.def_ 57 rfl
theorem Tx.F_Run_init (T : Tx K mg) : DefAt K d_Run_init (He.ma K (He.ga K "Run") "__init__") := T.s.d.def_ 58 rfl
theorem Tx.F_Run_opened (T : Tx K mg) : DefAt K d_Run_opened (He.ma K (He.ga K "Run") "opened") := T.s.d.def_ 59 rfl
theorem Tx.F_Run_evaluate (T : Tx K mg) : DefAt K d_Run_evaluate (He.ma K (He.ga K "Run") "evaluate") := T.s.d.def_ 60 rfl
theorem Tx.F_Run_statements (T : Tx K mg) : DefAt K d_Run_statements (He.ma K (He.ga K "Run") "statements") := T.s.d.def_ 61 rfl
theorem Tx.F_Run_statement (T : Tx K mg) : DefAt K d_Run_statement (He.ma K (He.ga K "Run") "statement") := T.s.d.def_ 62 rfl
theorem Tx.F_Run_simple (T : Tx K mg) : DefAt K d_Run_simple (He.ma K (He.ga K "Run") "simple") := T.s.d.def_ 63 rfl
theorem Tx.F_Run_whole (T : Tx K mg) : DefAt K d_Run_whole (He.ma K (He.ga K "Run") "whole") := T.s.d.def_ 64 rfl
theorem Tx.F_Run_exports (T : Tx K mg) : DefAt K d_Run_exports (He.ma K (He.ga K "Run") "exports") := T.s.d.def_ 65 rfl
end
end K5
set_option maxHeartbeats 0
namespace K5
open PySem PySem.Spec PyProof.Rows L2
/-! the head: the top is run in the kernel, once for each answer of a row of the world -/
theorem run0 (w : World) : HandSHeadRun.RunEq R (PySem.W.view R.prog [86]) hk ob 20000 names (w.withFollow "special-get-raises" false) := by
  intro os
  kernel_rfl
theorem run1 (w : World) : HandSHeadRun.RunEq R (PySem.W.view R.prog [86]) hk ob 20000 names (w.withFollow "special-get-raises" true) := by
  intro os
  kernel_rfl
theorem run (w : World) : HandSHeadRun.RunEq R (PySem.W.view R.prog [86]) hk ob 20000 names w := PySem.W.byRow2 "special-get-raises" (P := fun w => HandSHeadRun.RunEq R (PySem.W.view R.prog [86]) hk ob 20000 names w) run0 run1 w
end K5
open PySem PySem.W PySem.Calls PyProof.Rows in
/-- the law from the walk of its call -/
theorem K5.law_of (call : WalkO (view K5.R.prog [86]) K5.names (XL (view K5.R.prog [86]) []) K5.hk.says K5.R.toRowW (HandSHeadRun.topDef K5.R.prog 86) [] fun f vs => PySem.call f vs) : PySem.Challenge.rw_fascicle_k05_order_and_needs.Holds := by
  w_on; o_law
  refine HandSHeadRun.head_any (r := K5.R) (q := view K5.R.prog [86]) (H := K5.hk) (ob := K5.ob) (M := 20000) (loose := K5.names) (d := HandSHeadRun.topDef K5.R.prog 86) (kwd := []) K5.ob_eq
    (by kernel_rfl) (fun s => by kernel_rfl) K5.run (by kernel_rfl) (by kernel_rfl) (by kernel_rfl) (by rfl) (by first | assumption | decide +kernel) (by decide +kernel) ⟨rfl, rfl, rfl, rfl, rfl, by decide +kernel⟩ ?hw call
  case hw => w_witness2
theorem K5.law_name : (HandSHeadRun.topDef K5.R.prog 86).name = ("law" : PySem.Str) := by kernel_rfl
theorem K5.law_nodef : (HandSHeadRun.topDef K5.R.prog 86).params.defaults = [] := by kernel_rfl
set_option maxHeartbeats 4000000
namespace K5
open PySem PySem.Spec PyProof.Rows L2
/-! readings, one step each -/
section
variable {D : Ends} {σ : L2.St} {H : Hp} {Q : VK} {QB : Bool → Hp → Prop} {QA : List V → Hp → Prop} {QS : L2.St → Hp → Prop} {QO : Option Int → Hp → Prop} {t u : TS} {ta tb te : TE} {tt tu : TT} {tr : TA} {to tl th : TO} {g : TG} {i j : Nat} {v x y : V} {r : R2} {K : PySem.W.Frag} {A B : Prop} {b : Bool}
  {rc : List V → Hp → VK → Prop} {sp : Sp} {E : XK} {C : Addr} {m f : Str}
theorem rd_seq (h : t { D with nx := u D } σ H) : tSeq t u D σ H := h
theorem rd_asg (h : te σ H fun x H1 => g x σ H1 D.nx) : tAsg te g D σ H := h
theorem rd_g0 {a0 : Option V} (h : QS (some v :: σ) H) : gName 0 v (a0 :: σ) H QS := h
theorem rd_g1 {a0 a1 : Option V} (h : QS (a0 :: some v :: σ) H) : gName 1 v (a0 :: a1 :: σ) H QS := h
theorem rd_g2 {a0 a1 a2 : Option V} (h : QS (a0 :: a1 :: some v :: σ) H) : gName 2 v (a0 :: a1 :: a2 :: σ) H QS := h
theorem rd_g3 {a0 a1 a2 a3 : Option V} (h : QS (a0 :: a1 :: a2 :: some v :: σ) H) : gName 3 v (a0 :: a1 :: a2 :: a3 :: σ) H QS := h
theorem rd_g4 {a0 a1 a2 a3 a4 : Option V} (h : QS (a0 :: a1 :: a2 :: a3 :: some v :: σ) H) : gName 4 v (a0 :: a1 :: a2 :: a3 :: a4 :: σ) H QS := h
theorem rd_g5 {a0 a1 a2 a3 a4 a5 : Option V} (h : QS (a0 :: a1 :: a2 :: a3 :: a4 :: some v :: σ) H) : gName 5 v (a0 :: a1 :: a2 :: a3 :: a4 :: a5 :: σ) H QS := h
theorem rd_g6 {a0 a1 a2 a3 a4 a5 a6 : Option V} (h : QS (a0 :: a1 :: a2 :: a3 :: a4 :: a5 :: some v :: σ) H) : gName 6 v (a0 :: a1 :: a2 :: a3 :: a4 :: a5 :: a6 :: σ) H QS := h
theorem rd_g7 {a0 a1 a2 a3 a4 a5 a6 a7 : Option V} (h : QS (a0 :: a1 :: a2 :: a3 :: a4 :: a5 :: a6 :: some v :: σ) H) : gName 7 v (a0 :: a1 :: a2 :: a3 :: a4 :: a5 :: a6 :: a7 :: σ) H QS := h
theorem rd_g8 {a0 a1 a2 a3 a4 a5 a6 a7 a8 : Option V} (h : QS (a0 :: a1 :: a2 :: a3 :: a4 :: a5 :: a6 :: a7 :: some v :: σ) H) : gName 8 v (a0 :: a1 :: a2 :: a3 :: a4 :: a5 :: a6 :: a7 :: a8 :: σ) H QS := h
theorem rd_g9 {a0 a1 a2 a3 a4 a5 a6 a7 a8 a9 : Option V} (h : QS (a0 :: a1 :: a2 :: a3 :: a4 :: a5 :: a6 :: a7 :: a8 :: some v :: σ) H) : gName 9 v (a0 :: a1 :: a2 :: a3 :: a4 :: a5 :: a6 :: a7 :: a8 :: a9 :: σ) H QS := h
theorem rd_var (e : σ[i]? = some (some v)) (h : Q v H) : tVar i σ H Q := ⟨v, e, h⟩
theorem rd_v0 {v0 : V} (h : Q v0 H) : tVar 0 (some v0 :: σ) H Q := ⟨_, rfl, h⟩
theorem rd_v1 {a0 : Option V} (h : Q v H) : tVar 1 (a0 :: some v :: σ) H Q := ⟨_, rfl, h⟩
theorem rd_v2 {a0 a1 : Option V} (h : Q v H) : tVar 2 (a0 :: a1 :: some v :: σ) H Q := ⟨_, rfl, h⟩
theorem rd_v3 {a0 a1 a2 : Option V} (h : Q v H) : tVar 3 (a0 :: a1 :: a2 :: some v :: σ) H Q := ⟨_, rfl, h⟩
theorem rd_v4 {a0 a1 a2 a3 : Option V} (h : Q v H) : tVar 4 (a0 :: a1 :: a2 :: a3 :: some v :: σ) H Q := ⟨_, rfl, h⟩
theorem rd_v5 {a0 a1 a2 a3 a4 : Option V} (h : Q v H) : tVar 5 (a0 :: a1 :: a2 :: a3 :: a4 :: some v :: σ) H Q := ⟨_, rfl, h⟩
theorem rd_v6 {a0 a1 a2 a3 a4 a5 : Option V} (h : Q v H) : tVar 6 (a0 :: a1 :: a2 :: a3 :: a4 :: a5 :: some v :: σ) H Q := ⟨_, rfl, h⟩
theorem rd_v7 {a0 a1 a2 a3 a4 a5 a6 : Option V} (h : Q v H) : tVar 7 (a0 :: a1 :: a2 :: a3 :: a4 :: a5 :: a6 :: some v :: σ) H Q := ⟨_, rfl, h⟩
theorem rd_v8 {a0 a1 a2 a3 a4 a5 a6 a7 : Option V} (h : Q v H) : tVar 8 (a0 :: a1 :: a2 :: a3 :: a4 :: a5 :: a6 :: a7 :: some v :: σ) H Q := ⟨_, rfl, h⟩
theorem rd_v9 {a0 a1 a2 a3 a4 a5 a6 a7 a8 : Option V} (h : Q v H) : tVar 9 (a0 :: a1 :: a2 :: a3 :: a4 :: a5 :: a6 :: a7 :: a8 :: some v :: σ) H Q := ⟨_, rfl, h⟩
theorem rd_c (h : Q v H) : tC v σ H Q := h
theorem rd_op (h : ta σ H fun x H1 => tb σ H1 fun y H2 => r x y H2 Q) : tOp r ta tb σ H Q := h
theorem rd_I0 {gg : Int → Int → V} {a c : Int} (h : Q (gg a c) H) : rI0 gg (.int a) (.int c) H Q := ⟨a, c, rfl, rfl, h⟩
theorem rd_I {cc : Int → Int → Prop} {gg : Int → Int → V} {a c : Int} (hc : cc a c) (h : Q (gg a c) H) : rI cc gg (.int a) (.int c) H Q := ⟨a, c, rfl, rfl, hc, h⟩
theorem rd_eq (e : scal x y = true) (h : Q (.bl (decide (x = y))) H) : rEq x y H Q := ⟨e, h⟩
theorem rd_ne (e : scal x y = true) (h : Q (.bl (!decide (x = y))) H) : rNe x y H Q := ⟨e, h⟩
theorem rd_test (h : te σ H fun x H' => ∃ k, x = .bl k ∧ QB k H') : tTest te σ H QB := h
theorem rd_B (h : te σ H fun x H' => ∃ k, x = .bl k ∧ QB k H') : tB te σ H QB := h
theorem rd_bl {PB : Bool → Prop} (h : PB b) : ∃ k, V.bl b = .bl k ∧ PB k := ⟨b, rfl, h⟩
theorem rd_ifS (h : tt σ H fun b H1 => if b = true then t D σ H1 else u D σ H1) : tIfS tt t u D σ H := h
theorem rd_T (h : A) : if true = true then A else B := by
  rw [if_pos rfl]
  exact h
theorem rd_F (h : B) : if false = true then A else B := by
  rw [if_neg Bool.false_ne_true]
  exact h
theorem rd_isN (h : ta σ H fun x H1 => Q (.bl (decide (x = .non))) H1) : tIsN ta σ H Q := h
theorem rd_notN (h : ta σ H fun x H1 => Q (.bl (!decide (x = .non))) H1) : tNotN ta σ H Q := h
theorem rd_nT (h : B) : if (!true) = true then A else B := rd_F h
theorem rd_nF (h : A) : if (!false) = true then A else B := rd_T h
theorem rd_is (b' : Bool) (e : b = b') (h : if b' = true then A else B) : if b = true then A else B := by
  rw [e]
  exact h
theorem rd_two (h1 : b = true → A) (h2 : b = false → B) : if b = true then A else B := by
  cases b with
  | true => exact rd_T (h1 rfl)
  | false => exact rd_F (h2 rfl)
theorem rd_and (h : tt σ H fun c H1 => if c = true then tu σ H1 QB else QB false H1) : tAnd tt tu σ H QB := h
theorem rd_or (h : tt σ H fun c H1 => if c = true then QB true H1 else tu σ H1 QB) : tOr tt tu σ H QB := h
theorem rd_not (h : tt σ H fun c H1 => QB (!c) H1) : tNot tt σ H QB := h
theorem rd_ret (h : te σ H D.rt) : tRet te D σ H := h
theorem rd_yes (h : QB true H) : tYes σ H QB := h
theorem rd_retN (h : D.rt .non H) : tRetN D σ H := h
theorem rd_next (h : D.nx σ H) : tNext D σ H := h
theorem rd_drop (h : te σ H fun _ H1 => D.nx σ H1) : tDrop te D σ H := h
theorem rd_nil (h : QA [] H) : tNil σ H QA := h
theorem rd_cons (h : ta σ H fun x H1 => tr σ H1 fun xs H2 => QA (x :: xs) H2) : tCons ta tr σ H QA := h
theorem rd_call (h : tr σ H fun vs H1 => sp vs H1 Q E) : tCall sp [] E tr σ H Q := by
  show tr σ H fun vs H1 => sp (vs ++ []) H1 Q E
  simp only [List.append_nil]
  exact h
theorem rd_meth (h : ta σ H fun x H1 => ∃ a dx fs, x = .ref a ∧ H1 a = some (.ins C dx fs) ∧ fs.lookup m = none ∧ tr σ H1 fun vs H2 => sp (x :: vs) H2 Q E) : tMeth C m sp [] E ta tr σ H Q := by
  show ta σ H fun x H1 => ∃ a dx fs, x = .ref a ∧ H1 a = some (.ins C dx fs) ∧ fs.lookup m = none ∧ tr σ H1 fun vs H2 => sp (x :: (vs ++ [])) H2 Q E
  simp only [List.append_nil]
  exact h
theorem rd_make (h : tr σ H fun vs H1 => ∀ x dx, H1 x = none → H1 dx = none → dx ≠ x → sp (.ref x :: vs) (upd (upd H1 dx (.own x)) x (.ins C dx [])) (fun v H2 => v = .non ∧ Q (.ref x) H2) E) : tMake C sp [] E tr σ H Q := by
  show tr σ H fun vs H1 => ∀ x dx, H1 x = none → H1 dx = none → dx ≠ x → sp (.ref x :: (vs ++ [])) (upd (upd H1 dx (.own x)) x (.ins C dx [])) (fun v H2 => v = .non ∧ Q (.ref x) H2) E
  simp only [List.append_nil]
  exact h
theorem rd_cb (h : tr σ H fun vs H1 => rc vs H1 Q) : tCB rc tr σ H Q := h
theorem rd_bm {T : String} {rm : V → List V → Hp → VK → Prop} (h : te σ H fun x H1 => tyV K T x H1 ∧ tr σ H1 fun xs H2 => rm x xs H2 Q) : tBM K T rm te tr σ H Q := h
theorem rd_bm0 {T : String} {rm : V → List V → Hp → VK → Prop} (h : te σ H fun x H1 => tyV K T x H1 ∧ rm x [] H1 Q) : tBM0 K T rm te σ H Q := h
theorem rd_tyS {z : Str} (h : A) : tyV K "str" (.str z) H ∧ A := ⟨rfl, h⟩
theorem rd_tyL {p : Addr} {xs : List V} (e : H p = some (.lst xs)) (h : A) : tyV K "list" (.ref p) H ∧ A := ⟨Or.inl ⟨rfl, _, SqL.of e⟩, h⟩
theorem rd_tup (h : tr σ H fun xs H1 => xs.length ≤ sizeLine ∧ ∀ p, H1 p = none → Q (.ref p) (upd H1 p (.tup xs))) : tTup tr σ H Q := h
theorem rd_lst (h : tr σ H fun xs H1 => xs.length ≤ sizeLine ∧ ∀ p, H1 p = none → Q (.ref p) (upd H1 p (.lst xs))) : tLst tr σ H Q := h
theorem rd_fld (h : ta σ H fun x H1 => ∃ a C dx fs v, x = .ref a ∧ H1 a = some (.ins C dx fs) ∧ Cls K C ∧ NoAttr K C f ∧ fs.lookup f = some v ∧ Q v H1) : tFld K ta f σ H Q := h
theorem rd_sfld (h : tb σ H fun y H1 => ta σ H1 fun x H2 => ∃ a C dx fs, x = .ref a ∧ H2 a = some (.ins C dx fs) ∧ Cls K C ∧ NoAttr K C f ∧ fs.length < 1000 ∧ D.nx σ (upd H2 a (.ins C dx (putF f y fs)))) : sFld K ta tb f D σ H := h
theorem rd_sl {rs : V → Option Int → Option Int → Hp → VK → Prop} (h : te σ H fun x H1 => tl σ H1 fun a H2 => th σ H2 fun b H3 => rs x a b H3 Q) : tSl rs te tl th σ H Q := h
theorem rd_part (h : te σ H fun x H1 => ∃ i, x = .int i ∧ QO (some i) H1) : tPart te σ H QO := h
theorem rd_nopart (h : QO none H) : tNoPart σ H QO := h
theorem rd_int {k : Int} {PI : Int → Prop} (h : PI k) : ∃ i, V.int k = .int i ∧ PI i := ⟨k, rfl, h⟩
theorem rd_ss {a c : Str} {F : Str → Str → Prop} (h : F a c) : ∃ i j, V.str a = .str i ∧ V.str c = .str j ∧ F i j := ⟨a, c, rfl, rfl, h⟩
theorem rd_st {a : Str} {F : Str → Prop} (h : F a) : ∃ i, V.str a = .str i ∧ F i := ⟨a, rfl, h⟩
theorem rd_chain {r r' : R2} {tc : TE} (h : ta σ H fun x H1 => tb σ H1 fun y H2 => r x y H2 fun z H3 => ∃ k, z = .bl k ∧ (if k = true then tc σ H3 fun w' H4 => r' y w' H4 Q else Q (.bl false) H3)) : tChain r r' ta tb tc σ H Q := h
theorem rd_orV (h : ta σ H fun x H1 => ∃ c, x = .bl c ∧ if c = true then Q (.bl true) H1 else tb σ H1 Q) : tOrV ta tb σ H Q := h
theorem rd_andV (h : ta σ H fun x H1 => ∃ c, x = .bl c ∧ if c = true then tb σ H1 Q else Q (.bl false) H1) : tAndV ta tb σ H Q := h
theorem rd_notV (h : ta σ H fun x H1 => ∃ c, x = .bl c ∧ Q (.bl (!c)) H1) : tNotV ta σ H Q := h
end
theorem start_c {n : Str} {N : List Str} {v : V} {vs : List V} : L2.start (n :: N) (v :: vs) = some v :: L2.start N vs := by
  unfold L2.start
  simp
theorem start_o {n : Str} {N : List Str} : L2.start (n :: N) [] = none :: L2.start N [] := by
  unfold L2.start
  simp [List.replicate_succ]
theorem start_n : L2.start [] [] = [] := rfl
theorem small {n : Nat} (h : n ≤ 100000) : n ≤ sizeLine := Nat.le_trans h (by decide)
theorem small' {n : Nat} (h : n < 100000) : n < sizeLine := Nat.lt_of_lt_of_le h (by decide)
/-! loops -/
theorem rd_while {D : Ends} {σ : L2.St} {H : Hp} {tt : TT} {t : TS} (W : Nat → L2.St → Hp → Prop) (m : Nat) (h0 : W m σ H)
    (hs : ∀ m σ H, W m σ H → tt σ H fun b H1 => if b = true then ∃ N : L2.St → Hp → Prop, (∀ σ' H', N σ' H' → ∃ m', m' < m ∧ W m' σ' H') ∧ t { D with nx := N, ct := N, bk := D.nx } σ H1 else D.nx σ H1) : tWhile tt t D σ H := ⟨W, ⟨m, h0⟩, hs⟩
theorem rd_turn {D : Ends} {σ : L2.St} {H : Hp} {t : TS} {W : Nat → L2.St → Hp → Prop} {m : Nat}
    (h : t { D with nx := fun σ' H' => ∃ m', m' < m ∧ W m' σ' H', ct := fun σ' H' => ∃ m', m' < m ∧ W m' σ' H', bk := D.nx } σ H) :
    ∃ N : L2.St → Hp → Prop, (∀ σ' H', N σ' H' → ∃ m', m' < m ∧ W m' σ' H') ∧ t { D with nx := N, ct := N, bk := D.nx } σ H := ⟨_, fun _ _ z => z, h⟩
/-! texts -/
abbrev S (l : List Nat) : Str := SX.S l
section
variable {H : Hp} {Q : VK} {cs : List Nat} {a c : Nat}
theorem rd_ixS (hl : cs.length ≤ 100000) (h : cs[a]? = some c) (q : Q (.str ⟨#[c]⟩) H) : rIxS (.str (S cs)) (.int (a : Int)) H Q := ⟨S cs, a, c, rfl, rfl, by
  rw [SX.S_len]
  exact small hl, atI_nat h, q⟩
theorem cut_S {cs : List Nat} {a e : Nat} (h1 : a ≤ e) (h2 : e ≤ cs.length) : cutS (S cs) (some (a : Int)) (some (e : Int)) = S ((cs.drop a).take (e - a)) := by
  unfold cutS
  have hl : (S cs).length = cs.length := SX.S_len cs
  rw [hl, HT.sIx_nat, HT.sIx_nat, Nat.min_eq_left h2, Nat.min_eq_left (Nat.le_trans h1 h2)]
theorem rd_slS {a e : Nat} (hl : cs.length ≤ 100000) (h1 : a ≤ e) (h2 : e ≤ cs.length) (q : Q (.str (S ((cs.drop a).take (e - a)))) H) : rSlS (.str (S cs)) (some (a : Int)) (some (e : Int)) H Q := ⟨S cs, rfl, by
  rw [SX.S_len]
  exact small hl, by
  rw [cut_S h1 h2]
  exact q⟩
theorem sw_S {cs : List Nat} {z : Str} {a : Nat} (hz : z.cps.toList ≠ []) : Txt.startswith3 (S cs) z (a : Int) = ((cs.drop a).take z.length == z.cps.toList) := by
  have hl : (S cs).length = cs.length := SX.S_len cs
  have hf : PySem.fromIndex cs.length (a : Int) = a := by
    unfold PySem.fromIndex
    have h0 : ¬ ((a : Int) < 0) := by omega
    rw [if_neg h0]
    omega
  have e : Txt.startswith3 (S cs) z (a : Int) = (decide (a + z.length ≤ cs.length) && Builtin.Str.subAt (S cs) z a) := by
    unfold Txt.startswith3
    rw [hl, hf]
  rw [e, PySem.StrLaws.subAt_eq]
  show (decide (a + z.length ≤ cs.length) && ((cs.drop a).take z.length == z.cps.toList)) = _
  cases h : ((cs.drop a).take z.length == z.cps.toList) with
  | false => rw [Bool.and_false]
  | true =>
    have h2 := eq_of_beq h
    have h3 := congrArg List.length h2
    rw [List.length_take, List.length_drop] at h3
    have h4 : z.cps.toList.length = z.length := Array.length_toList
    have h5 : 0 < z.cps.toList.length := List.length_pos_iff.mpr hz
    rw [decide_eq_true (by omega)]
    rfl
end
/-! rules with a name for what they ask -/
def rLenStr : List V → Hp → VK → Prop := fun xs H Q => ∃ z, xs = [.str z] ∧ z.length ≤ sizeLine ∧ Q (.int z.length) H
def rLenSeq (K : PySem.W.Frag) : List V → Hp → VK → Prop := fun xs H Q => ∃ p ys, xs = [.ref p] ∧ (SqL K H p ys ∨ SqT K H p ys) ∧ Q (.int ys.length) H
def rLenDct : List V → Hp → VK → Prop := fun xs H Q => ∃ a kvs, xs = [V.ref a] ∧ H a = some (.dK kvs) ∧ Q (.int kvs.length) H
def rIntI : List V → Hp → VK → Prop := fun xs H Q => (∃ i, xs = [.int i] ∧ Q (.int i) H) ∨ ∃ k, xs = [.bl k] ∧ Q (.int (if k then 1 else 0)) H
def rIntS : List V → Hp → VK → Prop := fun xs H Q => ∃ a n, xs = [.str a] ∧ PySem.intText? a = some n ∧ a.length ≤ 640 ∧ Q (.int n) H
def rStrI : List V → Hp → VK → Prop := fun xs H Q => ∃ i, xs = [.int i] ∧ i.natAbs.log2 < 1920 ∧ Q (.str (toString i)) H
def rAbsI : List V → Hp → VK → Prop := fun xs H Q => ∃ i, xs = [.int i] ∧ Q (.int (if i < 0 then -i else i)) H
def rListOf (K : PySem.W.Frag) : List V → Hp → VK → Prop := fun xs H Q => ∃ p ys, xs = [.ref p] ∧ (SqL K H p ys ∨ SqT K H p ys) ∧ ∀ l, H l = none → Q (.ref l) (upd H l (.lst ys))
def rTupOf (K : PySem.W.Frag) : List V → Hp → VK → Prop := fun xs H Q => ∃ p ys, xs = [.ref p] ∧ ((SqL K H p ys ∧ ∀ l, H l = none → Q (.ref l) (upd H l (.tup ys))) ∨ (SqT K H p ys ∧ Q (.ref p) H))
def rDictOf : List V → Hp → VK → Prop := fun xs H Q => ∃ (a : Addr) (kvs : List (Key × V)), xs = [.ref a] ∧ Rd H a (.dK kvs) ∧ ∀ p, H p = none → Q (.ref p) (upd H p (.dK kvs))
def rSw3 : V → List V → Hp → VK → Prop := fun x xs H Q => ∃ (a b : Str) (i : Int), x = .str a ∧ xs = [.str b, .int i] ∧ Q (.bl (Txt.startswith3 a b i)) H
def rAddStr : R2 := fun x y H Q => ∃ i j, x = .str i ∧ y = .str j ∧ i.length + j.length ≤ sizeLine ∧ Q (.str (i ++ j)) H
def rLeStr : R2 := fun x y H Q => ∃ i j, x = .str i ∧ y = .str j ∧ Q (.bl (!decide (j.cps.toList < i.cps.toList))) H
section
variable {X : Cx}
theorem cl_lenStr : CallR X (.builtin "len") rLenStr := call_len_str
theorem cl_lenSeq : CallR X (.builtin "len") (rLenSeq X.K) := call_len_seq
theorem cl_lenDct : CallR X (.builtin "len") rLenDct := call_lenD
theorem cl_intI : CallR X (.type "int") rIntI := call_int1
theorem cl_intS : CallR X (.type "int") rIntS := call_int_str
theorem cl_strI : CallR X (.type "str") rStrI := call_str_int
theorem cl_absI : CallR X (.builtin "abs") rAbsI := call_abs
theorem cl_listOf : CallR X (.type "list") (rListOf X.K) := call_list_of
theorem cl_tupOf : CallR X (.type "tuple") (rTupOf X.K) := call_tuple_of
theorem cl_dictOf : CallR X (.type "dict") rDictOf := call_dictD
theorem mt_sw3 : MtR X "str.startswith" rSw3 := mt_startswith3
theorem op_addStr : OpR X (binaryOp .Add) rAddStr := op_add_str
theorem op_leStr : OpR X (compareOp .LtE) rLeStr := op_le_str
end
section
variable {H : Hp} {Q : VK} {cs : List Nat} {K : PySem.W.Frag} {p : Addr} {xs : List V} {x y : Str} {i : Int}
theorem rd_lenS (hl : cs.length ≤ 100000) (q : Q (.int (cs.length : Int)) H) : rLenStr [.str (S cs)] H Q := ⟨S cs, rfl, by
  rw [SX.S_len]
  exact small hl, by
  rw [SX.S_len]
  exact q⟩
theorem rd_lenL (h : H p = some (.lst xs)) (q : Q (.int (xs.length : Int)) H) : rLenSeq K [.ref p] H Q := ⟨p, xs, rfl, .inl (SqL.of h), q⟩
theorem rd_lenT (h : H p = some (.tup xs)) (q : Q (.int (xs.length : Int)) H) : rLenSeq K [.ref p] H Q := ⟨p, xs, rfl, .inr (SqT.of h), q⟩
theorem rd_intI (q : Q (.int i) H) : rIntI [.int i] H Q := .inl ⟨i, rfl, q⟩
theorem rd_absI (q : Q (.int (if i < 0 then -i else i)) H) : rAbsI [.int i] H Q := ⟨i, rfl, q⟩
theorem rd_leStr (q : Q (.bl (!decide (y.cps.toList < x.cps.toList))) H) : rLeStr (.str x) (.str y) H Q := ⟨x, y, rfl, rfl, q⟩
theorem rd_sw3 (q : Q (.bl (Txt.startswith3 x y i)) H) : rSw3 (.str x) [.str y, .int i] H Q := ⟨x, y, i, rfl, rfl, q⟩
theorem rd_addStr (h : x.length + y.length ≤ sizeLine) (q : Q (.str (x ++ y)) H) : rAddStr (.str x) (.str y) H Q := ⟨x, y, rfl, rfl, h, q⟩
theorem rd_ixL {v : V} {j : Nat} (h : H p = some (.lst xs)) (e : xs[j]? = some v) (q : Q v H) : rIxL K (.ref p) (.int (j : Int)) H Q := ⟨p, xs, j, v, rfl, rfl, SqL.of h, atI_nat e, q⟩
theorem rd_ixT {v : V} {j : Nat} (h : H p = some (.tup xs)) (e : xs[j]? = some v) (q : Q v H) : rIxT K (.ref p) (.int (j : Int)) H Q := ⟨p, xs, j, v, rfl, rfl, SqT.of h, atI_nat e, q⟩
theorem rd_ixT0 {v : V} {r : List V} (h : H p = some (.tup (v :: r))) (q : Q v H) : rIxT K (.ref p) (.int 0) H Q := rd_ixT (j := 0) h rfl q
theorem rd_ixT1 {a v : V} {r : List V} (h : H p = some (.tup (a :: v :: r))) (q : Q v H) : rIxT K (.ref p) (.int 1) H Q := rd_ixT (j := 1) h rfl q
theorem rd_ixT2 {a b v : V} {r : List V} (h : H p = some (.tup (a :: b :: v :: r))) (q : Q v H) : rIxT K (.ref p) (.int 2) H Q := rd_ixT (j := 2) h rfl q
end
theorem rd_gtup {K : PySem.W.Frag} {H : Hp} {σ : L2.St} {QS : L2.St → Hp → Prop} {p : Addr} {xs : List V} {n : Nat} {t : List V → L2.St → Hp → (L2.St → Hp → Prop) → Prop} (e : H p = some (.tup xs)) (hn : xs.length = n) (h : t xs σ H QS) : gTup K n t (.ref p) σ H QS := ⟨p, xs, rfl, SqT.of e, hn, h⟩
theorem rd_gcons {H : Hp} {σ : L2.St} {QS : L2.St → Hp → Prop} {v : V} {r : List V} {t : TG} {u : List V → L2.St → Hp → (L2.St → Hp → Prop) → Prop} (h : t v σ H fun σ' H' => u r σ' H' QS) : gCons t u (v :: r) σ H QS := ⟨v, r, rfl, h⟩
theorem rd_gnil {H : Hp} {σ : L2.St} {QS : L2.St → Hp → Prop} (h : QS σ H) : gNil [] σ H QS := ⟨rfl, h⟩
/-! fields and methods of instances -/
theorem rd_get {K : PySem.W.Frag} {H : Hp} {r C dx : Addr} {fs : List (Str × V)} {f : Str} {v : V} {PV : V → Prop} (ho : H r = some (.ins C dx fs)) (hC : Cls K C) (hN : NoAttr K C f) (hl : fs.lookup f = some v) (q : PV v) :
    ∃ a C dx fs v, V.ref r = .ref a ∧ H a = some (.ins C dx fs) ∧ Cls K C ∧ NoAttr K C f ∧ fs.lookup f = some v ∧ PV v := ⟨r, C, dx, fs, v, rfl, ho, hC, hN, hl, q⟩
theorem rd_put {K : PySem.W.Frag} {H : Hp} {r C dx : Addr} {fs : List (Str × V)} {f : Str} {y : V} {QS : L2.St → Hp → Prop} {σ : L2.St} (ho : H r = some (.ins C dx fs)) (hC : Cls K C) (hN : NoAttr K C f) (hl : fs.length ≤ 900) (q : QS σ (upd H r (.ins C dx (putF f y fs)))) :
    ∃ a C dx fs, V.ref r = .ref a ∧ H a = some (.ins C dx fs) ∧ Cls K C ∧ NoAttr K C f ∧ fs.length < 1000 ∧ QS σ (upd H a (.ins C dx (putF f y fs))) := ⟨r, C, dx, fs, rfl, ho, hC, hN, Nat.lt_of_le_of_lt hl (by decide), q⟩
theorem rd_mth {H : Hp} {r C dx : Addr} {fs : List (Str × V)} {m : Str} {A : Prop} (ho : H r = some (.ins C dx fs)) (hl : fs.lookup m = none) (h : A) : ∃ a dx fs, V.ref r = .ref a ∧ H a = some (.ins C dx fs) ∧ fs.lookup m = none ∧ A := ⟨r, dx, fs, rfl, ho, hl, h⟩
/-- list.append -/
theorem rd_append {H : Hp} {Q : VK} {l : Addr} {xs : List V} {y : V} (e : H l = some (.lst xs)) (hl : xs.length ≤ 90000) (h : Q .non (upd H l (.lst (xs ++ [y])))) : rAppend (.ref l) [y] H Q :=
  ⟨l, xs, y, rfl, rfl, e, small' (Nat.lt_of_le_of_lt hl (by decide)), h⟩
/-! the tables of the top -/
section
variable {K : PySem.W.Frag} {mg : Str → Option Value}
theorem txts_v (l : List Str) : (txts l).map (He.Dv.v K) = l.map V.str := by
  unfold txts
  rw [List.map_map]
  rfl
theorem Tx.tab (T : Tx K mg) : tabB K = true := (He.ba T.s.m).1
theorem Tx.t_RESERVED (T : Tx K mg) (H : Hp) : SqT K H (He.ga K "RESERVED") (reservedL.map V.str) := by
  have h := He.tupB_ok (He.ba T.tab).1 H
  rw [txts_v] at h
  exact h
theorem Tx.t_SIGNS (T : Tx K mg) (H : Hp) : SqT K H (He.ga K "SIGNS") (signsL.map V.str) := by
  have h := He.tupB_ok (He.ba (He.ba T.tab).2).1 H
  rw [txts_v] at h
  exact h
theorem Tx.t_NEEDS (T : Tx K mg) (H : Hp) : SqT K H (He.ga K "NEEDS") (needsL.map V.str) := by
  have h := He.tupB_ok (He.ba (He.ba (He.ba T.tab).2).2).1 H
  rw [txts_v] at h
  exact h
theorem rd_inT {H : Hp} {Q : VK} {x : V} {p : Addr} {xs : List V} (h : SqT K H p xs) (hx : flatV x = true) (hs : xs.all flatV = true) (q : Q (.bl (inV x xs)) H) : rIn K false x (.ref p) H Q := ⟨p, xs, rfl, .inr h, hx, hs, q⟩
theorem strs_flat (l : List Str) : (l.map V.str).all flatV = true := by
  rw [List.all_map]
  exact List.all_eq_true.mpr fun _ _ => rfl
end
section
variable {K : PySem.W.Frag} {mg : Str → Option Value}
abbrev cReader (K : PySem.W.Frag) : Addr := He.ga K "Reader"
abbrev cGraph (K : PySem.W.Frag) : Addr := He.ga K "Graph"
abbrev cChecker (K : PySem.W.Frag) : Addr := He.ga K "Checker"
abbrev cRun (K : PySem.W.Frag) : Addr := He.ga K "Run"
theorem Tx.reader (T : Tx K mg) : Cls K (cReader K) ∧ NoAttr K (cReader K) "rest" ∧ NoAttr K (cReader K) "module" ∧ NoAttr K (cReader K) "place" ∧ NoAttr K (cReader K) "limit" ∧ NoAttr K (cReader K) "inside" := ⟨T.cl_Reader, T.no_Reader_rest, T.no_Reader_module, T.no_Reader_place, T.no_Reader_limit, T.no_Reader_inside⟩
theorem Tx.graph (T : Tx K mg) : Cls K (cGraph K) ∧ NoAttr K (cGraph K) "entry" ∧ NoAttr K (cGraph K) "_texts" ∧ NoAttr K (cGraph K) "_items" ∧ NoAttr K (cGraph K) "_order" := ⟨T.cl_Graph, T.no_Graph_entry, T.no_Graph_texts, T.no_Graph_items, T.no_Graph_order⟩
theorem Tx.checker (T : Tx K mg) : Cls K (cChecker K) ∧ NoAttr K (cChecker K) "graph" ∧ NoAttr K (cChecker K) "module" ∧ NoAttr K (cChecker K) "scopes" := ⟨T.cl_Checker, T.no_Checker_graph, T.no_Checker_module, T.no_Checker_scopes⟩
theorem Tx.runs (T : Tx K mg) : Cls K (cRun K) ∧ NoAttr K (cRun K) "graph" ∧ NoAttr K (cRun K) "answers" ∧ NoAttr K (cRun K) "asked" ∧ NoAttr K (cRun K) "events" ∧ NoAttr K (cRun K) "budget" ∧ NoAttr K (cRun K) "depth" ∧ NoAttr K (cRun K) "tops" := ⟨T.cl_Run, T.no_Run_graph, T.no_Run_answers, T.no_Run_asked, T.no_Run_events, T.no_Run_budget, T.no_Run_depth, T.no_Run_tops⟩
end
/-! heaps -/
/-- all but the object at r stands as it stood -/
def Kp (r : Addr) (H H' : Hp) : Prop := ∀ b o, H b = some o → b ≠ r → H' b = some o
theorem Same.upd {H : Hp} {p : Addr} {o : HO} (h : H p = none) : Same H (upd H p o) := fun b u e => by
  rw [upd_ne (ne_of_none e h)]
  exact e
theorem Kp.refl (r : Addr) (H : Hp) : Kp r H H := fun _ _ e _ => e
theorem Kp.trans {r : Addr} {H H1 H2 : Hp} (a : Kp r H H1) (b : Kp r H1 H2) : Kp r H H2 := fun c o e n => b c o (a c o e n) n
theorem Kp.same {r : Addr} {H H1 H2 : Hp} (a : Kp r H H1) (b : Same H1 H2) : Kp r H H2 := fun c o e n => b c o (a c o e n)
theorem Kp.of {r : Addr} {H H' : Hp} (a : Same H H') : Kp r H H' := fun c o e _ => a c o e
theorem Kp.set {r : Addr} {H : Hp} {o : HO} : Kp r H (L2.upd H r o) := fun b u e n => by
  rw [upd_ne n]
  exact e
theorem Kp.free {r : Addr} {H H' : Hp} (a : Kp r H H') {p : Addr} (h : H' p = none) (hr : H' r ≠ none) : H p = none := by
  cases q : H p with
  | none => rfl
  | some o =>
    by_cases e : p = r
    · rw [e] at h
      exact absurd h hr
    · rw [a p o q e] at h
      cases h
theorem Same.of2 {H H' : Hp} {p q : Addr} {o u : HO} (hp : H p = none) (hq : (L2.upd H p o) q = none) (h : Same (L2.upd (L2.upd H p o) q u) H') : Same H H' := fun b x e => h b x (by
  rw [upd_ne (ne_of_none (Same.upd hp b x e) hq)]
  exact Same.upd hp b x e)
end K5
set_option maxHeartbeats 4000000
local macro_rules | `(tactic| walk_at "rd1") => `(tactic| first
  | (with_reducible refine K5.rd_seq ?_)
  | (with_reducible refine K5.rd_asg ?_)
  | (with_reducible refine K5.rd_g0 ?_)
  | (with_reducible refine K5.rd_g1 ?_)
  | (with_reducible refine K5.rd_g2 ?_)
  | (with_reducible refine K5.rd_g3 ?_)
  | (with_reducible refine K5.rd_g4 ?_)
  | (with_reducible refine K5.rd_g5 ?_)
  | (with_reducible refine K5.rd_g6 ?_)
  | (with_reducible refine K5.rd_g7 ?_)
  | (with_reducible refine K5.rd_g8 ?_)
  | (with_reducible refine K5.rd_g9 ?_)
  | (with_reducible refine K5.rd_v0 ?_)
  | (with_reducible refine K5.rd_v1 ?_)
  | (with_reducible refine K5.rd_v2 ?_)
  | (with_reducible refine K5.rd_v3 ?_)
  | (with_reducible refine K5.rd_v4 ?_)
  | (with_reducible refine K5.rd_v5 ?_)
  | (with_reducible refine K5.rd_v6 ?_)
  | (with_reducible refine K5.rd_v7 ?_)
  | (with_reducible refine K5.rd_v8 ?_)
  | (with_reducible refine K5.rd_v9 ?_)
  | (with_reducible refine K5.rd_c ?_)
  | (with_reducible refine K5.rd_op ?_)
  | (with_reducible refine K5.rd_test ?_)
  | (with_reducible refine K5.rd_B ?_)
  | (with_reducible refine K5.rd_bl ?_)
  | (with_reducible refine K5.rd_ifS ?_)
  | (with_reducible refine K5.rd_and ?_)
  | (with_reducible refine K5.rd_or ?_)
  | (with_reducible refine K5.rd_not ?_)
  | (with_reducible refine K5.rd_ret ?_)
  | (with_reducible refine K5.rd_retN ?_)
  | (with_reducible refine K5.rd_yes ?_)
  | (with_reducible refine K5.rd_gcons ?_)
  | (with_reducible refine K5.rd_gnil ?_)
  | ((with_reducible refine' K5.rd_gtup ?ho ?hn ?_); (case ho => first | assumption | exact L2.upd_same); (case hn => exact rfl))
  | (with_reducible refine K5.rd_bm ?_)
  | (with_reducible refine K5.rd_bm0 ?_)
  | (with_reducible refine K5.rd_tyS ?_)
  | ((with_reducible refine' K5.rd_tyL ?ho ?_); (case ho => first | assumption | exact L2.upd_same))
  | (with_reducible refine K5.rd_next ?_)
  | (with_reducible refine K5.rd_drop ?_)
  | (with_reducible refine K5.rd_nil ?_)
  | (with_reducible refine K5.rd_cons ?_)
  | (with_reducible refine K5.rd_call ?_)
  | (with_reducible refine K5.rd_meth ?_)
  | (with_reducible refine K5.rd_make ?_)
  | (with_reducible refine K5.rd_cb ?_)
  | (with_reducible refine K5.rd_tup ?_)
  | (with_reducible refine K5.rd_lst ?_)
  | (with_reducible refine K5.rd_fld ?_)
  | (with_reducible refine K5.rd_sfld ?_)
  | (with_reducible refine K5.rd_sl ?_)
  | (with_reducible refine K5.rd_part ?_)
  | (with_reducible refine K5.rd_nopart ?_)
  | (with_reducible refine K5.rd_int ?_)
  | (with_reducible refine K5.rd_ss ?_)
  | (with_reducible refine K5.rd_st ?_)
  | (with_reducible refine K5.rd_chain ?_)
  | (with_reducible refine K5.rd_orV ?_)
  | (with_reducible refine K5.rd_andV ?_)
  | (with_reducible refine K5.rd_notV ?_)
  | (with_reducible refine K5.rd_T ?_)
  | (with_reducible refine K5.rd_F ?_)
  | (with_reducible refine K5.rd_isN ?_)
  | (with_reducible refine K5.rd_notN ?_)
  | (with_reducible refine K5.rd_nT ?_)
  | (with_reducible refine K5.rd_nF ?_)
  | (with_reducible refine K5.rd_I0 ?_)
  | (with_reducible refine K5.rd_intI ?_)
  | (with_reducible refine K5.rd_absI ?_)
  | (with_reducible refine K5.rd_leStr ?_)
  | (with_reducible refine K5.rd_sw3 ?_)
  | (with_reducible refine ⟨K5.small (Nat.le_of_ble_eq_true rfl), ?_⟩)
  | ((with_reducible refine' K5.rd_get ?ho ?hC ?hN ?hl ?_); (case ho => first | assumption | exact L2.upd_same); (case hC => assumption); (case hN => assumption); (case hl => exact rfl))
  | ((with_reducible refine' K5.rd_put ?ho ?hC ?hN ?hl ?_); (case ho => first | assumption | exact L2.upd_same); (case hC => assumption); (case hN => assumption); (case hl => exact Nat.le_of_ble_eq_true rfl))
  | ((with_reducible refine' K5.rd_mth ?ho ?hl ?_); (case ho => first | assumption | exact L2.upd_same); (case hl => exact rfl))
  | ((with_reducible refine' K5.rd_lenL ?ho ?_); (case ho => first | assumption | exact L2.upd_same))
  | ((with_reducible refine' K5.rd_lenT ?ho ?_); (case ho => first | assumption | exact L2.upd_same))
  | ((with_reducible refine' K5.rd_ixT0 ?ho ?_); (case ho => first | assumption | exact L2.upd_same))
  | ((with_reducible refine' K5.rd_ixT1 ?ho ?_); (case ho => first | assumption | exact L2.upd_same))
  | ((with_reducible refine' K5.rd_ixT2 ?ho ?_); (case ho => first | assumption | exact L2.upd_same))
  | ((with_reducible refine K5.rd_eq ?sc ?_); (case sc => exact rfl))
  | ((with_reducible refine K5.rd_ne ?sc ?_); (case sc => exact rfl)))
local macro_rules | `(tactic| walk_at "rd") => `(tactic| repeat walk_at "rd1")
local macro_rules | `(tactic| walk_at "st") => `(tactic| (simp only [K5.start_c, K5.start_o, K5.start_n]; walk_at "rd"))

namespace K5
open PySem PySem.Spec PyProof.Rows L2
/-! signs -/
def isLet (c : Nat) : Bool := (decide (97 ≤ c) && decide (c ≤ 122)) || (decide (65 ≤ c) && decide (c ≤ 90))
def isDig (c : Nat) : Bool := decide (48 ≤ c) && decide (c ≤ 57)
def inNm (c : Nat) : Bool := isLet c || isDig c || decide (c = 95)
theorem lt1 {a b : Nat} : ([a] : List Nat) < [b] ↔ a < b := by
  rw [List.cons_lt_cons_iff]
  simp
theorem le_sg {c n : Nat} {x : Str} (e : x.cps.toList = [n]) : (!decide ((⟨#[c]⟩ : Str).cps.toList < x.cps.toList)) = decide (n ≤ c) := by
  rw [e]
  show (!decide (([c] : List Nat) < [n])) = decide (n ≤ c)
  rw [decide_eq_decide.mpr lt1]
  by_cases h : n ≤ c
  · rw [decide_eq_true h, decide_eq_false (Nat.not_lt.mpr h)]
    rfl
  · rw [decide_eq_false h, decide_eq_true (Nat.not_le.mp h)]
    rfl
theorem sg_le {c n : Nat} {x : Str} (e : x.cps.toList = [n]) : (!decide (x.cps.toList < (⟨#[c]⟩ : Str).cps.toList)) = decide (c ≤ n) := by
  rw [e]
  show (!decide (([n] : List Nat) < [c])) = decide (c ≤ n)
  rw [decide_eq_decide.mpr lt1]
  by_cases h : c ≤ n
  · rw [decide_eq_true h, decide_eq_false (Nat.not_lt.mpr h)]
    rfl
  · rw [decide_eq_false h, decide_eq_true (Nat.not_le.mp h)]
    rfl
/-- a sign's test -/
def spSign (f : Nat → Bool) : Sp := fun vs H Q _ => ∃ c : Nat, vs = [.str ⟨#[c]⟩] ∧ Q (.bl (f c)) H
section
variable {P : Program} {w : World} {K : PySem.W.Frag} {mg : Str → Option Value} {base : Heap}
theorem sc_is_letter : FnScope ["char"] ["char"] (defScope s_is_letter) := ⟨rfl, rfl, rfl, by decide +kernel, rfl, by decide +kernel, by decide +kernel⟩
theorem ok_is_letter (T : Tx K mg) : Dok P w K mg base CX0 1 (He.ga K "is_letter") ["char"] (spSign isLet) := by
  refine Dok.mk0 (T.F_is_letter) sc_is_letter rfl (fun _ _ _ _ _ _ us hl => match us, hl with | [_], _ => rfl) (fun vs H Q E h => ?_) (fun cdv A outer s H vs Q E hr h => ?_)
  · obtain ⟨c, rfl, _⟩ := h; rfl
  · obtain ⟨c, rfl, k⟩ := h
    refine ⟨_, (pss_one (ps_ret (pe_or (pe_chain op_leStr op_leStr pe_str (pv 0) pe_str) (pe_one (pe_chain op_leStr op_leStr pe_str (pv 0) pe_str))))), ?_⟩
    unfold isLet at k
    generalize e1 : decide (97 ≤ c) = b1 at k
    generalize e2 : decide (c ≤ 122) = b2 at k
    generalize e3 : decide (65 ≤ c) = b3 at k
    generalize e4 : decide (c ≤ 90) = b4 at k
    have l1 := (le_sg (c := c) (x := "a") (n := 97) rfl).trans e1
    have l2 := (sg_le (c := c) (x := "z") (n := 122) rfl).trans e2
    have l3 := (le_sg (c := c) (x := "A") (n := 65) rfl).trans e3
    have l4 := (sg_le (c := c) (x := "Z") (n := 90) rfl).trans e4
    walk_at "st"
    refine rd_is b1 l1 ?_
    cases b1 with
    | true =>
      walk_at "rd"
      refine rd_is b2 l2 ?_
      cases b2 with
      | true => exact rd_T k
      | false =>
        walk_at "rd"
        refine rd_is b3 l3 ?_
        cases b3 with
        | false => exact rd_F k
        | true =>
          walk_at "rd"
          rw [l4]
          cases b4 <;> exact k
    | false =>
      walk_at "rd"
      refine rd_is b3 l3 ?_
      cases b3 with
      | false => cases b2 <;> exact rd_F k
      | true =>
        walk_at "rd"
        rw [l4]
        cases b2 <;> cases b4 <;> exact k
theorem sc_is_digit : FnScope ["char"] ["char"] (defScope s_is_digit) := ⟨rfl, rfl, rfl, by decide +kernel, rfl, by decide +kernel, by decide +kernel⟩
theorem ok_is_digit (T : Tx K mg) : Dok P w K mg base CX0 1 (He.ga K "is_digit") ["char"] (spSign isDig) := by
  refine Dok.mk0 (T.F_is_digit) sc_is_digit rfl (fun _ _ _ _ _ _ us hl => match us, hl with | [_], _ => rfl) (fun vs H Q E h => ?_) (fun cdv A outer s H vs Q E hr h => ?_)
  · obtain ⟨c, rfl, _⟩ := h; rfl
  · obtain ⟨c, rfl, k⟩ := h
    refine ⟨_, (pss_one (ps_ret (pe_chain op_leStr op_leStr pe_str (pv 0) pe_str))), ?_⟩
    unfold isDig at k
    generalize e1 : decide (48 ≤ c) = b1 at k
    generalize e2 : decide (c ≤ 57) = b2 at k
    have l1 := (le_sg (c := c) (x := "0") (n := 48) rfl).trans e1
    have l2 := (sg_le (c := c) (x := "9") (n := 57) rfl).trans e2
    walk_at "st"
    refine rd_is b1 l1 ?_
    cases b1 with
    | true =>
      walk_at "rd"
      rw [l2]
      cases b2 <;> exact k
    | false =>
      walk_at "rd"
      cases b2 <;> exact k
theorem sc_in_name : FnScope ["char"] ["char"] (defScope s_in_name) := ⟨rfl, rfl, rfl, by decide +kernel, rfl, by decide +kernel, by decide +kernel⟩
theorem ok_in_name (T : Tx K mg) : Dok P w K mg base CX0 2 (He.ga K "in_name") ["char"] (spSign inNm) := by
  refine Dok.mk0 (T.F_in_name) sc_in_name rfl (fun _ _ _ _ _ _ us hl => match us, hl with | [_], _ => rfl) (fun vs H Q E h => ?_) (fun cdv A outer s H vs Q E hr h => ?_)
  · obtain ⟨c, rfl, _⟩ := h; rfl
  · obtain ⟨c, rfl, k⟩ := h
    refine ⟨_, (pss_one (ps_ret (pe_or (pc (ok_is_letter (K := K) T) T.g_is_letter hr (pa_cons (pv 0) pa_nil)) (pe_or (pc (ok_is_digit (K := K) T) T.g_is_digit hr (pa_cons (pv 0) pa_nil)) (pe_one (pe_cmpR op_eq (pv 0) pe_str (nomark _))))))), ?_⟩
    unfold inNm at k
    walk_at "st"
    refine ⟨c, rfl, ?_⟩
    walk_at "rd"
    generalize isLet c = b1 at k
    cases b1 with
    | true => exact rd_T k
    | false =>
      walk_at "rd"
      refine ⟨c, rfl, ?_⟩
      walk_at "rd"
      generalize isDig c = b2 at k
      cases b2 with
      | true => exact rd_T k
      | false =>
        walk_at "rd"
        have e : decide (V.str ⟨#[c]⟩ = V.str "_") = decide (c = 95) := decide_eq_decide.mpr ⟨fun z => by
          have z2 : (⟨#[c]⟩ : Str) = "_" := V.str.inj z
          have z3 : ([c] : List Nat) = [95] := congrArg (fun q : Str => q.cps.toList) z2
          exact (List.cons.inj z3).1, fun z => by
          subst z
          rfl⟩
        rw [e]
        exact k
end
end K5
set_option maxHeartbeats 4000000

namespace K5
open PySem PySem.Spec PyProof.Rows L2
/-! tokens -/
abbrev Tok := Str × V
def inRes (u : List Nat) : Bool := inV (.str (S u)) (reservedL.map V.str)
def tkW (u : List Nat) : Tok := ("word", .str (S u))
def tkN (u : List Nat) : Tok := ("name", .str (S u))
def tkI (i : Int) : Tok := ("number", .int i)
def tkS (u : List Nat) : Tok := ("string", .str (S u))
def tkG (c : Nat) : Tok := ("sign", .str ⟨#[c]⟩)
def signB (c : Nat) : Bool := decide (c = 59) || decide (c = 42) || decide (c = 123) || decide (c = 125)
/-- the token at the front of the signs, its length -/
def tokOf : List Nat → Option (Tok × Nat)
  | [] => none
  | c :: r =>
    if isLet c = true then
      (if inRes ((c :: r).takeWhile inNm) = true then some (tkW ((c :: r).takeWhile inNm), ((c :: r).takeWhile inNm).length)
      else if ((c :: r).takeWhile inNm).length ≤ 20 then some (tkN ((c :: r).takeWhile inNm), ((c :: r).takeWhile inNm).length) else none)
    else if isDig c = true then (if r.takeWhile inNm = [] then some (tkI ((c : Int) - 48), 1) else none)
    else if c = 34 then
      (if r.takeWhile inNm = [] then none else if 20 < (r.takeWhile inNm).length then none else if r[(r.takeWhile inNm).length]? = some 34 then some (tkS (r.takeWhile inNm), (r.takeWhile inNm).length + 2) else none)
    else if signB c = true then some (tkG c, 1) else none
section
variable {c : Nat} {r : List Nat}
theorem tok_let (h : isLet c = true) : tokOf (c :: r) = if inRes ((c :: r).takeWhile inNm) = true then some (tkW ((c :: r).takeWhile inNm), ((c :: r).takeWhile inNm).length)
      else if ((c :: r).takeWhile inNm).length ≤ 20 then some (tkN ((c :: r).takeWhile inNm), ((c :: r).takeWhile inNm).length) else none := if_pos h
theorem tok_dig (h : isLet c = false) (h2 : isDig c = true) : tokOf (c :: r) = if r.takeWhile inNm = [] then some (tkI ((c : Int) - 48), 1) else none :=
  (if_neg (h ▸ Bool.false_ne_true)).trans (if_pos h2)
theorem tok_str (h : isLet c = false) (h2 : isDig c = false) (h3 : c = 34) : tokOf (c :: r) = if r.takeWhile inNm = [] then none else if 20 < (r.takeWhile inNm).length then none else if r[(r.takeWhile inNm).length]? = some 34 then some (tkS (r.takeWhile inNm), (r.takeWhile inNm).length + 2) else none :=
  (if_neg (h ▸ Bool.false_ne_true)).trans ((if_neg (h2 ▸ Bool.false_ne_true)).trans (if_pos h3))
theorem tok_sig (h : isLet c = false) (h2 : isDig c = false) (h3 : ¬ c = 34) : tokOf (c :: r) = if signB c = true then some (tkG c, 1) else none :=
  (if_neg (h ▸ Bool.false_ne_true)).trans ((if_neg (h2 ▸ Bool.false_ne_true)).trans (if_neg h3))
end
/-- a token's tuple stands at a -/
def TokAt (H : Hp) (a : Addr) (t : Tok) : Prop := ∃ i : Int, H a = some (.tup [.str t.1, t.2, .int i])
theorem TokAt.same {H H' : Hp} {a : Addr} {t : Tok} (h : TokAt H a t) (e : Same H H') : TokAt H' a t := h.imp fun _ z => e _ _ z
def spRunEnd : Sp := fun vs H Q _ => ∃ (cs : List Nat) (a : Nat), vs = [.str (S cs), .int (a : Int)] ∧ a ≤ cs.length ∧ cs.length ≤ 20000 ∧ Q (.int ((a + ((cs.drop a).takeWhile inNm).length : Nat) : Int)) H
/-- the readers of one token: which first signs they are for -/
def spRd (cond : Nat → Bool) : Sp := fun vs H Q _ => ∃ (cs : List Nat) (a : Nat) (m : V) (t : Tok) (n c : Nat) (r : List Nat), vs = [.str (S cs), .int (a : Int), m] ∧ cs.length ≤ 20000 ∧ cs.drop a = c :: r ∧ cond c = true ∧ tokOf (c :: r) = some (t, n) ∧
  ∀ H' p q, Same H H' → TokAt H' q t → H' p = some (.tup [.ref q, .int ((a + n : Nat) : Int)]) → Q (.ref p) H'
theorem drop_get {cs : List Nat} {a c : Nat} {r : List Nat} (h : cs.drop a = c :: r) : cs[a]? = some c ∧ a < cs.length ∧ cs.drop (a + 1) = r := by
  have h1 : (cs.drop a)[0]? = some c := by rw [h]; rfl
  rw [List.getElem?_drop] at h1
  refine ⟨h1, (List.getElem?_eq_some_iff.mp h1).1, ?_⟩
  rw [← List.drop_drop, h]
  rfl
theorem tw_len {p : Nat → Bool} : ∀ l : List Nat, (l.takeWhile p).length ≤ l.length
  | [] => Nat.le_refl _
  | c :: l => by
    rw [List.takeWhile_cons]
    split
    · exact Nat.succ_le_succ (tw_len l)
    · exact Nat.zero_le _
theorem tw_take {p : Nat → Bool} : ∀ l : List Nat, l.take (l.takeWhile p).length = l.takeWhile p
  | [] => rfl
  | c :: l => by
    rw [List.takeWhile_cons]
    split
    · exact congrArg (c :: ·) (tw_take l)
    · rfl
theorem dig_rng {c : Nat} (h : isDig c = true) : 48 ≤ c ∧ c ≤ 57 := by
  obtain ⟨h1, h2⟩ := Bool.and_eq_true_iff.mp h
  exact ⟨of_decide_eq_true h1, of_decide_eq_true h2⟩
theorem int1 {c : Nat} (h : isDig c = true) : PySem.intText? (S [c]) = some ((c : Int) - 48) := by
  obtain ⟨h1, h2⟩ := dig_rng h
  have e := SX.int_S (a := [c]) (by
    show (decide (48 ≤ c) && decide (c ≤ 57) && true) = true
    rw [decide_eq_true h1, decide_eq_true h2]
    rfl) (by simp) (by show 1 ≤ 4300; decide)
  rw [e]
  have e2 : ((NumText.digitsVal [c] : Nat) : Int) = (c : Int) - 48 := by
    have e3 : NumText.digitsVal [c] = c - 48 := by
      show 0 * 10 + (c - 48) = c - 48
      omega
    rw [e3]
    omega
  rw [e2]
/-- a list of its own that was filled, two tuples -/
theorem num_same {H : Hp} {D q p : Addr} {o u x y : HO} (hD : H D = none) (hq : upd (upd H D o) D u q = none) (hp : upd (upd (upd H D o) D u) q x p = none) : Same H (upd (upd (upd (upd H D o) D u) q x) p y) := by
  rw [upd_upd] at hq hp ⊢
  exact Same.trans (Same.trans (Same.upd hD) (Same.upd hq)) (Same.upd hp)
theorem sign_one {c : Nat} (h : signB c = true) : (⟨#[c]⟩ : Str) ∈ signsL ∧ c ≠ 61 := by
  unfold signB at h
  simp only [Bool.or_eq_true, decide_eq_true_eq] at h
  rcases h with ((h | h) | h) | h <;> subst h <;> decide +kernel
theorem signs_are : ∀ z ∈ signsL, z.cps.toList = [61, 61] ∨ ∃ d, z = (⟨#[d]⟩ : Str) := by
  have h : ∀ z ∈ signsL, z.cps.toList = [61, 61] ∨ z.cps.toList.length = 1 := by decide +kernel
  intro z hz
  rcases h z hz with e | e
  · exact .inl e
  · obtain ⟨d, ed⟩ := List.length_eq_one_iff.mp e
    refine .inr ⟨d, ?_⟩
    have q : SX.S z.cps.toList = z := SX.S_tl z
    rw [← q, ed]
section
variable {P : Program} {w : World} {K : PySem.W.Frag} {mg : Str → Option Value} {base : Heap}
theorem sc_run_end : FnScope ["text", "at"] ["text", "at"] (defScope s_run_end) := ⟨rfl, rfl, rfl, by decide +kernel, rfl, by decide +kernel, by decide +kernel⟩
theorem ok_run_end (T : Tx K mg) : Dok P w K mg base CX0 3 (He.ga K "run_end") ["text", "at"] (spRunEnd) := by
  refine Dok.mk0 (T.F_run_end) sc_run_end rfl (fun _ _ _ _ _ _ us hl => match us, hl with | [_, _], _ => rfl) (fun vs H Q E h => ?_) (fun cdv A outer s H vs Q E hr h => ?_)
  · obtain ⟨cs, a, rfl, _⟩ := h; rfl
  · obtain ⟨cs, a, rfl, ha, hl, k⟩ := h
    refine ⟨_, (pss_cons (ps_while PassesOwn.never (PW.pt (pw_and (pt_cmpR op_lt (pv 1) (pe_callB cl_lenStr (by rfl) T.n_len (by decide +kernel) (pa_cons (pv 0) pa_nil)) (nomark _)) (pw_and1 (pt_val (pc (ok_in_name (K := K) T) T.g_in_name hr (pa_cons (pe_ix ix_str (pv 0) (pv 1) (fun _ _ => rfl)) pa_nil)))))) (pss_one (ps_set (i := 1) sc_run_end.nd rfl (Or.inl rfl) (pe_op op_add (pv 1) pe_int))))
        (pss_one (ps_ret (pv 1)))), ?_⟩
    have hl' : cs.length ≤ 100000 := by omega
    walk_at "st"
    refine rd_while (fun m σ H' => ∃ b : Nat, σ = [some (.str (S cs)), some (.int (b : Int))] ∧ H' = H ∧ a ≤ b ∧ b ≤ cs.length ∧ b + ((cs.drop b).takeWhile inNm).length = a + ((cs.drop a).takeWhile inNm).length ∧ m = cs.length - b) (cs.length - a)
      ⟨a, rfl, rfl, Nat.le_refl _, ha, rfl, rfl⟩ ?_
    rintro m σ H' ⟨b, rfl, rfl, h1, h2, h3, rfl⟩
    walk_at "rd"
    refine rd_lenS hl' ?_
    walk_at "rd"
    by_cases c : b < cs.length
    · refine rd_is true (decide_eq_true (by omega)) (rd_T ?_)
      obtain ⟨x, hx⟩ : ∃ x, cs[b]? = some x := ⟨cs[b], List.getElem?_eq_getElem c⟩
      have hd : cs.drop b = x :: cs.drop (b + 1) := by
        rw [List.drop_eq_getElem_cons c]
        have : cs[b] = x := (List.getElem?_eq_some_iff.mp hx).2
        rw [this]
      walk_at "rd"
      refine rd_ixS hl' hx ?_
      walk_at "rd"
      refine ⟨x, rfl, ?_⟩
      walk_at "rd"
      rw [hd, List.takeWhile_cons] at h3
      cases e : inNm x with
      | true =>
        rw [e, if_pos rfl, List.length_cons] at h3
        refine rd_T (rd_turn ?_)
        walk_at "rd"
        exact ⟨cs.length - (b + 1), by omega, b + 1, rfl, rfl, by omega, by omega, by omega, rfl⟩
      | false =>
        rw [e, if_neg Bool.false_ne_true] at h3
        refine rd_F ?_
        walk_at "rd"
        have h4 : b = a + ((cs.drop a).takeWhile inNm).length := h3
        rw [← h4] at k
        exact k
    · refine rd_is false (decide_eq_false (by omega)) (rd_F ?_)
      walk_at "rd"
      have hd : cs.drop b = [] := List.drop_eq_nil_of_le (by omega)
      rw [hd] at h3
      have h4 : b = a + ((cs.drop a).takeWhile inNm).length := h3
      rw [← h4] at k
      exact k
theorem sc_read_word : FnScope ["text", "at", "module", "end", "word"] ["text", "at", "module"] (defScope s_read_word) := ⟨rfl, rfl, rfl, by decide +kernel, rfl, by decide +kernel, by decide +kernel⟩
theorem ok_read_word (T : Tx K mg) : Dok P w K mg base CX0 4 (He.ga K "read_word") ["text", "at", "module"] (spRd isLet) := by
  refine Dok.mk0 (T.F_read_word) sc_read_word rfl (fun _ _ _ _ _ _ us hl => match us, hl with | [_, _, _], _ => rfl) (fun vs H Q E h => ?_) (fun cdv A outer s H vs Q E hr h => ?_)
  · obtain ⟨cs, a, m, t, n, c, r, rfl, _⟩ := h; rfl
  · obtain ⟨cs, a, m, t, n, c, r, rfl, hl, hd, hc, ht, k⟩ := h
    obtain ⟨hx, ha, hr1⟩ := drop_get hd
    have hl' : cs.length ≤ 100000 := by omega
    refine ⟨_, (pss_cons (ps_set (i := 3) sc_read_word.nd rfl (Or.inl rfl) (pc (ok_run_end (K := K) T) T.g_run_end hr (pa_cons (pv 0) (pa_cons (pv 1) pa_nil))))
        (pss_cons (ps_set (i := 4) sc_read_word.nd rfl (Or.inl rfl) (pe_slice sl_str (pv 0) (po_some (pv 1)) (po_some (pv 3))))
        (pss_cons (ps_if (pt_cmpR op_in_seq (pv 4) (C8.pe_gc rfl T.r_RESERVED) (by rfl)) (pss_one (ps_ret (pe_tup (pa_cons (pe_tup (pa_cons pe_str (pa_cons (pv 4) (pa_cons (pv 1) pa_nil)))) (pa_cons (pv 3) pa_nil))))) pss_nil)
        (pss_cons (ps_if (pt_cmpR op_gt (pe_callB cl_lenStr (by rfl) T.n_len (by decide +kernel) (pa_cons (pv 4) pa_nil)) (C8.pe_gc rfl T.i_MAX_NAME) (nomark _)) pss_never pss_nil)
        (pss_one (ps_ret (pe_tup (pa_cons (pe_tup (pa_cons pe_str (pa_cons (pv 4) (pa_cons (pv 1) pa_nil)))) (pa_cons (pv 3) pa_nil))))))))), ?_⟩
    have hw : (cs.drop a).takeWhile inNm = (c :: r).takeWhile inNm := by rw [hd]
    have hwl : ((c :: r).takeWhile inNm).length ≤ cs.length - a := by
      rw [← hw]
      refine Nat.le_trans (tw_len _) ?_
      rw [List.length_drop]
      exact Nat.le_refl _
    walk_at "st"
    refine ⟨cs, a, rfl, by omega, hl, ?_⟩
    rw [hw]
    walk_at "rd"
    refine rd_slS hl' (by omega) (by omega) ?_
    have hs : (cs.drop a).take (a + ((c :: r).takeWhile inNm).length - a) = (c :: r).takeWhile inNm := by
      rw [Nat.add_sub_cancel_left, hd]
      exact tw_take _
    rw [hs]
    walk_at "rd"
    refine rd_inT (T.t_RESERVED _) rfl (strs_flat _) ?_
    walk_at "rd"
    rw [tok_let hc] at ht
    refine rd_two (fun e => ?_) (fun e => ?_)
    · have e' : inRes ((c :: r).takeWhile inNm) = true := e
      rw [if_pos e'] at ht
      obtain ⟨rfl, rfl⟩ := Prod.mk.inj (Option.some.inj ht)
      walk_at "rd"
      intro q hq
      walk_at "rd"
      intro p hp
      exact k _ p q (Same.trans (Same.upd hq) (Same.upd hp)) ⟨a, by rw [upd_ne (ne_of_none upd_same hp)]; exact upd_same⟩ upd_same
    · have e' : ¬ (inRes ((c :: r).takeWhile inNm) = true) := fun z => by
        have e2 : inRes ((c :: r).takeWhile inNm) = false := e
        rw [e2] at z
        cases z
      rw [if_neg e'] at ht
      by_cases e20 : ((c :: r).takeWhile inNm).length ≤ 20
      · rw [if_pos e20] at ht
        obtain ⟨rfl, rfl⟩ := Prod.mk.inj (Option.some.inj ht)
        walk_at "rd"
        refine rd_lenS (by omega) ?_
        walk_at "rd"
        refine rd_is false (decide_eq_false (by omega)) (rd_F ?_)
        walk_at "rd"
        intro q hq
        walk_at "rd"
        intro p hp
        exact k _ p q (Same.trans (Same.upd hq) (Same.upd hp)) ⟨a, by rw [upd_ne (ne_of_none upd_same hp)]; exact upd_same⟩ upd_same
      · rw [if_neg e20] at ht
        cases ht
theorem sc_read_number : FnScope ["text", "at", "module", "end", "digits", "char"] ["text", "at", "module"] (defScope s_read_number) := ⟨rfl, rfl, rfl, by decide +kernel, rfl, by decide +kernel, by decide +kernel⟩
theorem ok_read_number (T : Tx K mg) : Dok P w K mg base CX0 4 (He.ga K "read_number") ["text", "at", "module"] (spRd (fun c => !isLet c && isDig c)) := by
  refine Dok.mk0 (T.F_read_number) sc_read_number rfl (fun _ _ _ _ _ _ us hl => match us, hl with | [_, _, _], _ => rfl) (fun vs H Q E h => ?_) (fun cdv A outer s H vs Q E hr h => ?_)
  · obtain ⟨cs, a, m, t, n, c, r, rfl, _⟩ := h; rfl
  · obtain ⟨cs, a, m, t, n, c, r, rfl, hl, hd, hc, ht, k⟩ := h
    obtain ⟨hx, ha, hr1⟩ := drop_get hd
    have hl' : cs.length ≤ 100000 := by omega
    obtain ⟨hc1, hc2⟩ := Bool.and_eq_true_iff.mp hc
    have hc1 : isLet c = false := by
      cases q : isLet c with
      | false => rfl
      | true => rw [q] at hc1; cases hc1
    have hin : inNm c = true := by
      unfold inNm
      rw [hc1, hc2]
      rfl
    rw [tok_dig hc1 hc2] at ht
    by_cases hr0 : r.takeWhile inNm = []
    · rw [if_pos hr0] at ht
      obtain ⟨rfl, rfl⟩ := Prod.mk.inj (Option.some.inj ht)
      have hw : (cs.drop a).takeWhile inNm = [c] := by rw [hd, List.takeWhile_cons, if_pos hin, hr0]
      refine ⟨_, (pss_cons (ps_set (i := 3) sc_read_number.nd rfl (Or.inl rfl) (pc (ok_run_end (K := K) T) T.g_run_end hr (pa_cons (pv 0) (pa_cons (pv 1) pa_nil))))
        (pss_cons (ps_set (i := 4) sc_read_number.nd rfl (Or.inl rfl) (pe_slice sl_str (pv 0) (po_some (pv 1)) (po_some (pv 3))))
        (pss_cons (ps_if (PW.pt (pw_or (pt_cmpR op_gt (pe_callB cl_lenStr (by rfl) T.n_len (by decide +kernel) (pa_cons (pv 4) pa_nil)) pe_int (nomark _)) (pw_or1 (pt_not (pt_val (pe_callB (cr_all rfl) (by rfl) T.n_all (by decide +kernel) (pa_cons (pe_lc (own := [("char", 5)]) (g := gName 5) rfl sc_read_number.nd (pi_str (pv 4)) (blkOk_by (own := [("char", 5)]) (N := ["text", "at", "module", "end", "digits", "char"]) (sc := defScope s_read_number) (by decide +kernel)) (fun _ _ _ _ _ => (pg_name (i := 5) sc_read_number.nd rfl (Or.inl rfl))) (fun _ _ _ _ _ => pts_nil) (fun _ _ _ _ _ => (pc (ok_is_digit T) T.g_is_digit hr (pa_cons (pv 5) pa_nil)))) pa_nil))))))) pss_never pss_nil)
        (pss_cons (ps_if (PW.pt (pw_or (pt_cmpR op_gt (pe_callTy cl_intS (by rfl) T.n_int (by decide +kernel) (pa_cons (pv 4) pa_nil)) pe_int (nomark _)) (pw_or1 (PW.pt (pw_and (pt_cmpR op_eq (pe_ix ix_str (pv 4) pe_int (fun _ _ => rfl)) pe_str (nomark _)) (pw_and1 (pt_cmpR op_gt (pe_callB cl_lenStr (by rfl) T.n_len (by decide +kernel) (pa_cons (pv 4) pa_nil)) pe_int (nomark _)))))))) pss_never pss_nil)
        (pss_one (ps_ret (pe_tup (pa_cons (pe_tup (pa_cons pe_str (pa_cons (pe_callTy cl_intS (by rfl) T.n_int (by decide +kernel) (pa_cons (pv 4) pa_nil)) (pa_cons (pv 1) pa_nil)))) (pa_cons (pv 3) pa_nil))))))))), ?_⟩
      walk_at "st"
      refine ⟨cs, a, rfl, by omega, hl, ?_⟩
      rw [hw]
      walk_at "rd"
      refine rd_slS hl' (by show a ≤ a + 1; omega) (by show a + 1 ≤ _; omega) ?_
      have hs : (cs.drop a).take (a + [c].length - a) = [c] := by
        rw [Nat.add_sub_cancel_left, hd]
        rfl
      rw [hs]
      walk_at "rd"
      refine rd_lenS (Nat.le_of_ble_eq_true rfl) ?_
      walk_at "rd"
      refine rd_is false rfl (rd_F ?_)
      walk_at "rd"
      -- all([is_digit(char) for char in digits])
      refine ⟨_, rfl, S [c], rfl, fun D hD => ⟨fun i m H' => (i = 0 ∧ m = 1 ∧ H' = upd H D (.lst [])) ∨ (i = 1 ∧ m = 0 ∧ H' = upd (upd H D (.lst [])) D (.lst [.bl true])), ⟨1, Or.inl ⟨rfl, rfl, rfl⟩⟩, ?_⟩⟩
      rintro i m' H' (⟨rfl, rfl, rfl⟩ | ⟨rfl, rfl, rfl⟩)
      · refine Or.inr ⟨(by show 0 < 1; decide), _, fun H' h => ⟨0, by decide, h⟩, ?_⟩
        rintro x H' ⟨rfl, c', hc', rfl⟩
        have ec : c = c' := Option.some.inj hc'
        subst ec
        refine ⟨rfl, ?_⟩
        walk_at "rd"
        refine ⟨_, rfl, c, rfl, [], upd_same, Nat.lt_of_lt_of_le (by decide : 0 < 1) (by decide), Or.inr ⟨rfl, rfl, ?_⟩⟩
        rw [hc2]
        rfl
      · refine Or.inl ⟨(by show 1 ≤ 1; decide), ?_⟩
        walk_at "rd"
        refine ⟨D, [true], rfl, SqL.of upd_same, ?_⟩
        walk_at "rd"
        refine rd_is false rfl (rd_F ?_)
        walk_at "rd"
        refine ⟨S [c], (c : Int) - 48, rfl, ?_, (by show 1 ≤ 640; decide), ?_⟩
        · exact int1 hc2
        obtain ⟨hd1, hd2⟩ := dig_rng hc2
        walk_at "rd"
        refine rd_is false (decide_eq_false (by omega)) (rd_F ?_)
        walk_at "rd"
        refine rd_ixS (a := 0) (Nat.le_of_ble_eq_true rfl) rfl ?_
        walk_at "rd"
        refine rd_two (fun _ => ?_) (fun _ => ?_)
        · walk_at "rd"
          refine rd_lenS (Nat.le_of_ble_eq_true rfl) ?_
          walk_at "rd"
          refine rd_is false rfl (rd_F ?_)
          walk_at "rd"
          refine ⟨S [c], (c : Int) - 48, rfl, int1 hc2, (by show 1 ≤ 640; decide), ?_⟩
          walk_at "rd"
          intro q hq
          walk_at "rd"
          intro p hp
          exact k _ p q (num_same hD hq hp) ⟨a, by rw [upd_ne (ne_of_none upd_same hp)]; exact upd_same⟩ upd_same
        · walk_at "rd"
          refine ⟨S [c], (c : Int) - 48, rfl, int1 hc2, (by show 1 ≤ 640; decide), ?_⟩
          walk_at "rd"
          intro q hq
          walk_at "rd"
          intro p hp
          exact k _ p q (num_same hD hq hp) ⟨a, by rw [upd_ne (ne_of_none upd_same hp)]; exact upd_same⟩ upd_same
    · rw [if_neg hr0] at ht
      cases ht
theorem sc_read_string : FnScope ["text", "at", "module", "end"] ["text", "at", "module"] (defScope s_read_string) := ⟨rfl, rfl, rfl, by decide +kernel, rfl, by decide +kernel, by decide +kernel⟩
theorem ok_read_string (T : Tx K mg) : Dok P w K mg base CX0 4 (He.ga K "read_string") ["text", "at", "module"] (spRd (fun c => decide (c = 34))) := by
  refine Dok.mk0 (T.F_read_string) sc_read_string rfl (fun _ _ _ _ _ _ us hl => match us, hl with | [_, _, _], _ => rfl) (fun vs H Q E h => ?_) (fun cdv A outer s H vs Q E hr h => ?_)
  · obtain ⟨cs, a, m, t, n, c, r, rfl, _⟩ := h; rfl
  · obtain ⟨cs, a, m, t, n, c, r, rfl, hl, hd, hc, ht, k⟩ := h
    obtain ⟨hx, ha, hr1⟩ := drop_get hd
    have hl' : cs.length ≤ 100000 := by omega
    have hc : c = 34 := of_decide_eq_true hc
    subst hc
    rw [tok_str rfl rfl rfl] at ht
    by_cases h1 : r.takeWhile inNm = []
    · rw [if_pos h1] at ht
      cases ht
    rw [if_neg h1] at ht
    by_cases h2 : 20 < (r.takeWhile inNm).length
    · rw [if_pos h2] at ht
      cases ht
    rw [if_neg h2] at ht
    by_cases h3 : r[(r.takeWhile inNm).length]? = some 34
    · rw [if_pos h3] at ht
      obtain ⟨rfl, rfl⟩ := Prod.mk.inj (Option.some.inj ht)
      have hpos : 0 < (r.takeWhile inNm).length := List.length_pos_iff.mpr h1
      have h4 : cs[a + 1 + (r.takeWhile inNm).length]? = some 34 := by
        rw [← hr1] at h3 ⊢
        rw [List.getElem?_drop] at h3
        exact h3
      have h5 : a + 1 + (r.takeWhile inNm).length < cs.length := (List.getElem?_eq_some_iff.mp h4).1
      refine ⟨_, (pss_cons (ps_set (i := 3) sc_read_string.nd rfl (Or.inl rfl) (pc (ok_run_end (K := K) T) T.g_run_end hr (pa_cons (pv 0) (pa_cons (pe_op op_add (pv 1) pe_int) pa_nil))))
        (pss_cons (ps_if (PW.pt (pw_or (pt_cmpR op_eq (pv 3) (pe_op op_add (pv 1) pe_int) (nomark _)) (pw_or (pt_cmpR op_gt (pe_op op_sub (pe_op op_sub (pv 3) (pv 1)) pe_int) (C8.pe_gc rfl T.i_MAX_NAME) (nomark _)) (pw_or (pt_cmpR op_ge (pv 3) (pe_callB cl_lenStr (by rfl) T.n_len (by decide +kernel) (pa_cons (pv 0) pa_nil)) (nomark _)) (pw_or1 (pt_cmpR op_ne (pe_ix ix_str (pv 0) (pv 3) (fun _ _ => rfl)) pe_str (nomark _))))))) pss_never pss_nil)
        (pss_one (ps_ret (pe_tup (pa_cons (pe_tup (pa_cons pe_str (pa_cons (pe_slice sl_str (pv 0) (po_some (pe_op op_add (pv 1) pe_int)) (po_some (pv 3))) (pa_cons (pv 1) pa_nil)))) (pa_cons (pe_op op_add (pv 3) pe_int) pa_nil))))))), ?_⟩
      walk_at "st"
      refine ⟨cs, a + 1, rfl, by omega, hl, ?_⟩
      rw [hr1]
      generalize hn : (r.takeWhile inNm).length = n at *
      walk_at "rd"
      refine rd_is false (decide_eq_false (fun z => by have := V.int.inj z; omega)) (rd_F ?_)
      walk_at "rd"
      refine rd_is false (decide_eq_false (by omega)) (rd_F ?_)
      walk_at "rd"
      refine rd_lenS hl' ?_
      walk_at "rd"
      refine rd_is false (decide_eq_false (by omega)) (rd_F ?_)
      walk_at "rd"
      refine rd_ixS hl' h4 ?_
      walk_at "rd"
      refine rd_is false rfl (rd_F ?_)
      walk_at "rd"
      refine rd_slS (a := a + 1) (e := a + 1 + n) hl' (by omega) (by omega) ?_
      have hs : (cs.drop (a + 1)).take (a + 1 + n - (a + 1)) = r.takeWhile inNm := by
        rw [Nat.add_sub_cancel_left, hr1, ← hn]
        exact tw_take _
      rw [hs]
      walk_at "rd"
      intro q hq
      walk_at "rd"
      intro p hp
      refine k _ p q (Same.trans (Same.upd hq) (Same.upd hp)) ⟨a, by rw [upd_ne (ne_of_none upd_same hp)]; exact upd_same⟩ ?_
      rw [upd_same, show ((a + (n + 2) : Nat) : Int) = ((a + 1 + n : Nat) : Int) + 1 by omega]
    · rw [if_neg h3] at ht
      cases ht
theorem sc_read_sign : FnScope ["text", "at", "module", "sign"] ["text", "at", "module"] (defScope s_read_sign) := ⟨rfl, rfl, rfl, by decide +kernel, rfl, by decide +kernel, by decide +kernel⟩
theorem ok_read_sign (T : Tx K mg) : Dok P w K mg base CX0 1 (He.ga K "read_sign") ["text", "at", "module"] (spRd (fun c => !isLet c && (!isDig c && !decide (c = 34)))) := by
  refine Dok.mk0 (T.F_read_sign) sc_read_sign rfl (fun _ _ _ _ _ _ us hl => match us, hl with | [_, _, _], _ => rfl) (fun vs H Q E h => ?_) (fun cdv A outer s H vs Q E hr h => ?_)
  · obtain ⟨cs, a, m, t, n, c, r, rfl, _⟩ := h; rfl
  · obtain ⟨cs, a, m, t, n, c, r, rfl, hl, hd, hc, ht, k⟩ := h
    obtain ⟨hx, ha, hr1⟩ := drop_get hd
    have hl' : cs.length ≤ 100000 := by omega
    have hc : isLet c = false ∧ isDig c = false ∧ ¬ c = 34 := by simpa using hc
    obtain ⟨hc1, hc2, hc3⟩ := hc
    rw [tok_sig hc1 hc2 hc3] at ht
    by_cases h1 : signB c = true
    · rw [if_pos h1] at ht
      obtain ⟨rfl, rfl⟩ := Prod.mk.inj (Option.some.inj ht)
      obtain ⟨hm, h61⟩ := sign_one h1
      have hone : Txt.startswith3 (S cs) ⟨#[c]⟩ (a : Int) = true := by
        rw [sw_S (by simp), hd]
        exact beq_iff_eq.mpr rfl
      refine ⟨_, (pss_cons (ps_for PassesOwn.never rfl (pi_tup (C8.pe_gc rfl T.r_SIGNS)) (pg_name (i := 3) sc_read_sign.nd rfl (Or.inl rfl)) (pss_one (ps_if (pt_val (pe_bm PySem.F.plainAttrs_str PySem.F.slot_str_startswith PySem.F.type_str_startswith mt_sw3 (pv 0) (pa_cons (pv 3) (pa_cons (pv 1) pa_nil)))) (pss_one (ps_ret (pe_tup (pa_cons (pe_tup (pa_cons pe_str (pa_cons (pv 3) (pa_cons (pv 1) pa_nil)))) (pa_cons (pe_op op_add (pv 1) (pe_callB cl_lenStr (by rfl) T.n_len (by decide +kernel) (pa_cons (pv 3) pa_nil))) pa_nil))))) pss_nil)))
        pss_never), ?_⟩
      walk_at "st"
      refine ⟨_, rfl, ⟨_, T.t_SIGNS _⟩, for_tup (K := K) (a := He.ga K "SIGNS") (xs := signsL.map V.str) (fun i σ H' => H' = H ∧ (∃ v : Option V, σ = [some (.str (S cs)), some (.int (a : Int)), some m, v]) ∧ ∀ j : Nat, j < i → ∀ z : Str, signsL[j]? = some z → Txt.startswith3 (S cs) z (a : Int) = false)
        ⟨rfl, ⟨none, rfl⟩, fun j hj => absurd hj (Nat.not_lt_zero _)⟩ (fun i σ H' _ _ => T.t_SIGNS _) ?_ ?_⟩
      · rintro i x σ H' hi ⟨rfl, ⟨v, rfl⟩, hno⟩
        obtain ⟨z, hz, rfl⟩ : ∃ z, signsL[i]? = some z ∧ x = V.str z := by
          rw [List.getElem?_map] at hi
          cases e : signsL[i]? with
          | none => rw [e] at hi; cases hi
          | some z => rw [e] at hi; exact ⟨z, rfl, (Option.some.inj hi).symm⟩
        walk_at "rd"
        have hzm := List.mem_of_getElem? hz
        refine rd_two (fun e => ?_) (fun e => ?_)
        · have hzc : z = ⟨#[c]⟩ := by
            rcases signs_are z hzm with e2 | ⟨d, rfl⟩
            · rw [sw_S (by rw [e2]; simp), hd, e2] at e
              have e3 := eq_of_beq e
              have l2 : z.length = 2 := by
                have : z.cps.toList.length = 2 := by rw [e2]; rfl
                exact this
              rw [l2, List.take_succ_cons] at e3
              exact absurd (List.cons.inj e3).1 h61
            · rw [sw_S (by simp), hd] at e
              have e3 : [c] = [d] := eq_of_beq e
              rw [(List.cons.inj e3).1]
          subst hzc
          walk_at "rd"
          intro q hq
          walk_at "rd"
          refine rd_lenS (cs := [c]) (Nat.le_of_ble_eq_true rfl) ?_
          walk_at "rd"
          intro p hp
          exact k _ p q (Same.trans (Same.upd hq) (Same.upd hp)) ⟨a, by rw [upd_ne (ne_of_none upd_same hp)]; exact upd_same⟩ upd_same
        · walk_at "rd"
          refine ⟨rfl, ⟨_, rfl⟩, fun j hj z' hz' => ?_⟩
          rcases Nat.lt_succ_iff_lt_or_eq.mp hj with h | h
          · exact hno j h z' hz'
          · subst h
            rw [hz] at hz'
            cases hz'
            exact e
      · rintro σ H' ⟨rfl, _, hno⟩
        obtain ⟨j, hj, e⟩ := List.mem_iff_getElem.mp hm
        have := hno j (by rw [List.length_map]; exact hj) _ (by rw [List.getElem?_eq_getElem hj, e])
        rw [hone] at this
        cases this
    · rw [if_neg h1] at ht
      cases ht
theorem sc_read_token : FnScope ["text", "at", "module"] ["text", "at", "module"] (defScope s_read_token) := ⟨rfl, rfl, rfl, by decide +kernel, rfl, by decide +kernel, by decide +kernel⟩
theorem ok_read_token (T : Tx K mg) : Dok P w K mg base CX0 5 (He.ga K "read_token") ["text", "at", "module"] (spRd (fun _ => true)) := by
  refine Dok.mk0 (T.F_read_token) sc_read_token rfl (fun _ _ _ _ _ _ us hl => match us, hl with | [_, _, _], _ => rfl) (fun vs H Q E h => ?_) (fun cdv A outer s H vs Q E hr h => ?_)
  · obtain ⟨cs, a, m, t, n, c, r, rfl, _⟩ := h; rfl
  · obtain ⟨cs, a, m, t, n, c, r, rfl, hl, hd, hc, ht, k⟩ := h
    obtain ⟨hx, ha, hr1⟩ := drop_get hd
    have hl' : cs.length ≤ 100000 := by omega
    refine ⟨_, (pss_cons (ps_if (pt_val (pc (ok_is_letter (K := K) T) T.g_is_letter hr (pa_cons (pe_ix ix_str (pv 0) (pv 1) (fun _ _ => rfl)) pa_nil))) (pss_one (ps_ret (pc (ok_read_word (K := K) T) T.g_read_word hr (pa_cons (pv 0) (pa_cons (pv 1) (pa_cons (pv 2) pa_nil)))))) pss_nil)
        (pss_cons (ps_if (pt_val (pc (ok_is_digit (K := K) T) T.g_is_digit hr (pa_cons (pe_ix ix_str (pv 0) (pv 1) (fun _ _ => rfl)) pa_nil))) (pss_one (ps_ret (pc (ok_read_number (K := K) T) T.g_read_number hr (pa_cons (pv 0) (pa_cons (pv 1) (pa_cons (pv 2) pa_nil)))))) pss_nil)
        (pss_cons (ps_if (pt_cmpR op_eq (pe_ix ix_str (pv 0) (pv 1) (fun _ _ => rfl)) pe_str (nomark _)) (pss_one (ps_ret (pc (ok_read_string (K := K) T) T.g_read_string hr (pa_cons (pv 0) (pa_cons (pv 1) (pa_cons (pv 2) pa_nil)))))) pss_nil)
        (pss_one (ps_ret (pc (ok_read_sign (K := K) T) T.g_read_sign hr (pa_cons (pv 0) (pa_cons (pv 1) (pa_cons (pv 2) pa_nil))))))))), ?_⟩
    walk_at "st"
    refine rd_ixS hl' hx ?_
    walk_at "rd"
    refine ⟨c, rfl, ?_⟩
    walk_at "rd"
    refine rd_two (fun e1 => ?_) (fun e1 => ?_)
    · walk_at "rd"
      exact ⟨cs, a, m, t, n, c, r, rfl, hl, hd, e1, ht, k⟩
    walk_at "rd"
    refine rd_ixS hl' hx ?_
    walk_at "rd"
    refine ⟨c, rfl, ?_⟩
    walk_at "rd"
    refine rd_two (fun e2 => ?_) (fun e2 => ?_)
    · walk_at "rd"
      exact ⟨cs, a, m, t, n, c, r, rfl, hl, hd, by show (!isLet c && isDig c) = true; rw [e1, e2]; rfl, ht, k⟩
    walk_at "rd"
    refine rd_ixS hl' hx ?_
    walk_at "rd"
    refine rd_is (decide (c = 34)) (decide_eq_decide.mpr ⟨fun z => by
      have z2 : (⟨#[c]⟩ : Str) = "\"" := V.str.inj z
      have z3 : ([c] : List Nat) = [34] := congrArg (fun q : Str => q.cps.toList) z2
      exact (List.cons.inj z3).1, fun z => by
      subst z
      rfl⟩) ?_
    refine rd_two (fun e3 => ?_) (fun e3 => ?_)
    · walk_at "rd"
      exact ⟨cs, a, m, t, n, c, r, rfl, hl, hd, e3, ht, k⟩
    walk_at "rd"
    exact ⟨cs, a, m, t, n, c, r, rfl, hl, hd, by show (!isLet c && (!isDig c && !decide (c = 34))) = true; rw [e1, e2, e3]; rfl, ht, k⟩
end
end K5
set_option maxHeartbeats 4000000

namespace K5
open PySem PySem.Spec PyProof.Rows L2
theorem tok_front {c : Nat} {r : List Nat} {t : Tok} {n : Nat} (h : tokOf (c :: r) = some (t, n)) : 0 < n ∧ n ≤ (c :: r).length ∧ c ≠ 32 ∧ c ≠ 9 ∧ c ≠ 10 ∧ c ≠ 35 := by
  cases h1 : isLet c with
  | true =>
    rw [tok_let h1] at h
    have hc : inNm c = true := by unfold inNm; rw [h1]; rfl
    have hpos : 0 < ((c :: r).takeWhile inNm).length := by
      rw [List.takeWhile_cons, if_pos hc]
      exact Nat.succ_pos _
    have hr : (97 ≤ c ∧ c ≤ 122) ∨ (65 ≤ c ∧ c ≤ 90) := by
      unfold isLet at h1
      simpa only [Bool.or_eq_true, Bool.and_eq_true, decide_eq_true_eq] using h1
    have hl := tw_len (p := inNm) (c :: r)
    split at h
    · obtain ⟨rfl, rfl⟩ := Prod.mk.inj (Option.some.inj h)
      refine ⟨hpos, hl, ?_, ?_, ?_, ?_⟩ <;> omega
    · split at h
      · obtain ⟨rfl, rfl⟩ := Prod.mk.inj (Option.some.inj h)
        refine ⟨hpos, hl, ?_, ?_, ?_, ?_⟩ <;> omega
      · cases h
  | false =>
    cases h2 : isDig c with
    | true =>
      rw [tok_dig h1 h2] at h
      obtain ⟨d1, d2⟩ := dig_rng h2
      split at h
      · obtain ⟨rfl, rfl⟩ := Prod.mk.inj (Option.some.inj h)
        refine ⟨Nat.one_pos, Nat.succ_le_succ (Nat.zero_le _), ?_, ?_, ?_, ?_⟩ <;> omega
      · cases h
    | false =>
      by_cases h3 : c = 34
      · rw [tok_str h1 h2 h3] at h
        split at h
        · cases h
        split at h
        · cases h
        split at h
        · rename_i q
          obtain ⟨rfl, rfl⟩ := Prod.mk.inj (Option.some.inj h)
          have := (List.getElem?_eq_some_iff.mp q).1
          refine ⟨Nat.succ_pos _, by rw [List.length_cons]; omega, ?_, ?_, ?_, ?_⟩ <;> omega
        · cases h
      · rw [tok_sig h1 h2 h3] at h
        split at h
        · rename_i q
          obtain ⟨rfl, rfl⟩ := Prod.mk.inj (Option.some.inj h)
          unfold signB at q
          simp only [Bool.or_eq_true, decide_eq_true_eq] at q
          refine ⟨Nat.one_pos, Nat.succ_le_succ (Nat.zero_le _), ?_, ?_, ?_, ?_⟩ <;> omega
        · cases h
/-- the signs are read as these tokens -/
inductive Lex : List Nat → List Tok → Prop
  | nil : Lex [] []
  | sp {r : List Nat} {ts : List Tok} : Lex r ts → Lex (32 :: r) ts
  | tok {c : Nat} {r : List Nat} {t : Tok} {n : Nat} {ts : List Tok} : tokOf (c :: r) = some (t, n) → Lex ((c :: r).drop n) ts → Lex (c :: r) (t :: ts)
/-- these tokens stand at the addresses -/
def ToksAs (H : Hp) (as : List Addr) (ts : List Tok) : Prop := as.length = ts.length ∧ ∀ (i : Nat) (t : Tok), ts[i]? = some t → ∃ a, as[i]? = some a ∧ TokAt H a t
def Toks (H : Hp) (l : Addr) (ts : List Tok) : Prop := ∃ as : List Addr, H l = some (.lst (as.map V.ref)) ∧ ToksAs H as ts
theorem ToksAs.same {H H' : Hp} {as : List Addr} {ts : List Tok} (h : ToksAs H as ts) (e : Same H H') : ToksAs H' as ts :=
  ⟨h.1, fun i t q => let ⟨a, h1, h2⟩ := h.2 i t q; ⟨a, h1, h2.same e⟩⟩
/-- .. what is no tuple may change -/
theorem ToksAs.kp {H H' : Hp} {as : List Addr} {ts : List Tok} {r : Addr} (h : ToksAs H as ts) (e : Kp r H H') (hr : ∀ xs, H r ≠ some (.tup xs)) : ToksAs H' as ts :=
  ⟨h.1, fun i t q => let ⟨a, h1, j, h2⟩ := h.2 i t q; ⟨a, h1, j, e _ _ h2 fun z => hr _ (z ▸ h2)⟩⟩
theorem ToksAs.snoc {H : Hp} {as : List Addr} {ts : List Tok} {a : Addr} {t : Tok} (h : ToksAs H as ts) (ha : TokAt H a t) : ToksAs H (as ++ [a]) (ts ++ [t]) := by
  refine ⟨by rw [List.length_append, List.length_append, h.1]; rfl, fun i t' q => ?_⟩
  by_cases hi : i < ts.length
  · rw [List.getElem?_append_left hi] at q
    obtain ⟨b, h1, h2⟩ := h.2 i t' q
    exact ⟨b, by rw [List.getElem?_append_left (by rw [h.1]; exact hi)]; exact h1, h2⟩
  · rw [List.getElem?_append_right (Nat.le_of_not_lt hi)] at q
    have hz : i - ts.length = 0 := by
      have := (List.getElem?_eq_some_iff.mp q).1
      simpa using this
    rw [hz] at q
    cases q
    exact ⟨a, by rw [List.getElem?_append_right (by rw [h.1]; exact Nat.le_of_not_lt hi), h.1, hz]; rfl, ha⟩
def spTokens : Sp := fun vs H Q _ => ∃ (cs : List Nat) (m : V) (ts : List Tok), vs = [.str (S cs), m] ∧ cs.length ≤ 20000 ∧ Lex cs ts ∧ ∀ H' l, Same H H' → Toks H' l ts → Q (.ref l) H'
section
variable {P : Program} {w : World} {K : PySem.W.Frag} {mg : Str → Option Value} {base : Heap}
theorem sc_tokens : FnScope ["text", "module", "result", "at", "token"] ["text", "module"] (defScope s_tokens) := ⟨rfl, rfl, rfl, by decide +kernel, rfl, by decide +kernel, by decide +kernel⟩
theorem ok_tokens (T : Tx K mg) : Dok P w K mg base CX0 6 (He.ga K "tokens") ["text", "module"] (spTokens) := by
  refine Dok.mk0 (T.F_tokens) sc_tokens rfl (fun _ _ _ _ _ _ us hl => match us, hl with | [_, _], _ => rfl) (fun vs H Q E h => ?_) (fun cdv A outer s H vs Q E hr h => ?_)
  · obtain ⟨cs, m, ts, rfl, _⟩ := h; rfl
  · obtain ⟨cs, m, ts, rfl, hl, hx, k⟩ := h
    have hl' : cs.length ≤ 100000 := by omega
    refine ⟨_, (pss_cons (ps_if (pt_cmpR op_gt (pe_callB cl_lenStr (by rfl) T.n_len (by decide +kernel) (pa_cons (pv 0) pa_nil)) (C8.pe_gc rfl T.i_MAX_TEXT) (nomark _)) pss_never pss_nil)
        (pss_cons (ps_set (i := 2) sc_tokens.nd rfl (Or.inl rfl) (pe_lst pa_nil))
        (pss_cons (ps_set (i := 3) sc_tokens.nd rfl (Or.inl rfl) pe_int)
        (pss_cons (ps_while PassesOwn.never (pt_cmpR op_lt (pv 3) (pe_callB cl_lenStr (by rfl) T.n_len (by decide +kernel) (pa_cons (pv 0) pa_nil)) (nomark _)) (pss_one (ps_if (pt_cmpR op_in_seq (pe_ix ix_str (pv 0) (pv 3) (fun _ _ => rfl)) (pe_tup (pa_cons pe_str (pa_cons pe_str (pa_cons pe_str pa_nil)))) (by rfl)) (pss_one (ps_set (i := 3) sc_tokens.nd rfl (Or.inl rfl) (pe_op op_add (pv 3) pe_int))) (pss_one (ps_if (pt_cmpR op_eq (pe_ix ix_str (pv 0) (pv 3) (fun _ _ => rfl)) pe_str (nomark _)) (pss_one ps_never) (pss_cons (ps_asg (pc (ok_read_token (K := K) T) T.g_read_token hr (pa_cons (pv 0) (pa_cons (pv 3) (pa_cons (pv 1) pa_nil)))) (pg_tup rfl (pgs_cons (pg_name (i := 4) sc_tokens.nd rfl (Or.inl rfl)) (pgs_cons (pg_name (i := 3) sc_tokens.nd rfl (Or.inl rfl)) pgs_nil))))
        (pss_one (ps_expr (pe_bm PySem.F.plainAttrs_list PySem.F.slot_list_append PySem.F.type_list_append mt_append (pv 2) (pa_cons (pv 4) pa_nil))))))))))
        (pss_one (ps_ret (pv 2))))))), ?_⟩
    walk_at "st"
    refine rd_lenS hl' ?_
    walk_at "rd"
    refine rd_is false (decide_eq_false (by omega)) (rd_F ?_)
    walk_at "rd"
    intro L hL
    walk_at "rd"
    refine rd_while (fun m' σ H' => ∃ (b : Nat) (v : Option V) (as : List Addr) (done todo : List Tok), σ = [some (.str (S cs)), some m, some (.ref L), some (.int (b : Int)), v] ∧ Same H H' ∧ H' L = some (.lst (as.map V.ref)) ∧ ToksAs H' as done ∧ done ++ todo = ts ∧
      Lex (cs.drop b) todo ∧ as.length ≤ b ∧ b ≤ cs.length ∧ m' = cs.length - b) (cs.length - 0)
      ⟨0, none, [], [], ts, rfl, Same.upd hL, upd_same, ⟨rfl, fun i t q => by cases q⟩, rfl, hx, Nat.le_refl _, Nat.zero_le _, rfl⟩ ?_
    rintro m' σ H' ⟨b, v, as, done, todo, rfl, hs, hLL, hT, hdt, hlex, hab, hbl, rfl⟩
    have hLt : ∀ xs, H' L ≠ some (.tup xs) := fun xs z => by rw [hLL] at z; cases z
    walk_at "rd"
    refine rd_lenS hl' ?_
    walk_at "rd"
    by_cases hlt : b < cs.length
    · refine rd_is true (decide_eq_true (by omega)) (rd_T ?_)
      refine rd_turn ?_
      obtain ⟨c, hc⟩ : ∃ c, cs[b]? = some c := ⟨cs[b], List.getElem?_eq_getElem hlt⟩
      have hd : cs.drop b = c :: cs.drop (b + 1) := by
        rw [List.drop_eq_getElem_cons hlt, (List.getElem?_eq_some_iff.mp hc).2]
      walk_at "rd"
      refine rd_ixS hl' hc ?_
      walk_at "rd"
      intro U hU
      refine rd_inT (xs := [.str " ", .str "\t", .str "\n"]) (SqT.of upd_same) rfl rfl ?_
      have hs2 : Same H' (upd H' U (.tup [.str " ", .str "\t", .str "\n"])) := Same.upd hU
      generalize upd H' U (.tup [.str " ", .str "\t", .str "\n"]) = H2 at hs2 ⊢
      walk_at "rd"
      rw [hd] at hlex
      cases hlex with
      | sp h =>
        refine rd_is true rfl (rd_T ?_)
        walk_at "rd"
        exact ⟨cs.length - (b + 1), by omega, b + 1, v, as, done, todo, rfl, hs.trans hs2, hs2 _ _ hLL, hT.same hs2, hdt, h, by omega, by omega, rfl⟩
      | @tok _ _ t n ts' ht h =>
        obtain ⟨hn0, hn1, n32, n9, n10, n35⟩ := tok_front ht
        have sgn : ∀ (d : Nat) (z : Str), z.cps.toList = [d] → c ≠ d → ((⟨#[c]⟩ : Str) = z) = False := fun d z hz hne => eq_false fun e => by
          rw [← e] at hz
          exact hne (List.cons.inj (show ([c] : List Nat) = [d] from hz)).1
        have hin : inV (.str ⟨#[c]⟩) [.str " ", .str "\t", .str "\n"] = false := by
          have f : ∀ (d : Nat) (z : Str), z.cps.toList = [d] → c ≠ d → eqV (.str z) (.str ⟨#[c]⟩) = false := fun d z hz hne => by
            show (z == (⟨#[c]⟩ : Str)) = false
            refine beq_eq_false_iff_ne.mpr fun e => ?_
            rw [e] at hz
            exact hne (List.cons.inj (show ([c] : List Nat) = [d] from hz)).1
          show (eqV (.str " ") (.str ⟨#[c]⟩) || (eqV (.str "\t") (.str ⟨#[c]⟩) || (eqV (.str "\n") (.str ⟨#[c]⟩) || false))) = false
          rw [f 32 " " rfl n32, f 9 "\t" rfl n9, f 10 "\n" rfl n10]
          rfl
        refine rd_is false hin (rd_F ?_)
        walk_at "rd"
        refine rd_ixS hl' hc ?_
        walk_at "rd"
        refine rd_is false (decide_eq_false fun z => by
          have := sgn 35 "#" rfl n35
          rw [V.str.inj z] at this
          simp at this) (rd_F ?_)
        walk_at "rd"
        refine ⟨cs, b, m, t, n, c, _, rfl, hl, hd, rfl, ht, fun H3 p q hs3 htq hp => ?_⟩
        have hL3 := hs3 _ _ (hs2 _ _ hLL)
        walk_at "rd"
        refine rd_append hL3 (by rw [List.length_map]; omega) ?_
        have hT3 : ToksAs H3 (as ++ [q]) (done ++ [t]) := ((hT.same hs2).same hs3).snoc htq
        have hlen : (cs.drop b).length = cs.length - b := List.length_drop
        rw [hd] at hlen
        refine ⟨cs.length - (b + n), by omega, b + n, some (.ref q), as ++ [q], done ++ [t], ts', rfl, fun x o e => ?_, by rw [upd_same, List.map_append]; rfl, hT3.kp Kp.set (fun xs z => by rw [hL3] at z; cases z), by rw [List.append_assoc]; exact hdt, ?_, ?_, by omega, rfl⟩
        · rw [upd_ne (fun z => by rw [z, hL] at e; cases e)]
          exact hs3 _ _ (hs2 _ _ (hs x o e))
        · rw [← List.drop_drop, hd]
          exact h
        · rw [List.length_append]
          show as.length + 1 ≤ b + n
          omega
    · refine rd_is false (decide_eq_false (by omega)) (rd_F ?_)
      walk_at "rd"
      have hnil : cs.drop b = [] := List.drop_eq_nil_of_le (by omega)
      rw [hnil] at hlex
      cases hlex
      rw [List.append_nil] at hdt
      subst hdt
      exact k _ L hs ⟨as, hLL, hT⟩
end
end K5
set_option maxHeartbeats 4000000

namespace K5
open PySem PySem.Spec PyProof.Rows L2
/-! the reader of tokens -/
def GoodT (t : Tok) : Prop := t.1 = ("number" : Str) ∨ ∃ z, t.2 = V.str z
theorem tok_good {cs : List Nat} {t : Tok} {n : Nat} (h : tokOf cs = some (t, n)) : GoodT t := by
  cases cs with
  | nil => cases h
  | cons c r =>
    cases h1 : isLet c with
    | true =>
      rw [tok_let h1] at h
      split at h
      · obtain ⟨rfl, rfl⟩ := Prod.mk.inj (Option.some.inj h)
        exact .inr ⟨_, rfl⟩
      · split at h
        · obtain ⟨rfl, rfl⟩ := Prod.mk.inj (Option.some.inj h)
          exact .inr ⟨_, rfl⟩
        · cases h
    | false =>
      cases h2 : isDig c with
      | true =>
        rw [tok_dig h1 h2] at h
        split at h
        · obtain ⟨rfl, rfl⟩ := Prod.mk.inj (Option.some.inj h)
          exact .inl rfl
        · cases h
      | false =>
        by_cases h3 : c = 34
        · rw [tok_str h1 h2 h3] at h
          split at h
          · cases h
          split at h
          · cases h
          split at h
          · obtain ⟨rfl, rfl⟩ := Prod.mk.inj (Option.some.inj h)
            exact .inr ⟨_, rfl⟩
          · cases h
        · rw [tok_sig h1 h2 h3] at h
          split at h
          · obtain ⟨rfl, rfl⟩ := Prod.mk.inj (Option.some.inj h)
            exact .inr ⟨_, rfl⟩
          · cases h
theorem lex_good {cs : List Nat} {ts : List Tok} (h : Lex cs ts) : ∀ t ∈ ts, GoodT t := by
  induction h with
  | nil => intro t ht; cases ht
  | sp _ ih => exact ih
  | tok e _ ih =>
    intro t ht
    rcases List.mem_cons.mp ht with rfl | ht
    · exact tok_good e
    · exact ih t ht
/-- the attributes of a Reader -/
def rdF (l : Addr) (m : V) (n : Nat) (k : Int) : List (Str × V) := [("rest", .ref l), ("module", m), ("place", .int (n : Int)), ("limit", .int k), ("inside", .int 0)]
/-- a Reader at r, at the n-th of its tokens -/
structure RdAt (K : PySem.W.Frag) (H : Hp) (r : Addr) (ts : List Tok) (n : Nat) (l dx : Addr) (m : V) (k : Int) (as : List Addr) : Prop where
  ob : H r = some (.ins (cReader K) dx (rdF l m n k))
  ls : H l = some (.lst (as.map V.ref))
  tk : ToksAs H as ts
  gd : ∀ t ∈ ts, GoodT t
def RD (K : PySem.W.Frag) (H : Hp) (r : Addr) (ts : List Tok) (n : Nat) : Prop := ∃ l dx m k as, RdAt K H r ts n l dx m k as
theorem RdAt.kp {K : PySem.W.Frag} {H H' : Hp} {r : Addr} {ts : List Tok} {n : Nat} {l dx : Addr} {m : V} {k : Int} {as : List Addr} (h : RdAt K H r ts n l dx m k as) (e : Same H H') : RdAt K H' r ts n l dx m k as :=
  ⟨e _ _ h.ob, e _ _ h.ls, h.tk.same e, h.gd⟩
theorem RD.same {K : PySem.W.Frag} {H H' : Hp} {r : Addr} {ts : List Tok} {n : Nat} (h : RD K H r ts n) (e : Same H H') : RD K H' r ts n := let ⟨l, dx, m, k, as, q⟩ := h; ⟨l, dx, m, k, as, q.kp e⟩
/-- the reader steps on -/
theorem RdAt.step {K : PySem.W.Frag} {H : Hp} {r : Addr} {ts : List Tok} {n n' : Nat} {l dx : Addr} {m : V} {k : Int} {as : List Addr} (h : RdAt K H r ts n l dx m k as) : RdAt K (upd H r (.ins (cReader K) dx (rdF l m n' k))) r ts n' l dx m k as :=
  ⟨upd_same, by rw [upd_ne (fun z => by have q := h.ls; rw [z, h.ob] at q; cases q)]; exact h.ls, h.tk.kp Kp.set (fun xs z => by rw [h.ob] at z; cases z), h.gd⟩
theorem RdAt.notup {K : PySem.W.Frag} {H : Hp} {r : Addr} {ts : List Tok} {n : Nat} {l dx : Addr} {m : V} {k : Int} {as : List Addr} (h : RdAt K H r ts n l dx m k as) {H' : Hp} (e : Kp r H H') {a : Addr} {xs : List V} (q : H a = some (.tup xs)) : H' a = some (.tup xs) :=
  e _ _ q fun z => by rw [z, h.ob] at q; cases q
/-- what a Reader's 'rest' names -/
def restOf (H : Hp) (r : Addr) : Option V := match H r with
  | some (.ins _ _ fs) => fs.lookup ("rest" : Str)
  | _ => none
/-- all but the Reader stands as it stood, and its tokens are the same -/
def KR (r : Addr) (H H' : Hp) : Prop := Kp r H H' ∧ ∀ v, restOf H r = some v → restOf H' r = some v
theorem KR.refl (r : Addr) (H : Hp) : KR r H H := ⟨Kp.refl r H, fun _ e => e⟩
theorem KR.trans {r : Addr} {H H1 H2 : Hp} (a : KR r H H1) (b : KR r H1 H2) : KR r H H2 := ⟨a.1.trans b.1, fun v e => b.2 v (a.2 v e)⟩
theorem restOf_same {r : Addr} {H H' : Hp} (e : Same H H') {v : V} (h : restOf H r = some v) : restOf H' r = some v := by
  unfold restOf at h ⊢
  cases q : H r with
  | none => rw [q] at h; cases h
  | some o =>
    rw [e _ _ q]
    rw [q] at h
    exact h
theorem KR.same {r : Addr} {H H1 H2 : Hp} (a : KR r H H1) (b : Same H1 H2) : KR r H H2 := ⟨a.1.same b, fun v e => restOf_same b (a.2 v e)⟩
theorem RdAt.kr {K : PySem.W.Frag} {H : Hp} {r : Addr} {ts : List Tok} {n n' : Nat} {l dx : Addr} {m : V} {k : Int} {as : List Addr} (h : RdAt K H r ts n l dx m k as) : KR r H (upd H r (.ins (cReader K) dx (rdF l m n' k))) :=
  ⟨Kp.set, fun v e => by
    unfold restOf at e ⊢
    rw [upd_same]
    rw [h.ob] at e
    exact e⟩
theorem RdAt.rest {K : PySem.W.Frag} {H : Hp} {r : Addr} {ts : List Tok} {n : Nat} {l dx : Addr} {m : V} {k : Int} {as : List Addr} (h : RdAt K H r ts n l dx m k as) : restOf H r = some (.ref l) := by
  unfold restOf
  rw [h.ob]
  rfl
def seesB (ts : List Tok) (n : Nat) (k v : Str) : Bool := match ts[n]? with
  | some t => decide (V.str t.1 = V.str k) && decide (t.2 = V.str v)
  | none => false
def kindB (ts : List Tok) (n : Nat) (k : Str) : Bool := match ts[n]? with
  | some t => decide (V.str t.1 = V.str k)
  | none => false
def spRInit (K : PySem.W.Frag) : Sp := fun vs H Q _ => ∃ (r dx : Addr) (cs : List Nat) (m : V) (ts : List Tok), vs = [.ref r, .str (S cs), m] ∧ H r = some (.ins (cReader K) dx []) ∧ cs.length ≤ 20000 ∧ Lex cs ts ∧
  ∀ H', Kp r H H' → RD K H' r ts 0 → Q .non H'
def spRAt (K : PySem.W.Frag) : Sp := fun vs H Q _ => ∃ (r : Addr) (ts : List Tok) (n : Nat), vs = [.ref r] ∧ RD K H r ts n ∧ ∀ i : Int, Q (.int i) H
def spSees (K : PySem.W.Frag) : Sp := fun vs H Q _ => ∃ (r : Addr) (ts : List Tok) (n : Nat) (k v : Str), vs = [.ref r, .str k, .str v] ∧ RD K H r ts n ∧ k ≠ "number" ∧ Q (.bl (seesB ts n k v)) H
def spSeesK (K : PySem.W.Frag) : Sp := fun vs H Q _ => ∃ (r : Addr) (ts : List Tok) (n : Nat) (k : Str), vs = [.ref r, .str k] ∧ RD K H r ts n ∧ Q (.bl (kindB ts n k)) H
def spAccept (K : PySem.W.Frag) : Sp := fun vs H Q _ => ∃ (r : Addr) (ts : List Tok) (n : Nat) (k v : Str), vs = [.ref r, .str k, .str v] ∧ RD K H r ts n ∧ k ≠ "number" ∧
  ((seesB ts n k v = true ∧ ∀ H', KR r H H' → RD K H' r ts (n + 1) → Q (.bl true) H') ∨ (seesB ts n k v = false ∧ Q (.bl false) H))
def spExpect (K : PySem.W.Frag) : Sp := fun vs H Q _ => ∃ (r : Addr) (ts : List Tok) (n : Nat) (k v : Str), vs = [.ref r, .str k, .str v] ∧ RD K H r ts n ∧ k ≠ "number" ∧ seesB ts n k v = true ∧ ∀ H', KR r H H' → RD K H' r ts (n + 1) → Q .non H'
def spRead (K : PySem.W.Frag) : Sp := fun vs H Q _ => ∃ (r : Addr) (ts : List Tok) (n : Nat) (k : Str) (v : V), vs = [.ref r, .str k] ∧ RD K H r ts n ∧ ts[n]? = some (k, v) ∧ ∀ H', KR r H H' → RD K H' r ts (n + 1) → Q v H'
section
variable {P : Program} {w : World} {K : PySem.W.Frag} {mg : Str → Option Value} {base : Heap}
theorem sc_Reader_init : FnScope ["self", "text", "module"] ["self", "text", "module"] (defScope s_Reader_init) := ⟨rfl, rfl, rfl, by decide +kernel, rfl, by decide +kernel, by decide +kernel⟩
theorem ok_Reader_init (T : Tx K mg) : Dok P w K mg base CX0 7 (He.ma K (He.ga K "Reader") "__init__") ["self", "text", "module"] (spRInit K) := by
  refine Dok.mk0 (T.F_Reader_init) sc_Reader_init rfl (fun _ _ _ _ _ _ us hl => match us, hl with | [_, _, _], _ => rfl) (fun vs H Q E h => ?_) (fun cdv A outer s H vs Q E hr h => ?_)
  · obtain ⟨r, dx, cs, m, ts, rfl, _⟩ := h; rfl
  · obtain ⟨r, dx, cs, m, ts, rfl, hr0, hl, hx, k⟩ := h
    obtain ⟨cR, n1, n2, n3, n4, n5⟩ := T.reader
    have hl' : cs.length ≤ 100000 := by omega
    refine ⟨_, (pss_cons (ps_fld (pv 0) (pc (ok_tokens (K := K) T) T.g_tokens hr (pa_cons (pv 1) (pa_cons (pv 2) pa_nil))) rfl)
        (pss_cons (ps_fld (pv 0) (pv 2) rfl)
        (pss_cons (ps_fld (pv 0) pe_int rfl)
        (pss_cons (ps_fld (pv 0) (pe_callB cl_lenStr (by rfl) T.n_len (by decide +kernel) (pa_cons (pv 1) pa_nil)) rfl)
        (pss_one (ps_fld (pv 0) pe_int rfl)))))), ?_⟩
    walk_at "st"
    refine ⟨cs, m, ts, rfl, hl, hx, fun H1 l hs hT => ?_⟩
    have hr1 := hs _ _ hr0
    walk_at "rd"
    refine rd_lenS hl' ?_
    walk_at "rd"
    rw [upd_upd, upd_upd, upd_upd, upd_upd]
    obtain ⟨as, hL, hT⟩ := hT
    have h0 : RdAt K (upd H1 r (.ins (cReader K) dx (rdF l m 0 cs.length))) r ts 0 l dx m cs.length as :=
      ⟨upd_same, by rw [upd_ne (fun z => by rw [z, hr1] at hL; cases hL)]; exact hL, hT.kp Kp.set (fun xs z => by rw [hr1] at z; cases z), lex_good hx⟩
    exact k _ ((Kp.of hs).trans Kp.set) ⟨l, dx, m, _, as, h0⟩
theorem sc_Reader_at : FnScope ["self"] ["self"] (defScope s_Reader_at) := ⟨rfl, rfl, rfl, by decide +kernel, rfl, by decide +kernel, by decide +kernel⟩
theorem ok_Reader_at (T : Tx K mg) : Dok P w K mg base CX0 1 (He.ma K (He.ga K "Reader") "at") ["self"] (spRAt K) := by
  refine Dok.mk0 (T.F_Reader_at) sc_Reader_at rfl (fun _ _ _ _ _ _ us hl => match us, hl with | [_], _ => rfl) (fun vs H Q E h => ?_) (fun cdv A outer s H vs Q E hr h => ?_)
  · obtain ⟨r, ts, n, rfl, _⟩ := h; rfl
  · obtain ⟨r, ts, n, rfl, ⟨l, dx, m, lim, as, ho, hL, hT, hg⟩, k⟩ := h
    obtain ⟨cR, n1, n2, n3, n4, n5⟩ := T.reader
    refine ⟨_, (pss_cons (ps_if (pt_cmpR op_lt (pe_fld (pv 0) rfl) (pe_callB cl_lenSeq (by rfl) T.n_len (by decide +kernel) (pa_cons (pe_fld (pv 0) rfl) pa_nil)) (nomark _)) (pss_one (ps_ret (pe_ix ix_tup (pe_ix ix_list (pe_fld (pv 0) rfl) (pe_fld (pv 0) rfl) (fun _ _ => rfl)) pe_int (fun _ _ => rfl)))) pss_nil)
        (pss_one (ps_ret (pe_fld (pv 0) rfl)))), ?_⟩
    walk_at "st"
    refine rd_two (fun e => ?_) (fun e => ?_)
    · have hn : n < as.length := by
        have := of_decide_eq_true e
        rw [List.length_map] at this
        omega
      have hnt : n < ts.length := by rw [← hT.1]; exact hn
      obtain ⟨a, ha, j, hj⟩ := hT.2 n ts[n] (List.getElem?_eq_getElem hnt)
      walk_at "rd"
      refine rd_ixL (j := n) hL (by rw [List.getElem?_map, ha]; rfl) ?_
      walk_at "rd"
      exact k j
    · walk_at "rd"
      exact k _
theorem sc_Reader_sees : FnScope ["self", "kind", "value"] ["self", "kind", "value"] (defScope s_Reader_sees) := ⟨rfl, rfl, rfl, by decide +kernel, rfl, by decide +kernel, by decide +kernel⟩
theorem ok_Reader_sees (T : Tx K mg) : Dok P w K mg base CX0 1 (He.ma K (He.ga K "Reader") "sees") ["self", "kind", "value"] (spSees K) := by
  refine Dok.mk0 (T.F_Reader_sees) sc_Reader_sees rfl (fun _ _ _ _ _ _ us hl => match us, hl with | [_, _, _], _ => rfl) (fun vs H Q E h => ?_) (fun cdv A outer s H vs Q E hr h => ?_)
  · obtain ⟨r, ts, n, kk, v, rfl, _⟩ := h; rfl
  · obtain ⟨r, ts, n, kk, v, rfl, ⟨l, dx, m, lim, as, ho, hL, hT, hg⟩, hk, k⟩ := h
    obtain ⟨cR, n1, n2, n3, n4, n5⟩ := T.reader
    refine ⟨_, (pss_cons (ps_if (pt_cmpR op_ge (pe_fld (pv 0) rfl) (pe_callB cl_lenSeq (by rfl) T.n_len (by decide +kernel) (pa_cons (pe_fld (pv 0) rfl) pa_nil)) (nomark _)) (pss_one (ps_ret pe_bl)) pss_nil)
        (pss_one (ps_ret (pe_and (pe_cmpR op_eq (pe_ix ix_tup (pe_ix ix_list (pe_fld (pv 0) rfl) (pe_fld (pv 0) rfl) (fun _ _ => rfl)) pe_int (fun _ _ => rfl)) (pv 1) (nomark _)) (pe_one (pe_cmpR op_eq (pe_ix ix_tup (pe_ix ix_list (pe_fld (pv 0) rfl) (pe_fld (pv 0) rfl) (fun _ _ => rfl)) pe_int (fun _ _ => rfl)) (pv 2) (nomark _))))))), ?_⟩
    walk_at "st"
    unfold seesB at k
    by_cases hn : n < as.length
    · refine rd_is false (decide_eq_false (by rw [List.length_map]; omega)) (rd_F ?_)
      obtain ⟨t, ht⟩ : ∃ t, ts[n]? = some t := ⟨_, List.getElem?_eq_getElem (by rw [← hT.1]; exact hn)⟩
      obtain ⟨a, ha, j, hj⟩ := hT.2 n t ht
      rw [ht] at k
      walk_at "rd"
      refine rd_ixL (j := n) hL (by rw [List.getElem?_map, ha]; rfl) ?_
      walk_at "rd"
      have k : Q (.bl (decide (V.str t.1 = V.str kk) && decide (t.2 = V.str v))) H := k
      cases e : decide (V.str t.1 = V.str kk) with
      | false =>
        rw [e] at k
        exact rd_F k
      | true =>
        rw [e] at k
        walk_at "rd"
        refine rd_ixL (j := n) hL (by rw [List.getElem?_map, ha]; rfl) ?_
        walk_at "rd"
        have hstr : ∃ z, t.2 = V.str z := by
          rcases hg t (List.mem_of_getElem? ht) with q | q
          · exact absurd ((V.str.inj (of_decide_eq_true e)).symm.trans q) hk
          · exact q
        obtain ⟨z, hz⟩ := hstr
        rw [hz] at k ⊢
        walk_at "rd"
        exact k
    · refine rd_is true (decide_eq_true (by rw [List.length_map]; omega)) (rd_T ?_)
      rw [List.getElem?_eq_none (by rw [← hT.1]; omega)] at k
      walk_at "rd"
      exact k
theorem sc_Reader_sees_kind : FnScope ["self", "kind"] ["self", "kind"] (defScope s_Reader_sees_kind) := ⟨rfl, rfl, rfl, by decide +kernel, rfl, by decide +kernel, by decide +kernel⟩
theorem ok_Reader_sees_kind (T : Tx K mg) : Dok P w K mg base CX0 1 (He.ma K (He.ga K "Reader") "sees_kind") ["self", "kind"] (spSeesK K) := by
  refine Dok.mk0 (T.F_Reader_sees_kind) sc_Reader_sees_kind rfl (fun _ _ _ _ _ _ us hl => match us, hl with | [_, _], _ => rfl) (fun vs H Q E h => ?_) (fun cdv A outer s H vs Q E hr h => ?_)
  · obtain ⟨r, ts, n, kk, rfl, _⟩ := h; rfl
  · obtain ⟨r, ts, n, kk, rfl, ⟨l, dx, m, lim, as, ho, hL, hT, hg⟩, k⟩ := h
    obtain ⟨cR, n1, n2, n3, n4, n5⟩ := T.reader
    refine ⟨_, (pss_one (ps_ret (pe_and (pe_cmpR op_lt (pe_fld (pv 0) rfl) (pe_callB cl_lenSeq (by rfl) T.n_len (by decide +kernel) (pa_cons (pe_fld (pv 0) rfl) pa_nil)) (nomark _)) (pe_one (pe_cmpR op_eq (pe_ix ix_tup (pe_ix ix_list (pe_fld (pv 0) rfl) (pe_fld (pv 0) rfl) (fun _ _ => rfl)) pe_int (fun _ _ => rfl)) (pv 1) (nomark _)))))), ?_⟩
    walk_at "st"
    unfold kindB at k
    by_cases hn : n < as.length
    · refine rd_is true (decide_eq_true (by rw [List.length_map]; omega)) (rd_T ?_)
      obtain ⟨t, ht⟩ : ∃ t, ts[n]? = some t := ⟨_, List.getElem?_eq_getElem (by rw [← hT.1]; exact hn)⟩
      obtain ⟨a, ha, j, hj⟩ := hT.2 n t ht
      rw [ht] at k
      walk_at "rd"
      refine rd_ixL (j := n) hL (by rw [List.getElem?_map, ha]; rfl) ?_
      walk_at "rd"
      exact k
    · refine rd_is false (decide_eq_false (by rw [List.length_map]; omega)) (rd_F ?_)
      rw [List.getElem?_eq_none (by rw [← hT.1]; omega)] at k
      exact k
theorem sc_Reader_accept : FnScope ["self", "kind", "value"] ["self", "kind", "value"] (defScope s_Reader_accept) := ⟨rfl, rfl, rfl, by decide +kernel, rfl, by decide +kernel, by decide +kernel⟩
theorem ok_Reader_accept (T : Tx K mg) : Dok P w K mg base CX0 2 (He.ma K (He.ga K "Reader") "accept") ["self", "kind", "value"] (spAccept K) := by
  refine Dok.mk0 (T.F_Reader_accept) sc_Reader_accept rfl (fun _ _ _ _ _ _ us hl => match us, hl with | [_, _, _], _ => rfl) (fun vs H Q E h => ?_) (fun cdv A outer s H vs Q E hr h => ?_)
  · obtain ⟨r, ts, n, kk, v, rfl, _⟩ := h; rfl
  · obtain ⟨r, ts, n, kk, v, rfl, hR, hk, k⟩ := h
    obtain ⟨l, dx, m, lim, as, hA⟩ := id hR
    obtain ⟨ho, hL, hT, hg⟩ := id hA
    obtain ⟨cR, n1, n2, n3, n4, n5⟩ := T.reader
    refine ⟨_, (pss_cons (ps_if (pt_val (pm (ok_Reader_sees (K := K) T) T.cl_Reader T.me_Reader_sees hr (pv 0) (pa_cons (pv 1) (pa_cons (pv 2) pa_nil)))) (pss_cons (ps_fld (pv 0) (pe_op op_add (pe_fld (pv 0) rfl) pe_int) rfl)
        (pss_one (ps_ret pe_bl))) pss_nil)
        (pss_one (ps_ret pe_bl))), ?_⟩
    walk_at "st"
    refine ⟨r, ts, n, kk, v, rfl, hR, hk, ?_⟩
    walk_at "rd"
    rcases k with ⟨e, k⟩ | ⟨e, k⟩
    · rw [e]
      walk_at "rd"
      exact k _ hA.kr ⟨l, dx, m, lim, as, hA.step⟩
    · rw [e]
      walk_at "rd"
      exact k
theorem sc_Reader_expect : FnScope ["self", "kind", "value"] ["self", "kind", "value"] (defScope s_Reader_expect) := ⟨rfl, rfl, rfl, by decide +kernel, rfl, by decide +kernel, by decide +kernel⟩
theorem ok_Reader_expect (T : Tx K mg) : Dok P w K mg base CX0 3 (He.ma K (He.ga K "Reader") "expect") ["self", "kind", "value"] (spExpect K) := by
  refine Dok.mk0 (T.F_Reader_expect) sc_Reader_expect rfl (fun _ _ _ _ _ _ us hl => match us, hl with | [_, _, _], _ => rfl) (fun vs H Q E h => ?_) (fun cdv A outer s H vs Q E hr h => ?_)
  · obtain ⟨r, ts, n, kk, v, rfl, _⟩ := h; rfl
  · obtain ⟨r, ts, n, kk, v, rfl, hR, hk, e, k⟩ := h
    obtain ⟨l, dx, m, lim, as, hA⟩ := id hR
    obtain ⟨ho, hL, hT, hg⟩ := id hA
    refine ⟨_, (pss_one (ps_if (pt_not (pt_val (pm (ok_Reader_accept (K := K) T) T.cl_Reader T.me_Reader_accept hr (pv 0) (pa_cons (pv 1) (pa_cons (pv 2) pa_nil))))) pss_never pss_nil)), ?_⟩
    walk_at "st"
    refine ⟨r, ts, n, kk, v, rfl, hR, hk, Or.inl ⟨e, fun H' hkp hR' => ?_⟩⟩
    walk_at "rd"
    exact k H' hkp hR'
theorem sc_Reader_read : FnScope ["self", "kind"] ["self", "kind"] (defScope s_Reader_read) := ⟨rfl, rfl, rfl, by decide +kernel, rfl, by decide +kernel, by decide +kernel⟩
theorem ok_Reader_read (T : Tx K mg) : Dok P w K mg base CX0 2 (He.ma K (He.ga K "Reader") "read") ["self", "kind"] (spRead K) := by
  refine Dok.mk0 (T.F_Reader_read) sc_Reader_read rfl (fun _ _ _ _ _ _ us hl => match us, hl with | [_, _], _ => rfl) (fun vs H Q E h => ?_) (fun cdv A outer s H vs Q E hr h => ?_)
  · obtain ⟨r, ts, n, kk, v, rfl, _⟩ := h; rfl
  · obtain ⟨r, ts, n, kk, v, rfl, hR, ht, k⟩ := h
    obtain ⟨l, dx, m, lim, as, hA⟩ := id hR
    obtain ⟨ho, hL, hT, hg⟩ := id hA
    obtain ⟨cR, n1, n2, n3, n4, n5⟩ := T.reader
    have hn : n < as.length := by
      rw [hT.1]
      exact (List.getElem?_eq_some_iff.mp ht).1
    obtain ⟨a, ha, j, hj⟩ := hT.2 n _ ht
    refine ⟨_, (pss_cons (ps_if (pt_not (pt_val (pm (ok_Reader_sees_kind (K := K) T) T.cl_Reader T.me_Reader_sees_kind hr (pv 0) (pa_cons (pv 1) pa_nil)))) pss_never pss_nil)
        (pss_cons (ps_fld (pv 0) (pe_op op_add (pe_fld (pv 0) rfl) pe_int) rfl)
        (pss_one (ps_ret (pe_ix ix_tup (pe_ix ix_list (pe_fld (pv 0) rfl) (pe_op op_sub (pe_fld (pv 0) rfl) pe_int) (fun _ _ => rfl)) pe_int (fun _ _ => rfl)))))), ?_⟩
    walk_at "st"
    refine ⟨r, ts, n, kk, rfl, hR, ?_⟩
    have e : kindB ts n kk = true := by
      unfold kindB
      rw [ht]
      exact decide_eq_true rfl
    walk_at "rd"
    rw [e]
    walk_at "rd"
    have hA2 : RdAt K (upd H r (.ins (cReader K) dx (rdF l m (n + 1) lim))) r ts (n + 1) l dx m lim as := hA.step
    obtain ⟨ho2, hL2, hT2, _⟩ := id hA2
    have hj2 := hA.notup Kp.set hj (H' := upd H r (.ins (cReader K) dx (rdF l m (n + 1) lim)))
    rw [show ((n : Int) + 1 - 1) = (n : Int) by omega]
    refine rd_ixL (j := n) hL2 (by rw [List.getElem?_map, ha]; rfl) ?_
    refine rd_c ?_
    refine rd_ixT1 hj2 ?_
    exact k _ hA.kr ⟨l, dx, m, lim, as, hA2⟩
end
end K5
set_option maxHeartbeats 4000000
namespace K5
open PySem PySem.Spec PyProof.Rows L2
/-! a walk over the keys of a dict that the top has written -/
theorem dkB_ok {K : PySem.W.Frag} {d : Addr} {ks : List Str} (h : dkB K d ks = true) : ∃ (es : Array DictEntry) (n : Nat), K.lookup d = some ⟨.type "dict", none, .dict es n, #[]⟩ ∧ (d == sysModules) = false ∧
    es.size = ks.length ∧ ∀ (i : Nat) (z : Str), ks[i]? = some z → ∃ e t, es[i]? = some e ∧ e.key = .str z t := by
  unfold dkB at h
  cases q : K.lookup d with
  | none => rw [q] at h; cases h
  | some o =>
    obtain ⟨oc, od, dt, sl⟩ := o
    rw [q] at h
    cases oc with
    | type c => cases od with
      | none => cases dt with
        | dict es n =>
          obtain ⟨h1, h⟩ := He.ba (show (decide (c = "dict") && _) = true from h)
          obtain ⟨h2, h⟩ := He.ba h
          obtain ⟨h3, h4⟩ := He.ba h
          have e1 : c = "dict" := of_decide_eq_true h1
          have e2 : sl = #[] := Array.isEmpty_iff.mp h2
          have e3 : (d == sysModules) = false := by
            cases z : d == sysModules with
            | false => rfl
            | true => rw [z] at h3; cases h3
          subst e1 e2
          have e4 := of_decide_eq_true h4
          refine ⟨es, n, rfl, e3, ?_, fun i z hz => ?_⟩
          · have := congrArg List.length e4
            rw [List.length_map, List.length_map, Array.length_toList] at this
            exact this
          · have e5 := congrArg (fun l => l[i]?) e4
            simp only [List.getElem?_map] at e5
            rw [hz] at e5
            cases e6 : es.toList[i]? with
            | none => rw [e6] at e5; cases e5
            | some e =>
              rw [e6] at e5
              have e7 : (match e.key with
                | .str z _ => some z
                | _ => none) = some z := Option.some.inj e5
              cases e8 : e.key with
              | str y t =>
                rw [e8] at e7
                cases e7
                exact ⟨e, t, by rw [← Array.getElem?_toList]; exact e6, e8⟩
              | _ => rw [e8] at e7; cases e7
        | _ => cases h
      | some a => cases dt <;> cases h
    | _ => cases od <;> cases dt <;> cases h
def ItW (ks : List Str) : It := ⟨fun i _ => i < ks.length, fun i H x H' => H' = H ∧ ∃ z, ks[i]? = some z ∧ x = .str z, fun i _ => ks.length ≤ i⟩
def iKW (K : PySem.W.Frag) (td : TE) : TI := fun σ H R => td σ H fun x H1 => ∃ (d : Addr) (ks : List Str), x = .ref d ∧ dkB K d ks = true ∧ R (ItW ks) H1
theorem turn_kw {P : Program} {w : World} {K : PySem.W.Frag} {tg : Expr} {d : Addr} {ks : List Str} {es : Array DictEntry} {n : Nat} (it : Addr) (hk : K.lookup d = some ⟨.type "dict", none, .dict es n, #[]⟩) (hsz : es.size = ks.length)
    (hks : ∀ (i : Nat) (z : Str), ks[i]? = some z → ∃ e t, es[i]? = some e ∧ e.key = .str z t) : Turn P w K tg (ItW ks) [it] it (fun i h => h.IsKeyIter it d i ks.length n) where
  mem := List.mem_singleton.mpr rfl
  obj := fun i h st b hb => by
    cases List.mem_singleton.mp hb
    obtain ⟨oi, e, c, dd⟩ := st
    refine ⟨oi, e, fun v z => ?_⟩
    rw [dd] at z
    cases z
  keep := fun i h h' st k => st.at fun oi e => k it (List.mem_singleton.mpr rfl) oi e
  item := by
    intro X hP hw hK hc i pins s σ H E I hf st hlt
    subst hP hw hK
    obtain ⟨g0, g1, g2, g3, g4, g5⟩ := hf it (List.mem_singleton.mpr rfl)
    obtain ⟨z, hz⟩ : ∃ z, ks[i]? = some z := ⟨_, List.getElem?_eq_getElem (show i < ks.length from hlt)⟩
    obtain ⟨en, t, he, hkey⟩ := hks i z hz
    refine next_key_item st (I.kIn _ _ hk) rfl hsz he fun h' st' sb => ?_
    have I1 : Inv X pins σ H { s with heap := h' } := I.turned (t' := s.toks) (fun b ob hb e => (sb.2 b hb).trans e) g0 g1 g3 g4 g5
    obtain ⟨oi, e, c, dd⟩ := id st'
    rw [hkey]
    exact ⟨_, rfl, go_of (s := { s with heap := h' }) e c dd (by decide) ⟨.str z, H, I1, ⟨t, rfl⟩, ⟨rfl, z, hz, rfl⟩, st', fun b hb => (hf b hb).1⟩⟩
  done := by
    intro X hP hw hK hc i pins s σ H E I hf st hge
    subst hP hw hK
    obtain ⟨g0, g1, g2, g3, g4, g5⟩ := hf it (List.mem_singleton.mpr rfl)
    refine next_key_end (I.ok.hd hc) st (I.kIn _ _ hk) rfl hsz hge fun h' eb => ⟨rfl, ?_⟩
    exact I.turned (t' := s.toks) (fun b ob hb e => eb b ob hb e) g0 g1 g3 g4 g5
  self := fun A i s Q E st h => wpAny_pyIter_keyiter st h
theorem pi_kkeys {X : Cx} {tg e : Expr} {td : TE} (he : PE X e td) : PI X tg e (iKW X.K td) := by
  refine ⟨fun pins s σ H R I h => ?_⟩
  refine thn (he.run pins s σ H _ I h) fun u s1 ⟨x, H1, I1, rx, d, ks, ex, hd, q⟩ => ?_
  subst ex
  obtain rfl : u = Value.ref d := rx
  obtain ⟨es, n, hk, hsys, hsz, hks⟩ := dkB_ok hd
  refine iter_keys hsys (I1.kIn _ _ hk) ⟨rfl, rfl, rfl⟩ rfl (pi_one (tk := s1.toks) I1 _ (turn_kw _ hk hsz hks) ⟨_, Heap.get?_push_size _ rfl, rfl, ?_⟩ q)
  rw [hsz] <;> rfl
theorem for_kw {ks : List Str} {g : TG} {tb : TS} {D : Ends} {σ : L2.St} {H : Hp} (Pv : Nat → L2.St → Hp → Prop) (h0 : Pv 0 σ H)
    (hs : ∀ i z σ H, ks[i]? = some z → Pv i σ H → g (.str z) σ H fun σ2 H2 => tb { D with nx := Pv (i + 1), ct := Pv (i + 1), bk := D.nx } σ2 H2) (hd : ∀ σ H, Pv ks.length σ H → D.nx σ H) :
    ∃ W : Nat → Nat → L2.St → Hp → Prop, (∃ m, W 0 m σ H) ∧ ∀ i m σ H, W i m σ H →
      ((ItW ks).stop i H ∧ D.nx σ H) ∨ ((ItW ks).go i H ∧ ∃ N : L2.St → Hp → Prop, (∀ σ' H', N σ' H' → ∃ m', m' < m ∧ W (i + 1) m' σ' H') ∧ ∀ x H', (ItW ks).yld i H x H' → g x σ H' fun σ2 H2 => tb { D with nx := N, ct := N, bk := D.nx } σ2 H2) := by
  refine ⟨fun i m σ H => m = ks.length - i ∧ i ≤ ks.length ∧ Pv i σ H, ⟨ks.length, by simp, Nat.zero_le _, h0⟩, ?_⟩
  rintro i m σ H ⟨rfl, hi, p⟩
  by_cases hlt : i < ks.length
  · refine .inr ⟨hlt, Pv (i + 1), fun σ' H' p' => ⟨ks.length - (i + 1), by omega, rfl, hlt, p'⟩, fun x H' y => ?_⟩
    obtain ⟨rfl, z, hz, rfl⟩ := y
    exact hs i z σ _ hz p
  · have e : i = ks.length := by omega
    subst e
    exact .inl ⟨Nat.le_refl _, hd σ H p⟩
theorem Tx.t_COMPARISONS {K : PySem.W.Frag} {mg : Str → Option Value} (T : Tx K mg) : dkB K (He.ga K "COMPARISONS") ["<", "=="] = true := (He.ba (He.ba (He.ba (He.ba (He.ba T.tab).2).2).2).2).1
end K5
set_option maxHeartbeats 4000000

namespace K5
open PySem PySem.Spec PyProof.Rows L2
/-! steps of the reader -/
theorem sees_of {ts : List Tok} {n : Nat} {t : Tok} {k v : Str} (h : ts[n]? = some t) : seesB ts n k v = (decide (V.str t.1 = V.str k) && decide (t.2 = V.str v)) := by
  unfold seesB
  rw [h]
section
variable {K : PySem.W.Frag} {H : Hp} {r : Addr} {ts : List Tok} {n : Nat} {t : Tok} {k v : Str} {Q : VK} {E : XK}
theorem acc_no (hR : RD K H r ts n) (h : ts[n]? = some t) (e : (decide (V.str t.1 = V.str k) && decide (t.2 = V.str v)) = false) (hk : k ≠ "number") (q : Q (.bl false) H) : spAccept K [.ref r, .str k, .str v] H Q E :=
  ⟨r, ts, n, k, v, rfl, hR, hk, .inr ⟨(sees_of h).trans e, q⟩⟩
theorem acc_yes (hR : RD K H r ts n) (h : ts[n]? = some t) (e : (decide (V.str t.1 = V.str k) && decide (t.2 = V.str v)) = true) (hk : k ≠ "number") (q : ∀ H', KR r H H' → RD K H' r ts (n + 1) → Q (.bl true) H') : spAccept K [.ref r, .str k, .str v] H Q E :=
  ⟨r, ts, n, k, v, rfl, hR, hk, .inl ⟨(sees_of h).trans e, q⟩⟩
theorem sees_no (hR : RD K H r ts n) (h : ts[n]? = some t) (e : (decide (V.str t.1 = V.str k) && decide (t.2 = V.str v)) = false) (hk : k ≠ "number") (q : Q (.bl false) H) : spSees K [.ref r, .str k, .str v] H Q E :=
  ⟨r, ts, n, k, v, rfl, hR, hk, by rw [(sees_of h).trans e]; exact q⟩
theorem sees_yes (hR : RD K H r ts n) (h : ts[n]? = some t) (e : (decide (V.str t.1 = V.str k) && decide (t.2 = V.str v)) = true) (hk : k ≠ "number") (q : Q (.bl true) H) : spSees K [.ref r, .str k, .str v] H Q E :=
  ⟨r, ts, n, k, v, rfl, hR, hk, by rw [(sees_of h).trans e]; exact q⟩
theorem kind_is (b : Bool) (hR : RD K H r ts n) (h : ts[n]? = some t) (e : decide (V.str t.1 = V.str k) = b) (q : Q (.bl b) H) : spSeesK K [.ref r, .str k] H Q E :=
  ⟨r, ts, n, k, rfl, hR, by
    unfold kindB
    rw [h]
    show Q (.bl (decide (V.str t.1 = V.str k))) H
    rw [e]
    exact q⟩
theorem exp_yes (hR : RD K H r ts n) (h : ts[n]? = some t) (e : (decide (V.str t.1 = V.str k) && decide (t.2 = V.str v)) = true) (hk : k ≠ "number") (q : ∀ H', KR r H H' → RD K H' r ts (n + 1) → Q .non H') : spExpect K [.ref r, .str k, .str v] H Q E :=
  ⟨r, ts, n, k, v, rfl, hR, hk, (sees_of h).trans e, q⟩
theorem read_yes {x : V} (hR : RD K H r ts n) (h : ts[n]? = some (k, x)) (q : ∀ H', KR r H H' → RD K H' r ts (n + 1) → Q x H') : spRead K [.ref r, .str k] H Q E := ⟨r, ts, n, k, x, rfl, hR, h, q⟩
theorem at_any (hR : RD K H r ts n) (q : ∀ i : Int, Q (.int i) H) : spRAt K [.ref r] H Q E := ⟨r, ts, n, rfl, hR, q⟩
end
/-- a reader is no tuple -/
theorem RD.kp {K : PySem.W.Frag} {H H' : Hp} {r : Addr} {ts : List Tok} {n : Nat} (h : RD K H r ts n) (e : KR r H H') {a : Addr} {xs : List V} (q : H a = some (.tup xs)) : H' a = some (.tup xs) := let ⟨_, _, _, _, _, z⟩ := h; z.notup e.1 q
end K5
local macro_rules | `(tactic| walk_at "rp1") => `(tactic| first
  | ((with_reducible refine' K5.acc_no ?hR ?hT ?he ?hk ?_); (case hR => assumption); (case hT => assumption); (case he => exact rfl); (case hk => decide))
  | ((with_reducible refine' K5.sees_no ?hR ?hT ?he ?hk ?_); (case hR => assumption); (case hT => assumption); (case he => exact rfl); (case hk => decide))
  | walk_at "rd1")
local macro_rules | `(tactic| walk_at "rp") => `(tactic| repeat walk_at "rp1")
local macro_rules | `(tactic| walk_at "sp") => `(tactic| (simp only [K5.start_c, K5.start_o, K5.start_n]; walk_at "rp"))

namespace K5
open PySem PySem.Spec PyProof.Rows L2
/-- the readers of an expression, where a number stands and a semicolon behind it -/
def spNum (K : PySem.W.Frag) : Sp := fun vs H Q _ => ∃ (r : Addr) (ts : List Tok) (n : Nat) (lv v : Int), vs = [.ref r, .int lv] ∧ RD K H r ts n ∧ ts[n]? = some (tkI v) ∧ ts[n + 1]? = some (tkG 59) ∧
  ∀ H' a, KR r H H' → RD K H' r ts (n + 1) → H' a = some (.tup [.str "int", .int v]) → Q (.ref a) H'
section
variable {P : Program} {w : World} {K : PySem.W.Frag} {mg : Str → Option Value} {base : Heap}
theorem sc_read_primary : FnScope ["reader", "level", "at", "inner", "parameters", "name"] ["reader", "level"] (defScope s_read_primary) := ⟨rfl, rfl, rfl, by decide +kernel, rfl, by decide +kernel, by decide +kernel⟩
theorem ok_read_primary (T : Tx K mg) : Dok P w K mg base CX0 4 (He.ga K "read_primary") ["reader", "level"] (spNum K) := by
  refine Dok.mk0 (T.F_read_primary) sc_read_primary rfl (fun _ _ _ _ _ _ us hl => match us, hl with | [_, _], _ => rfl) (fun vs H Q E h => ?_) (fun cdv A outer s H vs Q E hr h => ?_)
  · obtain ⟨r, ts, n, lv, v, rfl, _⟩ := h; rfl
  · obtain ⟨r, ts, n, lv, v, rfl, hR, h0, h1, k⟩ := h
    obtain ⟨l, dx, m, lim, as, ho, _⟩ := id hR
    refine ⟨_, (pss_cons (ps_set (i := 2) sc_read_primary.nd rfl (Or.inl rfl) (pm0 (ok_Reader_at (K := K) T) T.cl_Reader T.me_Reader_at hr (pv 0)))
        (pss_cons (ps_if (pt_val (pm (ok_Reader_accept (K := K) T) T.cl_Reader T.me_Reader_accept hr (pv 0) (pa_cons pe_str (pa_cons pe_str pa_nil)))) pss_never pss_nil)
        (pss_cons (ps_if (pt_val (pm (ok_Reader_accept (K := K) T) T.cl_Reader T.me_Reader_accept hr (pv 0) (pa_cons pe_str (pa_cons pe_str pa_nil)))) pss_never pss_nil)
        (pss_cons (ps_if (pt_val (pm (ok_Reader_accept (K := K) T) T.cl_Reader T.me_Reader_accept hr (pv 0) (pa_cons pe_str (pa_cons pe_str pa_nil)))) pss_never pss_nil)
        (pss_cons (ps_if (pt_val (pm (ok_Reader_accept (K := K) T) T.cl_Reader T.me_Reader_accept hr (pv 0) (pa_cons pe_str (pa_cons pe_str pa_nil)))) pss_never pss_nil)
        (pss_cons (ps_if (pt_val (pm (ok_Reader_accept (K := K) T) T.cl_Reader T.me_Reader_accept hr (pv 0) (pa_cons pe_str (pa_cons pe_str pa_nil)))) pss_never pss_nil)
        (pss_cons (ps_if (pt_val (pm (ok_Reader_accept (K := K) T) T.cl_Reader T.me_Reader_accept hr (pv 0) (pa_cons pe_str (pa_cons pe_str pa_nil)))) pss_never pss_nil)
        (pss_cons (ps_if (pt_val (pm (ok_Reader_sees_kind (K := K) T) T.cl_Reader T.me_Reader_sees_kind hr (pv 0) (pa_cons pe_str pa_nil))) (pss_one (ps_ret (pe_tup (pa_cons pe_str (pa_cons (pm (ok_Reader_read (K := K) T) T.cl_Reader T.me_Reader_read hr (pv 0) (pa_cons pe_str pa_nil)) pa_nil))))) pss_nil)
        pss_never)))))))), ?_⟩
    walk_at "sp"
    refine at_any hR fun i => ?_
    walk_at "rp"
    refine kind_is true hR h0 rfl ?_
    walk_at "rp"
    refine read_yes hR h0 fun H1 k1 R1 => ?_
    walk_at "rp"
    intro p hp
    exact k _ p (k1.same (Same.upd hp)) (R1.same (Same.upd hp)) upd_same
theorem sc_read_call : FnScope ["reader", "level", "result"] ["reader", "level"] (defScope s_read_call) := ⟨rfl, rfl, rfl, by decide +kernel, rfl, by decide +kernel, by decide +kernel⟩
theorem ok_read_call (T : Tx K mg) : Dok P w K mg base CX0 5 (He.ga K "read_call") ["reader", "level"] (spNum K) := by
  refine Dok.mk0 (T.F_read_call) sc_read_call rfl (fun _ _ _ _ _ _ us hl => match us, hl with | [_, _], _ => rfl) (fun vs H Q E h => ?_) (fun cdv A outer s H vs Q E hr h => ?_)
  · obtain ⟨r, ts, n, lv, v, rfl, _⟩ := h; rfl
  · obtain ⟨r, ts, n, lv, v, rfl, hR, h0, h1, k⟩ := h
    refine ⟨_, (pss_cons (ps_set (i := 2) sc_read_call.nd rfl (Or.inl rfl) (pc (ok_read_primary (K := K) T) T.g_read_primary hr (pa_cons (pv 0) (pa_cons (pv 1) pa_nil))))
        (pss_cons (ps_while PassesOwn.never (pt_val (pm (ok_Reader_accept (K := K) T) T.cl_Reader T.me_Reader_accept hr (pv 0) (pa_cons pe_str (pa_cons pe_str pa_nil)))) pss_never)
        (pss_one (ps_ret (pv 2))))), ?_⟩
    walk_at "sp"
    refine ⟨r, ts, n, lv, v, rfl, hR, h0, h1, fun H1 a k1 R1 ha => ?_⟩
    obtain ⟨l, dx, m, lim, as, ho, _⟩ := id R1
    walk_at "rp"
    refine rd_while (fun mm σ H' => σ = [some (.ref r), some (.int lv), some (.ref a)] ∧ H' = H1) 0 ⟨rfl, rfl⟩ ?_
    rintro mm σ H' ⟨rfl, rfl⟩
    walk_at "rp"
    exact k _ a k1 R1 ha
theorem sc_read_product : FnScope ["reader", "level", "result"] ["reader", "level"] (defScope s_read_product) := ⟨rfl, rfl, rfl, by decide +kernel, rfl, by decide +kernel, by decide +kernel⟩
theorem ok_read_product (T : Tx K mg) : Dok P w K mg base CX0 6 (He.ga K "read_product") ["reader", "level"] (spNum K) := by
  refine Dok.mk0 (T.F_read_product) sc_read_product rfl (fun _ _ _ _ _ _ us hl => match us, hl with | [_, _], _ => rfl) (fun vs H Q E h => ?_) (fun cdv A outer s H vs Q E hr h => ?_)
  · obtain ⟨r, ts, n, lv, v, rfl, _⟩ := h; rfl
  · obtain ⟨r, ts, n, lv, v, rfl, hR, h0, h1, k⟩ := h
    refine ⟨_, (pss_cons (ps_set (i := 2) sc_read_product.nd rfl (Or.inl rfl) (pc (ok_read_call (K := K) T) T.g_read_call hr (pa_cons (pv 0) (pa_cons (pv 1) pa_nil))))
        (pss_cons (ps_while PassesOwn.never (pt_val (pm (ok_Reader_accept (K := K) T) T.cl_Reader T.me_Reader_accept hr (pv 0) (pa_cons pe_str (pa_cons pe_str pa_nil)))) pss_never)
        (pss_one (ps_ret (pv 2))))), ?_⟩
    walk_at "sp"
    refine ⟨r, ts, n, lv, v, rfl, hR, h0, h1, fun H1 a k1 R1 ha => ?_⟩
    obtain ⟨l, dx, m, lim, as, ho, _⟩ := id R1
    walk_at "rp"
    refine rd_while (fun mm σ H' => σ = [some (.ref r), some (.int lv), some (.ref a)] ∧ H' = H1) 0 ⟨rfl, rfl⟩ ?_
    rintro mm σ H' ⟨rfl, rfl⟩
    walk_at "rp"
    exact k _ a k1 R1 ha
theorem sc_read_sum : FnScope ["reader", "level", "result", "sign"] ["reader", "level"] (defScope s_read_sum) := ⟨rfl, rfl, rfl, by decide +kernel, rfl, by decide +kernel, by decide +kernel⟩
theorem ok_read_sum (T : Tx K mg) : Dok P w K mg base CX0 7 (He.ga K "read_sum") ["reader", "level"] (spNum K) := by
  refine Dok.mk0 (T.F_read_sum) sc_read_sum rfl (fun _ _ _ _ _ _ us hl => match us, hl with | [_, _], _ => rfl) (fun vs H Q E h => ?_) (fun cdv A outer s H vs Q E hr h => ?_)
  · obtain ⟨r, ts, n, lv, v, rfl, _⟩ := h; rfl
  · obtain ⟨r, ts, n, lv, v, rfl, hR, h0, h1, k⟩ := h
    refine ⟨_, (pss_cons (ps_set (i := 2) sc_read_sum.nd rfl (Or.inl rfl) (pc (ok_read_product (K := K) T) T.g_read_product hr (pa_cons (pv 0) (pa_cons (pv 1) pa_nil))))
        (pss_cons (ps_while PassesOwn.never (PW.pt (pw_or (pt_val (pm (ok_Reader_sees (K := K) T) T.cl_Reader T.me_Reader_sees hr (pv 0) (pa_cons pe_str (pa_cons pe_str pa_nil)))) (pw_or1 (pt_val (pm (ok_Reader_sees (K := K) T) T.cl_Reader T.me_Reader_sees hr (pv 0) (pa_cons pe_str (pa_cons pe_str pa_nil))))))) pss_never)
        (pss_one (ps_ret (pv 2))))), ?_⟩
    walk_at "sp"
    refine ⟨r, ts, n, lv, v, rfl, hR, h0, h1, fun H1 a k1 R1 ha => ?_⟩
    obtain ⟨l, dx, m, lim, as, ho, _⟩ := id R1
    walk_at "rp"
    refine rd_while (fun mm σ H' => σ = [some (.ref r), some (.int lv), some (.ref a), none] ∧ H' = H1) 0 ⟨rfl, rfl⟩ ?_
    rintro mm σ H' ⟨rfl, rfl⟩
    walk_at "rp"
    exact k _ a k1 R1 ha
theorem sc_read_plain : FnScope ["reader", "level", "result", "sign"] ["reader", "level"] (defScope s_read_plain) := ⟨rfl, rfl, rfl, by decide +kernel, rfl, by decide +kernel, by decide +kernel⟩
theorem ok_read_plain (T : Tx K mg) : Dok P w K mg base CX0 8 (He.ga K "read_plain") ["reader", "level"] (spNum K) := by
  refine Dok.mk0 (T.F_read_plain) sc_read_plain rfl (fun _ _ _ _ _ _ us hl => match us, hl with | [_, _], _ => rfl) (fun vs H Q E h => ?_) (fun cdv A outer s H vs Q E hr h => ?_)
  · obtain ⟨r, ts, n, lv, v, rfl, _⟩ := h; rfl
  · obtain ⟨r, ts, n, lv, v, rfl, hR, h0, h1, k⟩ := h
    refine ⟨_, (pss_cons (ps_if (pt_val (pm (ok_Reader_accept (K := K) T) T.cl_Reader T.me_Reader_accept hr (pv 0) (pa_cons pe_str (pa_cons pe_str pa_nil)))) pss_never pss_nil)
        (pss_cons (ps_set (i := 2) sc_read_plain.nd rfl (Or.inl rfl) (pc (ok_read_sum (K := K) T) T.g_read_sum hr (pa_cons (pv 0) (pa_cons (pv 1) pa_nil))))
        (pss_cons (ps_for PassesOwn.never rfl (pi_kkeys (C8.pe_gc rfl T.r_COMPARISONS)) (pg_name (i := 3) sc_read_plain.nd rfl (Or.inl rfl)) (pss_one (ps_if (pt_val (pm (ok_Reader_accept (K := K) T) T.cl_Reader T.me_Reader_accept hr (pv 0) (pa_cons pe_str (pa_cons (pv 3) pa_nil)))) pss_never pss_nil)))
        (pss_one (ps_ret (pv 2)))))), ?_⟩
    walk_at "sp"
    obtain ⟨l, dx, m, lim, as, ho, _⟩ := id hR
    walk_at "rp"
    refine ⟨r, ts, n, lv, v, rfl, hR, h0, h1, fun H1 a k1 R1 ha => ?_⟩
    obtain ⟨l, dx, m, lim, as, ho, _⟩ := id R1
    walk_at "rp"
    refine ⟨_, ["<", "=="], rfl, T.t_COMPARISONS, for_kw (ks := ["<", "=="]) (fun i σ H' => (∃ x : Option V, σ = [some (.ref r), some (.int lv), some (.ref a), x]) ∧ H' = H1) ⟨⟨_, rfl⟩, rfl⟩ ?_ ?_⟩
    · rintro i z σ H' hz ⟨⟨x, rfl⟩, rfl⟩
      walk_at "rp"
      have hz2 : z = "<" ∨ z = "==" := by simpa using List.mem_of_getElem? hz
      rcases hz2 with rfl | rfl
      · walk_at "rp"
        exact ⟨⟨_, rfl⟩, rfl⟩
      · walk_at "rp"
        exact ⟨⟨_, rfl⟩, rfl⟩
    · rintro σ H' ⟨⟨x, rfl⟩, rfl⟩
      walk_at "rp"
      exact k _ a k1 R1 ha
theorem sc_read_both : FnScope ["reader", "level", "result"] ["reader", "level"] (defScope s_read_both) := ⟨rfl, rfl, rfl, by decide +kernel, rfl, by decide +kernel, by decide +kernel⟩
theorem ok_read_both (T : Tx K mg) : Dok P w K mg base CX0 9 (He.ga K "read_both") ["reader", "level"] (spNum K) := by
  refine Dok.mk0 (T.F_read_both) sc_read_both rfl (fun _ _ _ _ _ _ us hl => match us, hl with | [_, _], _ => rfl) (fun vs H Q E h => ?_) (fun cdv A outer s H vs Q E hr h => ?_)
  · obtain ⟨r, ts, n, lv, v, rfl, _⟩ := h; rfl
  · obtain ⟨r, ts, n, lv, v, rfl, hR, h0, h1, k⟩ := h
    refine ⟨_, (pss_cons (ps_set (i := 2) sc_read_both.nd rfl (Or.inl rfl) (pc (ok_read_plain (K := K) T) T.g_read_plain hr (pa_cons (pv 0) (pa_cons (pv 1) pa_nil))))
        (pss_cons (ps_while PassesOwn.never (pt_val (pm (ok_Reader_accept (K := K) T) T.cl_Reader T.me_Reader_accept hr (pv 0) (pa_cons pe_str (pa_cons pe_str pa_nil)))) pss_never)
        (pss_one (ps_ret (pv 2))))), ?_⟩
    walk_at "sp"
    refine ⟨r, ts, n, lv, v, rfl, hR, h0, h1, fun H1 a k1 R1 ha => ?_⟩
    obtain ⟨l, dx, m, lim, as, ho, _⟩ := id R1
    walk_at "rp"
    refine rd_while (fun mm σ H' => σ = [some (.ref r), some (.int lv), some (.ref a)] ∧ H' = H1) 0 ⟨rfl, rfl⟩ ?_
    rintro mm σ H' ⟨rfl, rfl⟩
    walk_at "rp"
    exact k _ a k1 R1 ha
theorem sc_read_expression : FnScope ["reader", "level", "result"] ["reader", "level"] (defScope s_read_expression) := ⟨rfl, rfl, rfl, by decide +kernel, rfl, by decide +kernel, by decide +kernel⟩
theorem ok_read_expression (T : Tx K mg) : Dok P w K mg base CX0 10 (He.ga K "read_expression") ["reader", "level"] (spNum K) := by
  refine Dok.mk0 (T.F_read_expression) sc_read_expression rfl (fun _ _ _ _ _ _ us hl => match us, hl with | [_, _], _ => rfl) (fun vs H Q E h => ?_) (fun cdv A outer s H vs Q E hr h => ?_)
  · obtain ⟨r, ts, n, lv, v, rfl, _⟩ := h; rfl
  · obtain ⟨r, ts, n, lv, v, rfl, hR, h0, h1, k⟩ := h
    refine ⟨_, (pss_cons (ps_set (i := 2) sc_read_expression.nd rfl (Or.inl rfl) (pc (ok_read_both (K := K) T) T.g_read_both hr (pa_cons (pv 0) (pa_cons (pv 1) pa_nil))))
        (pss_cons (ps_while PassesOwn.never (pt_val (pm (ok_Reader_accept (K := K) T) T.cl_Reader T.me_Reader_accept hr (pv 0) (pa_cons pe_str (pa_cons pe_str pa_nil)))) pss_never)
        (pss_one (ps_ret (pv 2))))), ?_⟩
    walk_at "sp"
    refine ⟨r, ts, n, lv, v, rfl, hR, h0, h1, fun H1 a k1 R1 ha => ?_⟩
    obtain ⟨l, dx, m, lim, as, ho, _⟩ := id R1
    walk_at "rp"
    refine rd_while (fun mm σ H' => σ = [some (.ref r), some (.int lv), some (.ref a)] ∧ H' = H1) 0 ⟨rfl, rfl⟩ ?_
    rintro mm σ H' ⟨rfl, rfl⟩
    walk_at "rp"
    exact k _ a k1 R1 ha
end
end K5
set_option maxHeartbeats 4000000


namespace K5
open PySem PySem.Spec PyProof.Rows L2
/-! items of a module -/
inductive Itm
  | need (m : List Nat)
  | space (m s : List Nat)
  | star (m : List Nat)
  | imp (m : List Nat)
  | frm (m : List Nat)
  | tell (n : Int)
def kw (z : Str) : Tok := ("word", .str z)
def impToks : Itm → Option (List Tok)
  | .need m => some [tkS m, tkG 59]
  | .space m s => some [tkG 42, kw "as", tkN s, kw "from", tkS m, tkG 59]
  | .imp m => some [tkG 123, tkG 125, kw "from", tkS m, tkG 59]
  | _ => none
def expToks : Itm → Option (List Tok)
  | .star m => some [tkG 42, kw "from", tkS m, tkG 59]
  | .frm m => some [tkG 123, tkG 125, kw "from", tkS m, tkG 59]
  | _ => none
def itToks (t : Itm) : List Tok := match impToks t with
  | some l => kw "import" :: l
  | none => match expToks t with
    | some l => kw "export" :: l
    | none => match t with
      | .tell n => [kw "tell", tkI n, tkG 59]
      | _ => []
/-- the item's tuple stands at a -/
def ItemAt (H : Hp) (a : Addr) : Itm → Prop
  | .need m => ∃ i : Int, H a = some (.tup [.str "need", .str (S m), .int i])
  | .space m s => ∃ i : Int, H a = some (.tup [.str "space", .str (S m), .str (S s), .int i])
  | .star m => ∃ i : Int, H a = some (.tup [.str "star", .str (S m), .int i])
  | .imp m => ∃ (b : Addr) (i : Int), H a = some (.tup [.str "import", .str (S m), .ref b, .int i]) ∧ H b = some (.tup [])
  | .frm m => ∃ (b : Addr) (i : Int), H a = some (.tup [.str "from", .str (S m), .ref b, .int i]) ∧ H b = some (.tup [])
  | .tell n => ∃ (b : Addr) (i : Int), H a = some (.tup [.str "tell", .ref b, .int i]) ∧ H b = some (.tup [.str "int", .int n])
theorem ItemAt.mono {H H' : Hp} {a : Addr} {t : Itm} (h : ItemAt H a t) (e : ∀ b xs, H b = some (.tup xs) → H' b = some (.tup xs)) : ItemAt H' a t := by
  cases t with
  | need m => obtain ⟨i, h⟩ := h; exact ⟨i, e _ _ h⟩
  | space m s => obtain ⟨i, h⟩ := h; exact ⟨i, e _ _ h⟩
  | star m => obtain ⟨i, h⟩ := h; exact ⟨i, e _ _ h⟩
  | imp m => obtain ⟨b, i, h, g⟩ := h; exact ⟨b, i, e _ _ h, e _ _ g⟩
  | frm m => obtain ⟨b, i, h, g⟩ := h; exact ⟨b, i, e _ _ h, e _ _ g⟩
  | tell n => obtain ⟨b, i, h, g⟩ := h; exact ⟨b, i, e _ _ h, e _ _ g⟩
/-- tuples stay -/
def KT (H H' : Hp) : Prop := ∀ b xs, H b = some (.tup xs) → H' b = some (.tup xs)
theorem KT.of {H H' : Hp} (e : Same H H') : KT H H' := fun _ _ q => e _ _ q
theorem RD.kt {K : PySem.W.Frag} {H H' : Hp} {r : Addr} {ts : List Tok} {n : Nat} (h : RD K H r ts n) (e : KR r H H') : KT H H' := fun _ _ q => h.kp e q
theorem KT.set {H : Hp} {l : Addr} {o : HO} (h : ∀ xs, H l ≠ some (.tup xs)) : KT H (upd H l o) := fun b xs q => by
  rw [upd_ne (fun z => h xs (by rw [← z]; exact q))]
  exact q
def ItemsAs (H : Hp) (as : List Addr) (ts : List Itm) : Prop := as.length = ts.length ∧ ∀ (i : Nat) (t : Itm), ts[i]? = some t → ∃ a, as[i]? = some a ∧ ItemAt H a t
theorem ItemsAs.kt {H H' : Hp} {as : List Addr} {ts : List Itm} (h : ItemsAs H as ts) (e : KT H H') : ItemsAs H' as ts :=
  ⟨h.1, fun i t q => let ⟨a, h1, h2⟩ := h.2 i t q; ⟨a, h1, h2.mono e⟩⟩
theorem ItemsAs.snoc {H : Hp} {as : List Addr} {ts : List Itm} {a : Addr} {t : Itm} (h : ItemsAs H as ts) (ha : ItemAt H a t) : ItemsAs H (as ++ [a]) (ts ++ [t]) := by
  refine ⟨by rw [List.length_append, List.length_append, h.1]; rfl, fun i t' q => ?_⟩
  by_cases hi : i < ts.length
  · rw [List.getElem?_append_left hi] at q
    obtain ⟨b, h1, h2⟩ := h.2 i t' q
    exact ⟨b, by rw [List.getElem?_append_left (by rw [h.1]; exact hi)]; exact h1, h2⟩
  · rw [List.getElem?_append_right (Nat.le_of_not_lt hi)] at q
    have hz : i - ts.length = 0 := by
      have := (List.getElem?_eq_some_iff.mp q).1
      simpa using this
    rw [hz] at q
    cases q
    exact ⟨a, by rw [List.getElem?_append_right (by rw [h.1]; exact Nat.le_of_not_lt hi), h.1, hz]; rfl, ha⟩
theorem dg {ts : List Tok} {n : Nat} {t : Tok} {r : List Tok} (h : ts.drop n = t :: r) : ts[n]? = some t ∧ ts.drop (n + 1) = r := by
  have h1 : (ts.drop n)[0]? = some t := by rw [h]; rfl
  rw [List.getElem?_drop] at h1
  refine ⟨h1, ?_⟩
  rw [← List.drop_drop, h]
  rfl
def tNeverT : TT := fun _ _ _ => False
theorem pt_never {X : Cx} {e : Expr} : PT X e tNeverT := ⟨fun _ _ _ _ _ _ h => h.elim⟩
section
variable {H : Hp} {Q : VK} {K : PySem.W.Frag} {p l b : Addr} {xs zs : List V}
theorem rd_tupOf (h : H p = some (.lst xs)) (q : ∀ l, H l = none → Q (.ref l) (upd H l (.tup xs))) : rTupOf K [.ref p] H Q := ⟨p, xs, rfl, .inl ⟨SqL.of h, q⟩⟩
theorem rd_cat (h : H l = some (.lst xs)) (g : H b = some (.lst zs)) (hz : xs.length + zs.length ≤ 100000) (q : ∀ p, H p = none → Q (.ref p) (upd H p (.lst (xs ++ zs)))) : rCat (.ref l) (.ref b) H Q := ⟨l, b, xs, zs, rfl, rfl, h, g, small hz, q⟩
end
def spCompound (K : PySem.W.Frag) : Sp := fun vs H Q _ => ∃ (r : Addr) (ts : List Tok) (n : Nat) (i lv : V), vs = [.ref r, i, lv] ∧ RD K H r ts n ∧ ts[n]? = some (kw "tell") ∧ Q .non H
def spSimple (K : PySem.W.Frag) : Sp := fun vs H Q _ => ∃ (r : Addr) (ts : List Tok) (n : Nat) (i lv v : Int), vs = [.ref r, .int i, .int lv] ∧ RD K H r ts n ∧ ts[n]? = some (kw "tell") ∧ ts[n + 1]? = some (tkI v) ∧ ts[n + 1 + 1]? = some (tkG 59) ∧
  ∀ H' a, KR r H H' → RD K H' r ts (n + 3) → ItemAt H' a (.tell v) → Q (.ref a) H'
def spStmt (K : PySem.W.Frag) : Sp := fun vs H Q _ => ∃ (r : Addr) (ts : List Tok) (n : Nat) (lv v : Int), vs = [.ref r, .int lv] ∧ RD K H r ts n ∧ ts[n]? = some (kw "tell") ∧ ts[n + 1]? = some (tkI v) ∧ ts[n + 1 + 1]? = some (tkG 59) ∧
  ∀ H' a, KR r H H' → RD K H' r ts (n + 3) → ItemAt H' a (.tell v) → Q (.ref a) H'
def spPairs (K : PySem.W.Frag) : Sp := fun vs H Q _ => ∃ (r : Addr) (ts : List Tok) (n : Nat), vs = [.ref r] ∧ RD K H r ts n ∧ ts[n]? = some (tkG 123) ∧ ts[n + 1]? = some (tkG 125) ∧
  ∀ H' a, KR r H H' → RD K H' r ts (n + 1 + 1) → H' a = some (.tup []) → Q (.ref a) H'
def spFrom (K : PySem.W.Frag) : Sp := fun vs H Q _ => ∃ (r : Addr) (ts : List Tok) (n : Nat) (m : List Nat), vs = [.ref r] ∧ RD K H r ts n ∧ ts[n]? = some (kw "from") ∧ ts[n + 1]? = some (tkS m) ∧ ts[n + 1 + 1]? = some (tkG 59) ∧
  ∀ H', KR r H H' → RD K H' r ts (n + 1 + 1 + 1) → Q (.str (S m)) H'
def spImport (K : PySem.W.Frag) : Sp := fun vs H Q _ => ∃ (r : Addr) (ts : List Tok) (n : Nat) (i : Int) (it : Itm) (tl more : List Tok), vs = [.ref r, .int i] ∧ RD K H r ts n ∧ impToks it = some tl ∧ ts.drop n = tl ++ more ∧
  ∀ H' a, KR r H H' → RD K H' r ts (n + tl.length) → ItemAt H' a it → Q (.ref a) H'
def spExport (K : PySem.W.Frag) : Sp := fun vs H Q _ => ∃ (r : Addr) (ts : List Tok) (n : Nat) (i : Int) (it : Itm) (tl more : List Tok), vs = [.ref r, .int i] ∧ RD K H r ts n ∧ expToks it = some tl ∧ ts.drop n = tl ++ more ∧
  ∀ H' a l, KR r H H' → RD K H' r ts (n + tl.length) → ItemAt H' a it → H' l = some (.lst [.ref a]) → Q (.ref l) H'
section
variable {P : Program} {w : World} {K : PySem.W.Frag} {mg : Str → Option Value} {base : Heap}
theorem sc_read_compound : FnScope ["reader", "at", "level", "test", "first", "second", "count", "name"] ["reader", "at", "level"] (defScope s_read_compound) := ⟨rfl, rfl, rfl, by decide +kernel, rfl, by decide +kernel, by decide +kernel⟩
theorem ok_read_compound (T : Tx K mg) : Dok P w K mg base CX0 3 (He.ga K "read_compound") ["reader", "at", "level"] (spCompound K) := by
  refine Dok.mk0 (T.F_read_compound) sc_read_compound rfl (fun _ _ _ _ _ _ us hl => match us, hl with | [_, _, _], _ => rfl) (fun vs H Q E h => ?_) (fun cdv A outer s H vs Q E hr h => ?_)
  · obtain ⟨r, ts, n, i, lv, rfl, _⟩ := h; rfl
  · obtain ⟨r, ts, n, i, lv, rfl, hR, h0, k⟩ := h
    obtain ⟨l, dx, m, lim, as, ho, _⟩ := id hR
    refine ⟨_, (pss_cons (ps_if (pt_val (pm (ok_Reader_accept (K := K) T) T.cl_Reader T.me_Reader_accept hr (pv 0) (pa_cons pe_str (pa_cons pe_str pa_nil)))) pss_never pss_nil)
        (pss_cons (ps_if (pt_val (pm (ok_Reader_accept (K := K) T) T.cl_Reader T.me_Reader_accept hr (pv 0) (pa_cons pe_str (pa_cons pe_str pa_nil)))) pss_never pss_nil)
        (pss_cons (ps_if (pt_val (pm (ok_Reader_accept (K := K) T) T.cl_Reader T.me_Reader_accept hr (pv 0) (pa_cons pe_str (pa_cons pe_str pa_nil)))) pss_never pss_nil)
        (pss_cons (ps_if (pt_val (pm (ok_Reader_sees (K := K) T) T.cl_Reader T.me_Reader_sees hr (pv 0) (pa_cons pe_str (pa_cons pe_str pa_nil)))) pss_never pss_nil)
        (pss_one (ps_ret pe_non)))))), ?_⟩
    walk_at "sp"
    exact k
theorem sc_read_simple : FnScope ["reader", "at", "level", "result", "name"] ["reader", "at", "level"] (defScope s_read_simple) := ⟨rfl, rfl, rfl, by decide +kernel, rfl, by decide +kernel, by decide +kernel⟩
theorem ok_read_simple (T : Tx K mg) : Dok P w K mg base CX0 11 (He.ga K "read_simple") ["reader", "at", "level"] (spSimple K) := by
  refine Dok.mk0 (T.F_read_simple) sc_read_simple rfl (fun _ _ _ _ _ _ us hl => match us, hl with | [_, _, _], _ => rfl) (fun vs H Q E h => ?_) (fun cdv A outer s H vs Q E hr h => ?_)
  · obtain ⟨r, ts, n, i, lv, v, rfl, _⟩ := h; rfl
  · obtain ⟨r, ts, n, i, lv, v, rfl, hR, h0, h1, h2, k⟩ := h
    obtain ⟨l, dx, m, lim, as, ho, _⟩ := id hR
    refine ⟨_, (pss_cons (ps_if (pt_val (pm (ok_Reader_accept (K := K) T) T.cl_Reader T.me_Reader_accept hr (pv 0) (pa_cons pe_str (pa_cons pe_str pa_nil)))) (pss_one (ps_set (i := 3) sc_read_simple.nd rfl (Or.inl rfl) (pe_tup (pa_cons pe_str (pa_cons (pc (ok_read_expression (K := K) T) T.g_read_expression hr (pa_cons (pv 0) (pa_cons (pv 2) pa_nil))) (pa_cons (pv 1) pa_nil)))))) pss_never)
        (pss_cons (ps_expr (pm (ok_Reader_expect (K := K) T) T.cl_Reader T.me_Reader_expect hr (pv 0) (pa_cons pe_str (pa_cons pe_str pa_nil))))
        (pss_one (ps_ret (pv 3))))), ?_⟩
    walk_at "sp"
    refine acc_yes hR h0 rfl (by decide) fun H1 k1 R1 => ?_
    walk_at "rp"
    refine ⟨r, ts, _, lv, v, rfl, R1, h1, h2, fun H2 a k2 R2 ha => ?_⟩
    walk_at "rp"
    intro p hp
    have s3 : Same H2 (upd H2 p (.tup [.str "tell", .ref a, .int i])) := Same.upd hp
    have R3 := R2.same s3
    obtain ⟨l, dx, m, lim, as, ho, _⟩ := id R3
    walk_at "rp"
    refine exp_yes R3 h2 rfl (by decide) fun H4 k4 R4 => ?_
    walk_at "rp"
    exact k _ p (((k1.trans k2).same s3).trans k4) R4 ⟨a, i, R3.kp k4 upd_same, R3.kp k4 (s3 _ _ ha)⟩
theorem sc_read_statement : FnScope ["reader", "level", "at", "result"] ["reader", "level"] (defScope s_read_statement) := ⟨rfl, rfl, rfl, by decide +kernel, rfl, by decide +kernel, by decide +kernel⟩
theorem ok_read_statement (T : Tx K mg) : Dok P w K mg base CX0 12 (He.ga K "read_statement") ["reader", "level"] (spStmt K) := by
  refine Dok.mk0 (T.F_read_statement) sc_read_statement rfl (fun _ _ _ _ _ _ us hl => match us, hl with | [_, _], _ => rfl) (fun vs H Q E h => ?_) (fun cdv A outer s H vs Q E hr h => ?_)
  · obtain ⟨r, ts, n, lv, v, rfl, _⟩ := h; rfl
  · obtain ⟨r, ts, n, lv, v, rfl, hR, h0, h1, h2, k⟩ := h
    obtain ⟨l, dx, m, lim, as, ho, _⟩ := id hR
    refine ⟨_, (pss_cons (ps_set (i := 2) sc_read_statement.nd rfl (Or.inl rfl) (pm0 (ok_Reader_at (K := K) T) T.cl_Reader T.me_Reader_at hr (pv 0)))
        (pss_cons (ps_if (pt_val (pm (ok_Reader_accept (K := K) T) T.cl_Reader T.me_Reader_accept hr (pv 0) (pa_cons pe_str (pa_cons pe_str pa_nil)))) pss_never pss_nil)
        (pss_cons (ps_if (PW.pt (pw_and (pt_val (pm (ok_Reader_sees (K := K) T) T.cl_Reader T.me_Reader_sees hr (pv 0) (pa_cons pe_str (pa_cons pe_str pa_nil)))) (pw_and1 pt_never))) pss_never pss_nil)
        (pss_cons (ps_set (i := 3) sc_read_statement.nd rfl (Or.inl rfl) (pc (ok_read_compound (K := K) T) T.g_read_compound hr (pa_cons (pv 0) (pa_cons (pv 2) (pa_cons (pv 1) pa_nil)))))
        (pss_cons (ps_if (pt_cmp (pc_notN (pv 3))) pss_never pss_nil)
        (pss_one (ps_ret (pc (ok_read_simple (K := K) T) T.g_read_simple hr (pa_cons (pv 0) (pa_cons (pv 2) (pa_cons (pv 1) pa_nil))))))))))), ?_⟩
    walk_at "sp"
    refine at_any hR fun i => ?_
    walk_at "rp"
    refine ⟨r, ts, n, _, _, rfl, hR, h0, ?_⟩
    walk_at "rp"
    refine rd_is false rfl (rd_F ?_)
    walk_at "rp"
    refine ⟨r, ts, n, i, lv, v, rfl, hR, h0, h1, h2, k⟩
theorem sc_read_pairs : FnScope ["reader", "pairs", "more", "name", "other"] ["reader"] (defScope s_read_pairs) := ⟨rfl, rfl, rfl, by decide +kernel, rfl, by decide +kernel, by decide +kernel⟩
theorem ok_read_pairs (T : Tx K mg) : Dok P w K mg base CX0 4 (He.ga K "read_pairs") ["reader"] (spPairs K) := by
  refine Dok.mk0 (T.F_read_pairs) sc_read_pairs rfl (fun _ _ _ _ _ _ us hl => match us, hl with | [_], _ => rfl) (fun vs H Q E h => ?_) (fun cdv A outer s H vs Q E hr h => ?_)
  · obtain ⟨r, ts, n, rfl, _⟩ := h; rfl
  · obtain ⟨r, ts, n, rfl, hR, h0, h1, k⟩ := h
    obtain ⟨l, dx, m, lim, as, ho, _⟩ := id hR
    refine ⟨_, (pss_cons (ps_expr (pm (ok_Reader_expect (K := K) T) T.cl_Reader T.me_Reader_expect hr (pv 0) (pa_cons pe_str (pa_cons pe_str pa_nil))))
        (pss_cons (ps_set (i := 1) sc_read_pairs.nd rfl (Or.inl rfl) (pe_lst pa_nil))
        (pss_cons (ps_if (pt_not (pt_val (pm (ok_Reader_accept (K := K) T) T.cl_Reader T.me_Reader_accept hr (pv 0) (pa_cons pe_str (pa_cons pe_str pa_nil))))) pss_never pss_nil)
        (pss_one (ps_ret (pe_callTy cl_tupOf (by rfl) T.n_tuple (by decide +kernel) (pa_cons (pv 1) pa_nil))))))), ?_⟩
    walk_at "sp"
    refine exp_yes hR h0 rfl (by decide) fun H1 k1 R1 => ?_
    walk_at "rp"
    intro p hp
    have s2 : Same H1 (upd H1 p (.lst [])) := Same.upd hp
    have R2 := R1.same s2
    obtain ⟨l, dx, m, lim, as, ho, _⟩ := id R2
    walk_at "rp"
    refine acc_yes R2 h1 rfl (by decide) fun H3 k3 R3 => ?_
    have hp3 : H3 p = some (.lst []) := k3.1 _ _ upd_same fun z => by
      rw [z] at ho
      rw [upd_same] at ho
      cases ho
    walk_at "rp"
    refine rd_tupOf hp3 fun q hq => ?_
    exact k _ q (((k1.same s2).trans k3).same (Same.upd hq)) (R3.same (Same.upd hq)) upd_same
theorem sc_read_from : FnScope ["reader", "name"] ["reader"] (defScope s_read_from) := ⟨rfl, rfl, rfl, by decide +kernel, rfl, by decide +kernel, by decide +kernel⟩
theorem ok_read_from (T : Tx K mg) : Dok P w K mg base CX0 4 (He.ga K "read_from") ["reader"] (spFrom K) := by
  refine Dok.mk0 (T.F_read_from) sc_read_from rfl (fun _ _ _ _ _ _ us hl => match us, hl with | [_], _ => rfl) (fun vs H Q E h => ?_) (fun cdv A outer s H vs Q E hr h => ?_)
  · obtain ⟨r, ts, n, m, rfl, _⟩ := h; rfl
  · obtain ⟨r, ts, n, mm, rfl, hR, h0, h1, h2, k⟩ := h
    obtain ⟨l, dx, m, lim, as, ho, _⟩ := id hR
    refine ⟨_, (pss_cons (ps_expr (pm (ok_Reader_expect (K := K) T) T.cl_Reader T.me_Reader_expect hr (pv 0) (pa_cons pe_str (pa_cons pe_str pa_nil))))
        (pss_cons (ps_set (i := 1) sc_read_from.nd rfl (Or.inl rfl) (pm (ok_Reader_read (K := K) T) T.cl_Reader T.me_Reader_read hr (pv 0) (pa_cons pe_str pa_nil)))
        (pss_cons (ps_expr (pm (ok_Reader_expect (K := K) T) T.cl_Reader T.me_Reader_expect hr (pv 0) (pa_cons pe_str (pa_cons pe_str pa_nil))))
        (pss_one (ps_ret (pv 1)))))), ?_⟩
    walk_at "sp"
    refine exp_yes hR h0 rfl (by decide) fun H1 k1 R1 => ?_
    obtain ⟨l, dx, m, lim, as, ho, _⟩ := id R1
    walk_at "rp"
    refine read_yes R1 h1 fun H2 k2 R2 => ?_
    obtain ⟨l, dx, m, lim, as, ho, _⟩ := id R2
    walk_at "rp"
    refine exp_yes R2 h2 rfl (by decide) fun H3 k3 R3 => ?_
    walk_at "rp"
    exact k _ ((k1.trans k2).trans k3) R3
theorem sc_read_import : FnScope ["reader", "at", "name", "local", "pairs"] ["reader", "at"] (defScope s_read_import) := ⟨rfl, rfl, rfl, by decide +kernel, rfl, by decide +kernel, by decide +kernel⟩
theorem ok_read_import (T : Tx K mg) : Dok P w K mg base CX0 5 (He.ga K "read_import") ["reader", "at"] (spImport K) := by
  refine Dok.mk0 (T.F_read_import) sc_read_import rfl (fun _ _ _ _ _ _ us hl => match us, hl with | [_, _], _ => rfl) (fun vs H Q E h => ?_) (fun cdv A outer s H vs Q E hr h => ?_)
  · obtain ⟨r, ts, n, i, it, tl, more, rfl, _⟩ := h; rfl
  · obtain ⟨r, ts, n, i, it, tl, more, rfl, hR, hi, hd, k⟩ := h
    obtain ⟨l, dx, m, lim, as, ho, _⟩ := id hR
    refine ⟨_, (pss_cons (ps_if (pt_val (pm (ok_Reader_sees_kind (K := K) T) T.cl_Reader T.me_Reader_sees_kind hr (pv 0) (pa_cons pe_str pa_nil))) (pss_cons (ps_set (i := 2) sc_read_import.nd rfl (Or.inl rfl) (pm (ok_Reader_read (K := K) T) T.cl_Reader T.me_Reader_read hr (pv 0) (pa_cons pe_str pa_nil)))
        (pss_cons (ps_expr (pm (ok_Reader_expect (K := K) T) T.cl_Reader T.me_Reader_expect hr (pv 0) (pa_cons pe_str (pa_cons pe_str pa_nil))))
        (pss_one (ps_ret (pe_tup (pa_cons pe_str (pa_cons (pv 2) (pa_cons (pv 1) pa_nil)))))))) pss_nil)
        (pss_cons (ps_if (pt_val (pm (ok_Reader_accept (K := K) T) T.cl_Reader T.me_Reader_accept hr (pv 0) (pa_cons pe_str (pa_cons pe_str pa_nil)))) (pss_cons (ps_expr (pm (ok_Reader_expect (K := K) T) T.cl_Reader T.me_Reader_expect hr (pv 0) (pa_cons pe_str (pa_cons pe_str pa_nil))))
        (pss_cons (ps_set (i := 3) sc_read_import.nd rfl (Or.inl rfl) (pm (ok_Reader_read (K := K) T) T.cl_Reader T.me_Reader_read hr (pv 0) (pa_cons pe_str pa_nil)))
        (pss_one (ps_ret (pe_tup (pa_cons pe_str (pa_cons (pc (ok_read_from (K := K) T) T.g_read_from hr (pa_cons (pv 0) pa_nil)) (pa_cons (pv 3) (pa_cons (pv 1) pa_nil))))))))) pss_nil)
        (pss_cons (ps_set (i := 4) sc_read_import.nd rfl (Or.inl rfl) (pc (ok_read_pairs (K := K) T) T.g_read_pairs hr (pa_cons (pv 0) pa_nil)))
        (pss_one (ps_ret (pe_tup (pa_cons pe_str (pa_cons (pc (ok_read_from (K := K) T) T.g_read_from hr (pa_cons (pv 0) pa_nil)) (pa_cons (pv 4) (pa_cons (pv 1) pa_nil)))))))))), ?_⟩
    cases it with
    | need mm =>
      cases hi
      obtain ⟨h0, hd⟩ := dg hd
      obtain ⟨h1, hd⟩ := dg hd
      walk_at "sp"
      refine kind_is true hR h0 rfl ?_
      walk_at "rp"
      refine read_yes hR h0 fun H1 k1 R1 => ?_
      obtain ⟨l, dx, m, lim, as, ho, _⟩ := id R1
      walk_at "rp"
      refine exp_yes R1 h1 rfl (by decide) fun H2 k2 R2 => ?_
      walk_at "rp"
      intro p hp
      exact k _ p ((k1.trans k2).same (Same.upd hp)) (R2.same (Same.upd hp)) ⟨i, upd_same⟩
    | space mm s =>
      cases hi
      obtain ⟨h0, hd⟩ := dg hd
      obtain ⟨h1, hd⟩ := dg hd
      obtain ⟨h2, hd⟩ := dg hd
      obtain ⟨h3, hd⟩ := dg hd
      obtain ⟨h4, hd⟩ := dg hd
      obtain ⟨h5, hd⟩ := dg hd
      walk_at "sp"
      refine kind_is false hR h0 rfl ?_
      walk_at "rp"
      refine acc_yes hR h0 rfl (by decide) fun H1 k1 R1 => ?_
      obtain ⟨l, dx, m, lim, as, ho, _⟩ := id R1
      walk_at "rp"
      refine exp_yes R1 h1 rfl (by decide) fun H2 k2 R2 => ?_
      obtain ⟨l, dx, m, lim, as, ho, _⟩ := id R2
      walk_at "rp"
      refine read_yes R2 h2 fun H3 k3 R3 => ?_
      walk_at "rp"
      refine ⟨r, ts, _, mm, rfl, R3, h3, h4, h5, fun H4 k4 R4 => ?_⟩
      walk_at "rp"
      intro p hp
      exact k _ p ((((k1.trans k2).trans k3).trans k4).same (Same.upd hp)) (R4.same (Same.upd hp)) ⟨i, upd_same⟩
    | imp mm =>
      cases hi
      obtain ⟨h0, hd⟩ := dg hd
      obtain ⟨h1, hd⟩ := dg hd
      obtain ⟨h2, hd⟩ := dg hd
      obtain ⟨h3, hd⟩ := dg hd
      obtain ⟨h4, hd⟩ := dg hd
      walk_at "sp"
      refine kind_is false hR h0 rfl ?_
      walk_at "rp"
      refine ⟨r, ts, n, rfl, hR, h0, h1, fun H1 b k1 R1 hb => ?_⟩
      walk_at "rp"
      refine ⟨r, ts, _, mm, rfl, R1, h2, h3, h4, fun H2 k2 R2 => ?_⟩
      walk_at "rp"
      intro p hp
      exact k _ p ((k1.trans k2).same (Same.upd hp)) (R2.same (Same.upd hp)) ⟨b, i, upd_same, Same.upd hp _ _ (R1.kp k2 hb)⟩
    | star mm => cases hi
    | frm mm => cases hi
    | tell v => cases hi
theorem sc_read_export : FnScope ["reader", "at", "pairs", "start", "item"] ["reader", "at"] (defScope s_read_export) := ⟨rfl, rfl, rfl, by decide +kernel, rfl, by decide +kernel, by decide +kernel⟩
theorem ok_read_export (T : Tx K mg) : Dok P w K mg base CX0 5 (He.ga K "read_export") ["reader", "at"] (spExport K) := by
  refine Dok.mk0 (T.F_read_export) sc_read_export rfl (fun _ _ _ _ _ _ us hl => match us, hl with | [_, _], _ => rfl) (fun vs H Q E h => ?_) (fun cdv A outer s H vs Q E hr h => ?_)
  · obtain ⟨r, ts, n, i, it, tl, more, rfl, _⟩ := h; rfl
  · obtain ⟨r, ts, n, i, it, tl, more, rfl, hR, hi, hd, k⟩ := h
    obtain ⟨l, dx, m, lim, as, ho, _⟩ := id hR
    refine ⟨_, (pss_cons (ps_if (pt_val (pm (ok_Reader_accept (K := K) T) T.cl_Reader T.me_Reader_accept hr (pv 0) (pa_cons pe_str (pa_cons pe_str pa_nil)))) (pss_one (ps_ret (pe_lst (pa_cons (pe_tup (pa_cons pe_str (pa_cons (pc (ok_read_from (K := K) T) T.g_read_from hr (pa_cons (pv 0) pa_nil)) (pa_cons (pv 1) pa_nil)))) pa_nil)))) pss_nil)
        (pss_cons (ps_if (pt_val (pm (ok_Reader_sees (K := K) T) T.cl_Reader T.me_Reader_sees hr (pv 0) (pa_cons pe_str (pa_cons pe_str pa_nil)))) (pss_cons (ps_set (i := 2) sc_read_export.nd rfl (Or.inl rfl) (pc (ok_read_pairs (K := K) T) T.g_read_pairs hr (pa_cons (pv 0) pa_nil)))
        (pss_cons (ps_if (pt_val (pm (ok_Reader_sees (K := K) T) T.cl_Reader T.me_Reader_sees hr (pv 0) (pa_cons pe_str (pa_cons pe_str pa_nil)))) (pss_one (ps_ret (pe_lst (pa_cons (pe_tup (pa_cons pe_str (pa_cons (pc (ok_read_from (K := K) T) T.g_read_from hr (pa_cons (pv 0) pa_nil)) (pa_cons (pv 2) (pa_cons (pv 1) pa_nil))))) pa_nil)))) pss_nil)
        pss_never)) pss_nil)
        pss_never)), ?_⟩
    cases it with
    | star mm =>
      cases hi
      obtain ⟨h0, hd⟩ := dg hd
      obtain ⟨h1, hd⟩ := dg hd
      obtain ⟨h2, hd⟩ := dg hd
      obtain ⟨h3, hd⟩ := dg hd
      walk_at "sp"
      refine acc_yes hR h0 rfl (by decide) fun H1 k1 R1 => ?_
      walk_at "rp"
      refine ⟨r, ts, _, mm, rfl, R1, h1, h2, h3, fun H2 k2 R2 => ?_⟩
      walk_at "rp"
      intro p hp
      walk_at "rp"
      intro q hq
      have s3 := Same.upd (o := .tup [.str "star", .str (S mm), .int i]) hp
      have s4 := Same.upd (o := .lst [.ref p]) hq
      exact k _ p q (((k1.trans k2).same s3).same s4) ((R2.same s3).same s4) ⟨i, s4 _ _ upd_same⟩ upd_same
    | frm mm =>
      cases hi
      obtain ⟨h0, hd⟩ := dg hd
      obtain ⟨h1, hd⟩ := dg hd
      obtain ⟨h2, hd⟩ := dg hd
      obtain ⟨h3, hd⟩ := dg hd
      obtain ⟨h4, hd⟩ := dg hd
      walk_at "sp"
      refine sees_yes hR h0 rfl (by decide) ?_
      walk_at "rp"
      refine ⟨r, ts, n, rfl, hR, h0, h1, fun H1 b k1 R1 hb => ?_⟩
      obtain ⟨l, dx, m, lim, as, ho, _⟩ := id R1
      walk_at "rp"
      refine sees_yes R1 h2 rfl (by decide) ?_
      walk_at "rp"
      refine ⟨r, ts, _, mm, rfl, R1, h2, h3, h4, fun H2 k2 R2 => ?_⟩
      walk_at "rp"
      intro p hp
      walk_at "rp"
      intro q hq
      have s3 := Same.upd (o := .tup [.str "from", .str (S mm), .ref b, .int i]) hp
      have s4 := Same.upd (o := .lst [.ref p]) hq
      exact k _ p q (((k1.trans k2).same s3).same s4) ((R2.same s3).same s4) ⟨b, i, s4 _ _ upd_same, s4 _ _ (s3 _ _ (R1.kp k2 hb))⟩ upd_same
    | need mm => cases hi
    | space mm s => cases hi
    | imp mm => cases hi
    | tell v => cases hi
end
end K5
set_option maxHeartbeats 4000000


namespace K5
open PySem PySem.Spec PyProof.Rows L2
theorem rd_isT {b : Bool} {A B : Prop} (e : b = true) (h : A) : if b = true then A else B := rd_is true e (rd_T h)
theorem rd_isF {b : Bool} {A B : Prop} (e : b = false) (h : B) : if b = true then A else B := rd_is false e (rd_F h)
theorem rd_ixLi {K : PySem.W.Frag} {H : Hp} {Q : VK} {p : Addr} {xs : List V} {v : V} {i : Int} (j : Nat) (h : H p = some (.lst xs)) (ei : i = (j : Int)) (e : xs[j]? = some v) (q : Q v H) : rIxL K (.ref p) (.int i) H Q := by
  rw [ei]
  exact rd_ixL h e q
theorem rd_inU {K : PySem.W.Frag} {H : Hp} {Q : VK} {x : V} {p : Addr} {xs : List V} (hx : flatV x = true) (hs : xs.all flatV = true) (q : Q (.bl (inV x xs)) (upd H p (.tup xs))) : rIn K false x (.ref p) (upd H p (.tup xs)) Q := rd_inT (SqT.of upd_same) hx hs q
theorem same_new {H H' : Hp} {l : Addr} {o : HO} (h : Same H H') (e : H l = none) : Same H (upd H' l o) := fun b x q => by
  rw [upd_ne (ne_of_none q e)]
  exact h b x q
theorem kr_same {H H1 H2 : Hp} {r : Addr} (h : Same H H1) (e : H r = none) (k : KR r H1 H2) : Same H H2 := fun b x q => k.1 b x (h b x q) (ne_of_none q e)
theorem same_none {H H' : Hp} {p : Addr} (h : Same H H') (e : H' p = none) : H p = none := by
  cases q : H p with
  | none => rfl
  | some o =>
    rw [h p o q] at e
    cases e
end K5
local macro_rules | `(tactic| walk_at "ri1") => `(tactic| first
  | walk_at "rd1"
  | ((with_reducible refine K5.rd_isF ?he ?_); (case he => exact rfl))
  | ((with_reducible refine K5.rd_isT ?he ?_); (case he => exact rfl)))
local macro_rules | `(tactic| walk_at "ri") => `(tactic| repeat walk_at "ri1")
local macro_rules | `(tactic| walk_at "si") => `(tactic| (simp only [K5.start_c, K5.start_o, K5.start_n]; walk_at "ri"))

namespace K5
open PySem PySem.Spec PyProof.Rows L2
theorem ItemsAs.last {H : Hp} {as : List Addr} {ts : List Itm} {a : Addr} {t : Itm} (h : ItemsAs H (as ++ [a]) (ts ++ [t])) : ItemAt H a t := by
  have e := h.1
  rw [List.length_append, List.length_append] at e
  have e2 : as.length = ts.length := Nat.add_right_cancel e
  obtain ⟨b, h1, h2⟩ := h.2 ts.length t (by simp)
  rw [← e2] at h1
  simp at h1
  rw [h1]
  exact h2
theorem RD.setOther {K : PySem.W.Frag} {H : Hp} {r L : Addr} {ts : List Tok} {n : Nat} {xs : List V} {o : HO} (h : RD K H r ts n) (hL : H L = some (.lst xs)) (hne : L ≠ r) {l0 : Addr} (h0 : restOf H r = some (.ref l0)) (hd : l0 ≠ L) : RD K (upd H L o) r ts n := by
  obtain ⟨l, dx, m, k, as, ho, hls, htk, hg⟩ := h
  have hl : l ≠ L := fun z => hd (by
    rw [← z]
    have e := RdAt.rest ⟨ho, hls, htk, hg⟩
    rw [h0] at e
    exact V.ref.inj (Option.some.inj e))
  exact ⟨l, dx, m, k, as, by rw [upd_ne fun z => hne z.symm]; exact ho, by rw [upd_ne hl]; exact hls, htk.kp Kp.set (fun xs z => by rw [hL] at z; cases z), hg⟩
def spParse : Sp := fun vs H Q _ => ∃ (cs : List Nat) (m : V) (its : List Itm), vs = [.str (S cs), m] ∧ cs.length ≤ 20000 ∧ its.length ≤ 100 ∧ Lex cs (its.flatMap itToks) ∧
  ∀ H' l as, Same H H' → H l = none → H' l = some (.lst (as.map V.ref)) → ItemsAs H' as its → Q (.ref l) H'
def spEDepth : Sp := fun vs H Q _ => ∃ (a : Addr) (v : Int), vs = [.ref a] ∧ H a = some (.tup [.str "int", .int v]) ∧ ∀ H', Same H H' → Q (.int 1) H'
def spDepth : Sp := fun vs H Q _ => ∃ (a : Addr) (it : Itm), vs = [.ref a] ∧ ItemAt H a it ∧ ∀ (k : Int) (H' : Hp), k ≤ 2 → Same H H' → Q (.int k) H'
theorem it_three (it : Itm) : (∃ tl, impToks it = some tl ∧ itToks it = kw "import" :: tl) ∨ (∃ tl, expToks it = some tl ∧ itToks it = kw "export" :: tl) ∨ (∃ n, it = .tell n ∧ itToks it = [kw "tell", tkI n, tkG 59]) := by
  cases it with
  | need m => exact .inl ⟨_, rfl, rfl⟩
  | space m s => exact .inl ⟨_, rfl, rfl⟩
  | imp m => exact .inl ⟨_, rfl, rfl⟩
  | star m => exact .inr (.inl ⟨_, rfl, rfl⟩)
  | frm m => exact .inr (.inl ⟨_, rfl, rfl⟩)
  | tell n => exact .inr (.inr ⟨n, rfl, rfl⟩)
section
variable {P : Program} {w : World} {K : PySem.W.Frag} {mg : Str → Option Value} {base : Heap}
theorem sc_expression_depth : FnScope ["e", "head", "argument"] ["e"] (defScope s_expression_depth) := ⟨rfl, rfl, rfl, by decide +kernel, rfl, by decide +kernel, by decide +kernel⟩
theorem ok_expression_depth (T : Tx K mg) : Dok P w K mg base CX0 1 (He.ga K "expression_depth") ["e"] (spEDepth) := by
  refine Dok.mk0 (T.F_expression_depth) sc_expression_depth rfl (fun _ _ _ _ _ _ us hl => match us, hl with | [_], _ => rfl) (fun vs H Q E h => ?_) (fun cdv A outer s H vs Q E hr h => ?_)
  · obtain ⟨a, v, rfl, _⟩ := h; rfl
  · obtain ⟨a, v, rfl, ha, k⟩ := h
    refine ⟨_, (pss_cons (ps_set (i := 1) sc_expression_depth.nd rfl (Or.inl rfl) (pe_ix ix_tup (pv 0) pe_int (fun _ _ => rfl)))
        (pss_cons (ps_if (pt_cmpR op_in_seq (pv 1) (pe_tup (pa_cons pe_str (pa_cons pe_str (pa_cons pe_str (pa_cons pe_str (pa_cons pe_str pa_nil)))))) (by rfl)) (pss_one (ps_ret pe_int)) pss_nil)
        pss_never)), ?_⟩
    walk_at "si"
    intro p hp
    refine rd_inU rfl rfl ?_
    walk_at "ri"
    exact k _ (Same.upd hp)
theorem sc_depth : FnScope ["item", "head"] ["item"] (defScope s_depth) := ⟨rfl, rfl, rfl, by decide +kernel, rfl, by decide +kernel, by decide +kernel⟩
theorem ok_depth (T : Tx K mg) : Dok P w K mg base CX0 2 (He.ga K "depth") ["item"] (spDepth) := by
  refine Dok.mk0 (T.F_depth) sc_depth rfl (fun _ _ _ _ _ _ us hl => match us, hl with | [_], _ => rfl) (fun vs H Q E h => ?_) (fun cdv A outer s H vs Q E hr h => ?_)
  · obtain ⟨a, it, rfl, _⟩ := h; rfl
  · obtain ⟨a, it, rfl, ha, k⟩ := h
    refine ⟨_, (pss_cons (ps_set (i := 1) sc_depth.nd rfl (Or.inl rfl) (pe_ix ix_tup (pv 0) pe_int (fun _ _ => rfl)))
        (pss_cons (ps_if (PW.pt (pw_or (pt_cmpR op_eq (pv 1) pe_str (nomark _)) (pw_or1 (pt_cmpR op_eq (pv 1) pe_str (nomark _))))) pss_never pss_nil)
        (pss_cons (ps_if (pt_cmpR op_eq (pv 1) pe_str (nomark _)) pss_never pss_nil)
        (pss_cons (ps_if (pt_cmpR op_in_seq (pv 1) (pe_tup (pa_cons pe_str (pa_cons pe_str (pa_cons pe_str (pa_cons pe_str pa_nil))))) (by rfl)) (pss_one (ps_ret (pe_op op_add pe_int (pc (ok_expression_depth (K := K) T) T.g_expression_depth hr (pa_cons (pe_ix ix_tup (pv 0) pe_int (fun _ _ => rfl)) pa_nil))))) pss_nil)
        (pss_cons (ps_if (pt_cmpR op_eq (pv 1) pe_str (nomark _)) pss_never pss_nil)
        (pss_cons (ps_if (pt_cmpR op_eq (pv 1) pe_str (nomark _)) pss_never pss_nil)
        (pss_cons (ps_if (pt_cmpR op_eq (pv 1) pe_str (nomark _)) pss_never pss_nil)
        (pss_cons (ps_if (pt_cmpR op_eq (pv 1) pe_str (nomark _)) pss_never pss_nil)
        (pss_one (ps_ret pe_int)))))))))), ?_⟩
    cases it with
    | need m =>
      obtain ⟨i, ha⟩ := ha
      walk_at "si"
      intro p hp
      refine rd_inU rfl rfl ?_
      walk_at "ri"
      exact k 1 _ (by decide) (Same.upd hp)
    | space m s =>
      obtain ⟨i, ha⟩ := ha
      walk_at "si"
      intro p hp
      refine rd_inU rfl rfl ?_
      walk_at "ri"
      exact k 1 _ (by decide) (Same.upd hp)
    | star m =>
      obtain ⟨i, ha⟩ := ha
      walk_at "si"
      intro p hp
      refine rd_inU rfl rfl ?_
      walk_at "ri"
      exact k 1 _ (by decide) (Same.upd hp)
    | imp m =>
      obtain ⟨b, i, ha, hb⟩ := ha
      walk_at "si"
      intro p hp
      refine rd_inU rfl rfl ?_
      walk_at "ri"
      exact k 1 _ (by decide) (Same.upd hp)
    | frm m =>
      obtain ⟨b, i, ha, hb⟩ := ha
      walk_at "si"
      intro p hp
      refine rd_inU rfl rfl ?_
      walk_at "ri"
      exact k 1 _ (by decide) (Same.upd hp)
    | tell n =>
      obtain ⟨b, i, ha, hb⟩ := ha
      walk_at "si"
      intro p hp
      refine rd_inU rfl rfl ?_
      have ha2 := Same.upd (o := .tup [.str "do", .str "tell", .str "return", .str "throw"]) hp _ _ ha
      walk_at "ri"
      refine ⟨b, n, rfl, Same.upd hp _ _ hb, fun H' hs => ?_⟩
      walk_at "ri"
      exact k (1 + 1) _ (by decide) ((Same.upd hp).trans hs)
theorem sc_parse : FnScope ["text", "module", "reader", "items", "at"] ["text", "module"] (defScope s_parse) := ⟨rfl, rfl, rfl, by decide +kernel, rfl, by decide +kernel, by decide +kernel⟩
theorem ok_parse (T : Tx K mg) : Dok P w K mg base CX0 13 (He.ga K "parse") ["text", "module"] (spParse) := by
  refine Dok.mk0 (T.F_parse) sc_parse rfl (fun _ _ _ _ _ _ us hl => match us, hl with | [_, _], _ => rfl) (fun vs H Q E h => ?_) (fun cdv A outer s H vs Q E hr h => ?_)
  · obtain ⟨cs, m, its, rfl, _⟩ := h; rfl
  · obtain ⟨cs, m, its, rfl, hl, hn, hx, k⟩ := h
    obtain ⟨cR, n1, n2, n3, n4, n5⟩ := T.reader
    refine ⟨_, (pss_cons (ps_set (i := 2) sc_parse.nd rfl (Or.inl rfl) (pk T.mk_Reader (ok_Reader_init (K := K) T) T.g_Reader hr (pa_cons (pv 0) (pa_cons (pv 1) pa_nil))))
        (pss_cons (ps_set (i := 3) sc_parse.nd rfl (Or.inl rfl) (pe_lst pa_nil))
        (pss_cons (ps_while PassesOwn.never (pt_cmpR op_lt (pe_fld (pv 2) rfl) (pe_callB cl_lenSeq (by rfl) T.n_len (by decide +kernel) (pa_cons (pe_fld (pv 2) rfl) pa_nil)) (nomark _)) (pss_cons (ps_set (i := 4) sc_parse.nd rfl (Or.inl rfl) (pm0 (ok_Reader_at (K := K) T) T.cl_Reader T.me_Reader_at hr (pv 2)))
        (pss_cons (ps_if (pt_val (pm (ok_Reader_accept (K := K) T) T.cl_Reader T.me_Reader_accept hr (pv 2) (pa_cons pe_str (pa_cons pe_str pa_nil)))) (pss_one (ps_expr (pe_bm PySem.F.plainAttrs_list PySem.F.slot_list_append PySem.F.type_list_append mt_append (pv 3) (pa_cons (pc (ok_read_import (K := K) T) T.g_read_import hr (pa_cons (pv 2) (pa_cons (pv 4) pa_nil))) pa_nil)))) (pss_one (ps_if (pt_val (pm (ok_Reader_accept (K := K) T) T.cl_Reader T.me_Reader_accept hr (pv 2) (pa_cons pe_str (pa_cons pe_str pa_nil)))) (pss_one (ps_set (i := 3) sc_parse.nd rfl (Or.inl rfl) (pe_op op_cat (pv 3) (pc (ok_read_export (K := K) T) T.g_read_export hr (pa_cons (pv 2) (pa_cons (pv 4) pa_nil)))))) (pss_one (ps_expr (pe_bm PySem.F.plainAttrs_list PySem.F.slot_list_append PySem.F.type_list_append mt_append (pv 3) (pa_cons (pc (ok_read_statement (K := K) T) T.g_read_statement hr (pa_cons (pv 2) (pa_cons pe_int pa_nil))) pa_nil)))))))
        (pss_one (ps_if (PW.pt (pw_or (pt_cmpR op_gt (pc (ok_depth (K := K) T) T.g_depth hr (pa_cons (pe_ix ix_list (pv 3) (pe_op op_sub (pe_callB cl_lenSeq (by rfl) T.n_len (by decide +kernel) (pa_cons (pv 3) pa_nil)) pe_int) (fun _ _ => rfl)) pa_nil)) (C8.pe_gc rfl T.i_MAX_DEPTH) (nomark _)) (pw_or1 (PW.pt (pw_and (pt_cmpR op_gt (pe_callB cl_lenSeq (by rfl) T.n_len (by decide +kernel) (pa_cons (pv 3) pa_nil)) pe_int (nomark _)) (pw_and1 (pt_cmpR op_gt (pc (ok_depth (K := K) T) T.g_depth hr (pa_cons (pe_ix ix_list (pv 3) (pe_op op_sub (pe_callB cl_lenSeq (by rfl) T.n_len (by decide +kernel) (pa_cons (pv 3) pa_nil)) pe_int) (fun _ _ => rfl)) pa_nil)) (C8.pe_gc rfl T.i_MAX_DEPTH) (nomark _)))))))) pss_never pss_nil)))))
        (pss_one (ps_ret (pv 3)))))), ?_⟩
    walk_at "st"
    intro r dx hr0 hdx hne
    refine ⟨r, dx, cs, m, its.flatMap itToks, rfl, upd_same, hl, hx, fun H1 k1 R1 => ⟨rfl, ?_⟩⟩
    have s1 : Same H H1 := fun b o e => k1 b o (by rw [upd_ne (ne_of_none e hr0), upd_ne (ne_of_none e hdx)]; exact e) (ne_of_none e hr0)
    obtain ⟨ts, hg⟩ : ∃ ts, ts = its.flatMap itToks := ⟨_, rfl⟩
    rw [← hg] at hx R1
    have hts : ts.drop 0 = its.flatMap itToks := hg
    walk_at "rd"
    intro L hL
    have hL0 : H L = none := same_none s1 hL
    have hLr : L ≠ r := fun z => by
      obtain ⟨l, dx, m, lim, as, ho, _⟩ := R1
      rw [← z, hL] at ho
      cases ho
    obtain ⟨l0, hl0, hlL⟩ : ∃ l0, restOf H1 r = some (.ref l0) ∧ l0 ≠ L := by
      obtain ⟨l, dx, m, lim, as, ho, hls, htk, hg⟩ := R1
      exact ⟨l, RdAt.rest ⟨ho, hls, htk, hg⟩, fun z => by rw [z, hL] at hls; cases hls⟩
    walk_at "rd"
    refine rd_while (fun m' σ H' => ∃ (n : Nat) (ov : Option V) (L l0 : Addr) (as : List Addr) (done todo : List Itm), σ = [some (.str (S cs)), some m, some (.ref r), some (.ref L), ov] ∧ Same H H' ∧ H L = none ∧ L ≠ r ∧ restOf H' r = some (.ref l0) ∧ l0 ≠ L ∧ RD K H' r ts n ∧
      H' L = some (.lst (as.map V.ref)) ∧ ItemsAs H' as done ∧ done ++ todo = its ∧ ts.drop n = todo.flatMap itToks ∧ m' = todo.length) its.length
      ⟨0, none, L, l0, [], [], its, rfl, s1.trans (Same.upd hL), hL0, hLr, restOf_same (Same.upd hL) hl0, hlL, R1.same (Same.upd hL), upd_same, ⟨rfl, fun i t q => by cases q⟩, rfl, hts, rfl⟩ ?_
    clear hL0 hLr hL hl0 hlL l0 L R1
    rintro m' σ H' ⟨n, ov, L, l0, as, done, todo, rfl, hs, hL0, hLr, hl0, hlL, R1, hL, hA, hdt, hd, rfl⟩
    obtain ⟨l, dx, m2, lim, tas, ho, hls, htk, hgd⟩ := id R1
    have hlen : done.length ≤ 100 := by
      rw [← hdt, List.length_append] at hn
      omega
    walk_at "rd"
    cases todo with
    | nil =>
      refine rd_isF (decide_eq_false ?_) ?_
      · have := congrArg List.length hd
        rw [List.length_drop] at this
        have e := htk.1
        rw [List.length_map]
        have e0 : ts.length - n = 0 := this
        omega
      walk_at "rd"
      rw [List.append_nil] at hdt
      exact k _ L as hs hL0 hL (hdt ▸ hA)
    | cons it todo =>
      have hd1 : ts.drop n = itToks it ++ todo.flatMap itToks := hd
      have hlt : n < tas.length := by
        rw [htk.1]
        have := congrArg List.length hd1
        rw [List.length_drop, List.length_append] at this
        have e3 : 0 < (itToks it).length := by
          cases it <;> exact Nat.succ_pos _
        omega
      refine rd_isT (decide_eq_true (by rw [List.length_map]; omega)) ?_
      refine rd_turn ?_
      walk_at "rd"
      refine at_any R1 fun i => ?_
      walk_at "rd"
      have hdt2 : (done ++ [it]) ++ todo = its := by rw [List.append_assoc]; exact hdt
      rcases it_three it with ⟨tl, hi, ht⟩ | ⟨tl, hi, ht⟩ | ⟨v, rfl, ht⟩
      case' inl =>
        rw [ht] at hd1
        obtain ⟨h0, hd2⟩ := dg hd1
        refine acc_yes R1 h0 rfl (by decide) fun H2 k2 R2 => ?_
        have hL2 := k2.1 _ _ hL hLr
        walk_at "rd"
        refine ⟨r, ts, _, i, it, tl, _, rfl, R2, hi, hd2, fun H3 a k3 R3 ha => ?_⟩
        have hL3 := k3.1 _ _ hL2 hLr
        have hl3 := k3.2 _ (k2.2 _ hl0)
        walk_at "rd"
        refine rd_append hL3 (by rw [List.length_map, hA.1]; omega) ?_
        have hs5 : Same H (upd H3 L (.lst (as.map V.ref ++ [.ref a]))) := same_new (kr_same (kr_same hs hr0 k2) hr0 k3) hL0
        have kt5 : KT H3 (upd H3 L (.lst (as.map V.ref ++ [.ref a]))) := KT.set fun xs z => by rw [hL3] at z; cases z
        have hl5 : restOf (upd H3 L (.lst (as.map V.ref ++ [.ref a]))) r = some (.ref l0) := by
          unfold restOf
          rw [upd_ne fun z => hLr z.symm]
          exact hl3
        have R5 := R3.setOther (o := .lst (as.map V.ref ++ [.ref a])) hL3 hLr hl3 hlL
        have hA5 := ((hA.kt (R1.kt k2)).kt (R2.kt k3)).kt kt5 |>.snoc (ha.mono kt5)
        have hL5 : (upd H3 L (.lst (as.map V.ref ++ [.ref a]))) L = some (.lst ((as ++ [a]).map V.ref)) := by rw [upd_same, List.map_append]; rfl
        have hd5 : ts.drop (n + 1 + tl.length) = todo.flatMap itToks := by rw [← List.drop_drop, hd2]; exact List.drop_left
        generalize upd H3 L (.lst (as.map V.ref ++ [.ref a])) = H5 at hs5 R5 hA5 hL5 hl5 ⊢
        generalize n + 1 + tl.length = n5 at R5 hd5
        clear hL3 hL2 R2 R3 ha kt5 k2 k3 hi
      case' inr.inl =>
        rw [ht] at hd1
        obtain ⟨h0, hd2⟩ := dg hd1
        walk_at "rp"
        refine acc_yes R1 h0 rfl (by decide) fun H2 k2 R2 => ?_
        have hL2 := k2.1 _ _ hL hLr
        walk_at "rd"
        refine ⟨r, ts, _, i, it, tl, _, rfl, R2, hi, hd2, fun H3 a q k3 R3 ha hq => ?_⟩
        have hL3 := k3.1 _ _ hL2 hLr
        have hl3 := k3.2 _ (k2.2 _ hl0)
        walk_at "rd"
        refine rd_cat hL3 hq (by rw [List.length_map, hA.1]; show done.length + 1 ≤ _; omega) fun p hp => ?_
        walk_at "rd"
        have s4 : Same H3 (upd H3 p (.lst (as.map V.ref ++ [.ref a]))) := Same.upd hp
        have s3 := kr_same (kr_same hs hr0 k2) hr0 k3
        have hs5 := s3.trans s4
        have R5 := R3.same s4
        have hA5 := ((hA.kt (R1.kt k2)).kt (R2.kt k3)).kt (KT.of s4) |>.snoc (ha.mono (KT.of s4))
        have hL5 : (upd H3 p (.lst (as.map V.ref ++ [.ref a]))) p = some (.lst ((as ++ [a]).map V.ref)) := by rw [upd_same, List.map_append]; rfl
        have hd5 : ts.drop (n + 1 + tl.length) = todo.flatMap itToks := by rw [← List.drop_drop, hd2]; exact List.drop_left
        have hpr : p ≠ r := fun z => by
          obtain ⟨l, dx, m2, lim, tas, ho, _⟩ := R3
          rw [← z, hp] at ho
          cases ho
        have hp0 : H p = none := same_none s3 hp
        have hl5 := restOf_same s4 hl3
        have hlp : l0 ≠ p := fun z => by
          obtain ⟨l, dx, m, lim, as, ho, hls, htk, hg⟩ := R3
          have e := RdAt.rest ⟨ho, hls, htk, hg⟩
          rw [hl3] at e
          have e2 := V.ref.inj (Option.some.inj e)
          rw [← e2, z, hp] at hls
          cases hls
        generalize upd H3 p (.lst (as.map V.ref ++ [.ref a])) = H5 at hs5 R5 hA5 hL5 hl5 ⊢
        generalize n + 1 + tl.length = n5 at R5 hd5
        clear hL3 hL2 R2 R3 ha k2 k3 hi hL0 hLr hL hp s3 s4 hlL
        have hL0 := hp0
        have hLr := hpr
        have hlL := hlp
      case' inr.inr =>
        rw [ht] at hd1
        obtain ⟨h0, hd2⟩ := dg hd1
        obtain ⟨h1, hd3⟩ := dg hd2
        obtain ⟨h2, hd4⟩ := dg hd3
        walk_at "rp"
        refine ⟨r, ts, n, 1, v, rfl, R1, h0, h1, h2, fun H3 a k3 R3 ha => ?_⟩
        have hL3 := k3.1 _ _ hL hLr
        have hl3 := k3.2 _ hl0
        walk_at "rd"
        refine rd_append hL3 (by rw [List.length_map, hA.1]; omega) ?_
        have hs5 : Same H (upd H3 L (.lst (as.map V.ref ++ [.ref a]))) := same_new (kr_same hs hr0 k3) hL0
        have kt5 : KT H3 (upd H3 L (.lst (as.map V.ref ++ [.ref a]))) := KT.set fun xs z => by rw [hL3] at z; cases z
        have hl5 : restOf (upd H3 L (.lst (as.map V.ref ++ [.ref a]))) r = some (.ref l0) := by
          unfold restOf
          rw [upd_ne fun z => hLr z.symm]
          exact hl3
        have R5 := R3.setOther (o := .lst (as.map V.ref ++ [.ref a])) hL3 hLr hl3 hlL
        have hA5 := (hA.kt (R1.kt k3)).kt kt5 |>.snoc (ha.mono kt5)
        have hL5 : (upd H3 L (.lst (as.map V.ref ++ [.ref a]))) L = some (.lst ((as ++ [a]).map V.ref)) := by rw [upd_same, List.map_append]; rfl
        have hd5 : ts.drop (n + 3) = todo.flatMap itToks := hd4
        generalize upd H3 L (.lst (as.map V.ref ++ [.ref a])) = H5 at hs5 R5 hA5 hL5 hl5 ⊢
        generalize n + 3 = n5 at R5 hd5
        clear hL3 R3 ha kt5 k3
      all_goals
        walk_at "rd"
        refine rd_ixLi (v := .ref a) as.length hL5 (by simp) (by simp) ?_
        walk_at "rd"
        refine ⟨a, _, rfl, hA5.last, fun kd H6 hk6 s6 => ?_⟩
        have hL6 := s6 _ _ hL5
        walk_at "rd"
        refine rd_isF (decide_eq_false (by omega)) ?_
        walk_at "rd"
        refine rd_two (fun e => ?_) (fun e => ?_)
        · have hA6 := hA5.kt (KT.of s6)
          have ew : 0 < as.length := by
            have := of_decide_eq_true e
            simp at this
            omega
          obtain ⟨b, hb, hbi⟩ := hA6.2 (as.length - 1) _ (List.getElem?_eq_getElem (by rw [List.length_append, ← hA.1]; show as.length - 1 < as.length + 1; omega))
          walk_at "rd"
          refine rd_ixLi (v := .ref b) (as.length - 1) hL6 (by simp; omega) (by rw [List.getElem?_map, hb]; rfl) ?_
          walk_at "rd"
          refine ⟨b, _, rfl, hbi, fun kd2 H7 hk7 s7 => ?_⟩
          walk_at "rd"
          refine rd_isF (decide_eq_false (by omega)) ?_
          walk_at "rd"
          have s8 := s6.trans s7
          exact ⟨todo.length, Nat.lt_succ_self _, _, _, _, _, _, _, todo, rfl, hs5.trans s8, hL0, hLr, restOf_same s8 hl5, hlL, R5.same s8, s8 _ _ hL5, hA5.kt (KT.of s8), hdt2, hd5, rfl⟩
        · walk_at "rd"
          exact ⟨todo.length, Nat.lt_succ_self _, _, _, _, _, _, _, todo, rfl, hs5.trans s6, hL0, hLr, restOf_same s6 hl5, hlL, R5.same s6, s6 _ _ hL5, hA5.kt (KT.of s6), hdt2, hd5, rfl⟩
end
end K5
set_option maxHeartbeats 4000000

namespace K5
open PySem PySem.Spec PyProof.Rows L2
/-! own errors whose __init__ calls super().__init__ -/
/-- what is asked of the program itself -/
structure PF (P : Program) : Prop where
  file : ((P.main.file : Str) == ("/claim/cut.py" : Str)) = true
  sup : (P.main.scope.names.lookup ("super" : Str)).isSome = false
/-- a def that stands in the written part and closes over a cell of it -/
structure FnC (K : PySem.W.Frag) (f cc D : Addr) (F : NdefX.NF) : Prop where
  cl : F.cl = [(("__class__" : Str), cc)]
  lk : ∃ oc od doc pm an ct osl, K.lookup f = some ⟨oc, od, .func (PySem.W.fnX F.name F.qual F.params F.body F.scope F.cl .none .none doc pm an (.ref F.c) ct), osl⟩
  cd : PySem.W.codeIn K (.ref F.c) F.qual = true
  cell : ∃ cl cld csl, K.lookup cc = some ⟨cl, cld, .cell (some (.ref D)), csl⟩
  code : ∃ ccl cdd vs ccs tf, K.lookup F.c = some ⟨ccl, cdd, .fields vs, ccs⟩ ∧ vs[2]? = some (.str ("/claim/cut.py" : Str) tf)
/-- the facts of one such class -/
structure Exf (K : PySem.W.Frag) (C fI cc : Addr) (f : Str) : Prop where
  o : OexC K C
  xf : XfC K C
  hno : PySem.W.findIn K (.ref C) f = some none
  iC : PySem.W.findIn K (.ref C) "__init__" = some (some (.ref fI))
  tI : PySem.W.typeIn K (.ref fI) = some (.type "function")
  exm : PySem.W.exmOne K (.ref C) (.ref C) = some true
  sup : PySem.W.ks_superIn K C C "__init__" = some (some (.builtin "ValueError.__init__"))
  mro : PySem.W.mroIn K C (.ref C) = some true
  sub : PySem.W.subIn K (.ref C) (.type "ValueError") = some true
section
variable {K : PySem.W.Frag} {x f : Str}
theorem oex_of {C : Addr} (h1 : PySem.W.excInitIn K C He.veBase "ValueError.__new__" = true) (h2 : (PySem.W.clsIn K C).any (fun cd => PySem.HandSPX.refsVE cd.mro.tail && cd.hasDict) = true)
    (h3 : PySem.W.findIn K (.ref C) "__setattr__" = some (some (.builtin "object.__setattr__"))) (h4 : PySem.W.subIn K (.ref C) (.type "BaseException") = some true) (h5 : PySem.W.typeIn K (.ref C) = some (.type "type")) (h6 : PySem.W.keepIn K (.ref C) = true) : OexC K C := by
  refine ⟨?_, h3, h4, h5, h6⟩
  unfold PySem.W.excInitIn at h1
  split at h1
  · rename_i dd cd sl ho
    split at h1
    · rename_i C' bm k0 k1 k2 k3 n k5 hm hs
      simp only [Bool.and_eq_true, beq_iff_eq, Bool.not_eq_true'] at h1
      obtain ⟨⟨⟨rfl, rfl⟩, hdel⟩, ht⟩ := h1
      have hc : PySem.W.clsIn K C' = some cd := by
        unfold PySem.W.clsIn
        rw [ho]
      rw [hc] at h2
      obtain ⟨h7, h8⟩ := He.ba (show (PySem.HandSPX.refsVE cd.mro.tail && cd.hasDict) = true from h2)
      obtain ⟨nm, bs, mro, ns, qn, hd, sn, sub, ab, col, del⟩ := cd
      dsimp only at hm hdel h7 h8
      subst hm hdel h8
      have e : sl = #[k0, k1, k2, k3, some (.builtin "ValueError.__new__"), k5] := by rw [← Array.toList_inj, hs]
      rw [e] at ho
      exact ⟨nm, qn, ns, bs, bm, sn, sub, ab, col, dd, k0, k1, k2, k3, k5, ho, h7⟩
    · cases h1
  · cases h1
end
section
variable {prog : Program} {w : World} {M : Model} {A : Around} {E : Value → Shared → Prop}
open PySem.W PySem.Calls in
/-- the bound ValueError.__init__ called: the args are laid anew -/
theorem call_mw {h : Heap} {g : Array GenState} {d : Drawn} {t : Nat} {os : OsState} {nm q : Str} {C N : Addr} {bs bm : List Value} {hdct : Bool} {sn : List Str} {sub : List Value} {ab : Bool} {col : Option Bool} {dd : Option Addr} {k0 k1 k2 k3 k5 : Option Value}
    {u e t0 : Addr} {dv : Option Addr} {rest : List Value} {Q : Value → Shared → Prop}
    (hC : h.get? C = some (excClassObj nm q C N bs bm hdct sn sub ab col dd k0 k1 k2 k3 k5 "ValueError.__new__")) (he : h.get? e = some (excObj C t0 dv .none)) (hu : h.get? u = some (kxs_mw "ValueError.__init__" e)) (hz : rest.length ≤ sizeLine)
    (hq : ∀ h' t1, (∀ b o, b ≠ e → h.get? b = some o → h'.get? b = some o) → h'.get? e = some (excObj C t1 dv .none) → Q .none ⟨h', g, d, t, os⟩) : wpAny (model prog w) A (call (.ref u) rest) Q E ⟨h, g, d, t, os⟩ := by
  refine wpAny_call (codeAny_of_tree ?_)
  show wpAny _ A.in1 (callAny (.ref u) (Args.mk rest [])) _ _ _
  simp only [callAny]
  refine wpAny_bind (wpAny_load hu ?_)
  simp only [kxs_mw, (by decide : (Value.type "method-wrapper" == Value.type "method" || Value.type "method-wrapper" == Value.type "builtin_function_or_method" || Value.type "method-wrapper" == Value.type "method-wrapper") = true), if_true]
  refine KFB.if_so (by decide) ?_
  refine wpAny_bind (check_bound_init (PySem.F.excBase_ValueError).toExcCallFacts hC he rfl ?_)
  refine wpAny_bind (wpAny_pure (wpAny_pure ?_))
  refine ⟨plainId_quiet (PySem.F.excBase_ValueError).init.plain _, codeAny_builtin (PySem.F.excBase_ValueError).initEntry ?_⟩
  exact exc_init_tree (cls := .ref C) (t0 := t0) (dv := dv) (c2 := .none) (c3 := .none) (b4 := .bool false) he hz fun h' k e' t' => hq h' _ k e'
end
/-- the promise of such an __init__ -/
def spExc (C : Addr) (f : Str) : Sp := fun vs H Q _ => ∃ (a : Addr) (z : Str), vs = [.ref a, .str z] ∧ H a = some (exo a C none) ∧ ∀ dx, H dx = none → dx ≠ a → Q .non (upd (upd H dx (exd dx [(f, .str z)])) a (exo a C (some dx)))
section
variable {CX : CXT} {P : Program} {w : World} {K : PySem.W.Frag} {mg : Str → Option Value} {base : Heap} {N ps : List Str} {F : NdefX.NF} {f cc D : Addr} {k : Nat} {sp : Sp}
/-- THE RULE for such a def: the body at its own code -/
theorem fn_cl (FC : FnC K f cc D F) (S : NdefX.NScope N ps ["__class__"] F.scope) (len : ∀ vs H Q E, sp vs H Q E → vs.length = ps.length)
    (hbind : ∀ (doc pm : Value) (an : Option Addr) (ct : Value) (us : List Value), us.length = ps.length → bindArgs (PySem.W.fnX F.name F.qual F.params F.body F.scope F.cl .none .none doc pm an (.ref F.c) ct) ⟨us, []⟩ = pure (ps.zip us))
    (hbody : ∀ (A : Around) (outer : List Env) (s : Shared) (H : Hp) (vs : List V) (Q : VK) (E : XK) (s1 : Shared), Room k (A.deeper (NdefX.envF F f s.heap.objs.size)) → sp vs H Q E → Inv (NdefX.ncx CX P w K mg base N F f A outer s H E) [] (NdefX.startF N vs [some (.ref D)]) H s1 →
      PyProof.Rows.wpAt (model P w) (A.deeper (NdefX.envF F f s.heap.objs.size)) (.func F.body (NdefX.envF F f s.heap.objs.size)) (execs F.body (NdefX.envF F f s.heap.objs.size)) (SP (NdefX.ncx CX P w K mg base N F f A outer s H E) [] { nx := fun _ H' => Q .non H', rt := Q }) (NdefX.ncx CX P w K mg base N F f A outer s H E).xe s1) :
    ∃ fd, FnOk P w K mg base CX (k + 1) f fd ps sp ∧ Binds K fd ps [] := by
  obtain ⟨oc, od, doc, pm, an, ct, osl, lk⟩ := FC.lk
  refine ⟨_, ⟨len, fun A outer s H args us vs Q E hr e0 hb r hsp => ?_⟩, Binds.all (hbind doc pm an ct)⟩
  have st : ∀ b o, base.get? b = some o → s.heap.get? b = some o := fun b o z => (e0.bs b o z).1
  have KX : K.In s.heap := e0.mod.kin.keeps st
  have hl := len vs H Q E hsp
  have CA : NdefX.CellsAt F.cl ["__class__"] [some (.ref D)] s.heap H := by
    obtain ⟨c1, c2, c3, lc⟩ := FC.cell
    have hcc := e0.bs cc _ (e0.mod.kin _ _ lc)
    rw [FC.cl]
    refine ⟨rfl, fun y c e => ?_, fun x y c e1 e2 => ?_, fun i y e => ?_⟩
    · have e' : (match y == ("__class__" : Str) with | true => some cc | false => none) = some c := e
      split at e'
      · cases e'
        exact ⟨hcc.2, _, _, hcc.1, rfl⟩
      · cases e'
    · have e1' : (match x == ("__class__" : Str) with | true => some cc | false => none) = some c := e1
      have e2' : (match y == ("__class__" : Str) with | true => some cc | false => none) = some c := e2
      split at e1'
      · rename_i q1
        split at e2'
        · rename_i q2
          rw [beq_iff_eq.mp q1, beq_iff_eq.mp q2]
        · cases e2'
      · cases e1'
    · cases i with
      | zero =>
        cases e
        refine ⟨cc, rfl, fun v hv => ?_⟩
        cases hv
        exact ⟨.ref D, rfl, _, hcc.1, rfl⟩
      | succ i => cases e
  refine PySem.ks_codeAny_call_defAt hr.depth (KX _ _ lk) rfl (e0.mod.nolimit.keeps st) (PySem.W.codeRec_of KX FC.cd) rfl hb S.nocell (fun ⟨n, _⟩ hy => S.par n (List.of_mem_zip hy).1) (fun h₀ hns hk => ?_) S.co S.gen S.kind
  refine PySem.ks_wpAt_mono (hbody A outer s H vs Q E _ (hr.deeper _) hsp (NdefX.inv_startN S hr.hd e0 hl r CA hns hk)) (fun fl s' hs => ?_) fun e s' hs => hs
  match fl, hs with
  | .ret u, ⟨x, _, H1, J, rx, qx⟩ => exact ⟨x, H1, J.os, J.bare, J.base, J.hok, rx, qx⟩
  | .next, ⟨_, H1, J, qn⟩ => exact ⟨V.non, H1, J.os, J.bare, J.base, J.hok, rfl, qn⟩
  | .brk, ⟨_, _, _, no⟩ => exact no.elim
  | .cont, ⟨_, _, _, no⟩ => exact no.elim
/-- super().__init__(..) there -/
theorem sup_stmt {X : Cx} {pins : List (Addr × Obj)} {σ : L2.St} {H : Hp} {s : Shared} {body : List Stmt} {a C : Addr} {e : Expr} {ta : TA} {D' : Ends} {p0 p1 p2 p3 p4 : Pos} {L : Addr} {ar : Arg}
    (PP : PF X.prog) (I : Inv X pins σ H s) (FC : FnC X.K f cc C F) (hE : X.env = NdefX.envF F f L) (hs0 : σ[0]? = some (some (.ref a))) (hN : X.N[0]? = some ar.arg) (har : (F.params.posonlyargs ++ F.params.args).head? = some ar)
    (hl : F.scope.names.lookup ar.arg = some .local) (hks : F.scope.names.lookup ("super" : Str) = some .globalImplicit) (hkc : F.scope.names.lookup ("__class__" : Str) = some .free)
    (T : OexC X.K C) (hsup : PySem.W.ks_superIn X.K C C "__init__" = some (some (.builtin "ValueError.__init__"))) (hmro : PySem.W.mroIn X.K C (.ref C) = some true) (hsub : PySem.W.subIn X.K (.ref C) (.type "ValueError") = some true) (htp : PySem.W.nsIn X.K cStatics "thirdparty.any" = some none) (hm : X.mg "super" = none)
    (ea : H a = some (exo a C none)) (ha : PA X [e] ta) (hta : ta σ H fun vs H1 => vs.length ≤ 1000 ∧ H1 = H ∧ D'.nx σ H)
    (hi : interactive X.env = false) (hsw : swapsWith (.Call (.Attribute (.Call (.Name "super" p0) [] [] p1) "__init__" p2) [e] [] p3) none p4.line X.env = pure false) (hst : starEach [e] X.env = (false, eval e X.env) :: starEach [] X.env)
    {pl : Sem Bool} (hev : eval (.Call (.Attribute (.Call (.Name "super" p0) [] [] p1) "__init__" p2) [e] [] p3) X.env = (do
      let ov ← attributeBase (.Call (.Name "super" p0) [] [] p1) "__init__" X.env (eval (.Call (.Name "super" p0) [] [] p1) X.env)
      standAt p2.atName
      let (fv, first) ← holding [ov] (getMethod ov "__init__" pl)
      callWith p3 fv first (backTo p3 (starEach [e] X.env)) [])) :
    PyProof.Rows.wpAt (model X.prog X.w) X.A (.func body X.env) (exec (.Expr (.Call (.Attribute (.Call (.Name "super" p0) [] [] p1) "__init__" p2) [e] [] p3) p4) X.env) (SP X pins D') X.xe s := by
  obtain ⟨oc, od, doc, pm, an, ct, osl, lk⟩ := FC.lk
  obtain ⟨c1, c2, c3, lc⟩ := FC.cell
  obtain ⟨d1, d2, vs, d3, tf, ld, hv2⟩ := FC.code
  obtain ⟨nm, q, N', bs, bm, sn, sub, ab, col, dd, k0, k1, k2, k3, k5, hC, hbm⟩ := T.cls
  have hcl : PySem.W.clsIn X.K C = some { name := nm, bases := bs, mro := .ref C :: bm, ns := N', qualname := q, hasDict := true, slotNames := sn, subclasses := sub, abstract := ab, collection := col, hasDel := false } := by
    unfold PySem.W.clsIn
    rw [hC]
  have KX := I.kIn
  obtain ⟨t1, hoa⟩ := exo_at I.hok ea
  obtain ⟨mb, hb1, hb2⟩ := I.mod.blt
  obtain ⟨ml, hml, hloc⟩ := I.loc
  obtain ⟨us, rus, lus⟩ := hloc 0 ar.arg (.ref a) hN hs0 (by
    rw [hE]
    exact .inl hl)
  obtain rfl : us = Value.ref a := rus
  have hself : ml ar.arg = some (.ref a) := by
    rcases lus with ⟨_, h⟩ | ⟨h, _⟩
    · exact h
    · rw [hE] at h
      have h' : F.scope.names.lookup ar.arg = some .cell ∨ F.scope.names.lookup ar.arg = some .free := h
      rw [hl] at h'
      rcases h' with h' | h' <;> cases h'
  have kk : X.env.kindOf "super" = some .globalImplicit := by rw [hE]; exact hks
  have kc : X.env.kindOf "__class__" = some .free := by rw [hE]; exact hkc
  have kl : X.env.kindOf ar.arg = some .local := by rw [hE]; exact hl
  have ecell : X.env.cells.lookup ("__class__" : Str) = some cc := by
    rw [hE]
    show F.cl.lookup ("__class__" : Str) = some cc
    rw [FC.cl]
    rfl
  obtain ⟨hh, g, d, t, os⟩ := s
  refine ks_wpAt_Expr_any (ks_wpAt_MethodCall (pl := pl) (PySem.ks_wpAt_super_base (f := f) kk kc rfl (by rw [hE]) (KX _ _ lk) rfl har (by rw [hE]) (KX _ _ ld) rfl hv2 PP.file PP.sup ?_) hev) hi hsw
  refine PySem.W.ks_loadName_global I.ok.kind kk (PySem.Calls.loadGlobal_builtin (by rw [I.ok.glob]; exact I.mod.glob.keeps I.bk) hm (by rw [I.ok.blt]; exact hb1.keeps I.bk) ((hb2 "super" (by decide)).trans (by decide +kernel : bootBuiltins "super" = some (.type "super"))) ⟨rfl, ?_⟩)
  refine wpAny_loadName_free I.ok.kind kc ecell ⟨_, KX _ _ lc, rfl⟩ ?_
  refine wpAny_loadName_local I.ok.kind kl hml hself ?_
  refine ks_wpAny_isType_cls (KX _ _ hC) rfl ⟨rfl, ?_⟩
  refine ks_wpAny_call_super (KX _ _ hC) rfl hoa rfl (fun c z => by cases z) (PySem.W.looks_mroIn KX hmro) (fun h1 e1 k1 => ?_)
  have I1 : Inv X pins σ H ⟨h1, g, d, t, os⟩ := I.kept (t' := t) (h' := h1) fun b u z => k1 b u z
  have KX1 := I1.kIn
  have hoa1 := k1 _ _ hoa
  have II : PySem.W.InstAt h1 a ({ cls := .ref C, dict := none, data := .fields #[.ref t1, .none, .none, .none, .bool false, .none] } : Obj) C none := ⟨hoa1, rfl, rfl, trivial⟩
  have hn : a ≠ C := PySem.W.ks_ne KX1 II hcl
  refine PySem.W.kxs_getMethod PySem.W.kxs_ValueError e1 (PySem.W.looks_opaque KX1 htp) (l₀ := .ref C :: bm) ?_ rfl KX1 (by
    have z := hsup
    unfold PySem.W.ks_superIn at z
    rw [hcl] at z
    exact z) (II.type.andThen (PySem.W.looks_subIn KX1 hsub)) hn rfl ?_
  · exact fun A Q E s k q => wpAny_bind ((PySem.W.looks_clsIn KX1 hcl) A _ E s k (wpAny_pure q))
  have I2 : Inv X pins σ H ⟨h1.push (PySem.W.kxs_mw "ValueError.__init__" a), g, d, t + 1, os⟩ := I1.kept (t' := t + 1) (h' := h1.push (PySem.W.kxs_mw "ValueError.__init__" a)) fun b u z => Heap.get?_push_of_some _ z
  have hu0 : H h1.objs.size = none := I1.hok.fresh (Nat.le_refl _)
  have hpu : (h1.push (PySem.W.kxs_mw "ValueError.__init__" a)).get? h1.objs.size = some (PySem.W.kxs_mw "ValueError.__init__" a) := Heap.get?_push_at rfl rfl
  have huL : h1.objs.size ≠ X.env.locals := fun z => by
    have y := I1.lt
    rw [← z] at y
    exact Nat.lt_irrefl _ y
  have hub : X.base.get? h1.objs.size = none := Heap.get?_none_of_le (Nat.le_trans I1.ok.bsz I1.sz)
  have I3 : Inv X ((h1.objs.size, PySem.W.kxs_mw "ValueError.__init__" a) :: pins) σ H ⟨h1.push (PySem.W.kxs_mw "ValueError.__init__" a), g, d, t + 1, os⟩ := I2.pins_of fun p hp => by
    rcases List.mem_cons.mp hp with rfl | hp
    · exact ⟨hpu, hu0, huL, I1.nofs (Nat.le_refl _), fun v z => by cases z⟩
    · exact I2.pin p (List.mem_append_right _ hp)
  have NN : PyProof.Rows.News X.base X.env.locals (h1.push (PySem.W.kxs_mw "ValueError.__init__" a)) [(h1.objs.size, PySem.W.kxs_mw "ValueError.__init__" a)] := fun p hp => by
    rcases List.mem_cons.mp hp with rfl | hp
    · exact ⟨hpu, huL, hub⟩
    · cases hp
  refine PySem.W.kxs_callWith1 (i := "ValueError.__init__") (x := a) NN List.mem_cons_self (thn (ha.run p3 _ _ σ H _ I3 hta) fun us s1 ⟨vs1, H1, I4, r1, hz, eH, q1⟩ => ?_) hst rfl
  subst eH
  obtain ⟨hu4, _⟩ := I4.pin _ (List.mem_append_right _ List.mem_cons_self)
  refine ⟨hu4, ?_⟩
  obtain ⟨t2, hoa4⟩ := exo_at I4.hok ea
  obtain ⟨h4, g4, d4, t4, os4⟩ := s1
  refine call_mw (I4.kIn _ _ hC) (dv := none) hoa4 hu4 (by
    rw [← r1.length, sizeLine_eq]
    omega) (fun h' t3 k e' => ?_)
  have J := I4.write (t' := t4) (x := a) (e := a) (o := exo a C none) (by rw [ea]; exact True.intro) (.inl rfl) k ⟨_, e'⟩ (exo_ok e')
  have eu : upd H1 a (exo a C none) = H1 := by
    funext b
    by_cases hb : b = a
    · rw [hb, upd_same, ea]
    · rw [upd_ne hb]
  rw [eu] at J
  exact ⟨σ, H1, J.pins_of fun p hp => J.pin p (List.mem_append_right _ (List.mem_cons_of_mem _ hp)), q1⟩
end
section
variable {K : PySem.W.Frag} {mg : Str → Option Value}
theorem Tx.thirdparty (T : Tx K mg) : PySem.W.nsIn K cStatics "thirdparty.any" = some none := He.eqO_ok (He.ba (He.ba (He.ba T.s.m).2).2).2
theorem Tx.x_Oversized (T : Tx K mg) : excB K "Oversized" "limit" = true := (He.ba (He.ba T.s.m).2).1
theorem Tx.x_NoModule (T : Tx K mg) : excB K "NoModule" "name" = true := (He.ba (He.ba (He.ba T.s.m).2).2).1
theorem Tx.e_Oversized (T : Tx K mg) : fnE K (initAt K "Oversized") = valE "Oversized.__init__" s_Oversized_init := (List.cons.inj T.s.e).1
theorem Tx.e_NoModule (T : Tx K mg) : fnE K (initAt K "NoModule") = valE "NoModule.__init__" s_NoModule_init := (List.cons.inj (List.cons.inj T.s.e).2).1
/-- the facts of the class, its __init__'s place -/
theorem exf_of {x f : Str} (h : excB K x f = true) : Exf K (He.ga K x) (initAt K x) 0 f ∧ closB K x = true := by
  obtain ⟨a1, h⟩ := He.ba h
  obtain ⟨a2, h⟩ := He.ba h
  obtain ⟨a3, h⟩ := He.ba h
  obtain ⟨a4, h⟩ := He.ba h
  obtain ⟨a5, h⟩ := He.ba h
  obtain ⟨a6, h⟩ := He.ba h
  obtain ⟨a7, h⟩ := He.ba h
  obtain ⟨a8, h⟩ := He.ba h
  obtain ⟨a9, h⟩ := He.ba h
  obtain ⟨b1, h⟩ := He.ba h
  obtain ⟨b2, h⟩ := He.ba h
  obtain ⟨b3, h⟩ := He.ba h
  obtain ⟨b4, b5⟩ := He.ba h
  have o : OexC K (He.ga K x) := oex_of a1 a2 (He.eqO_ok a3) (of_decide_eq_true a4) (of_decide_eq_true a5) a6
  refine ⟨⟨o, xfB_ok a7, He.eqO_ok a8, He.eqO_ok a9, beq_iff_eq.mp b1, of_decide_eq_true b2, He.eqO_ok b3, of_decide_eq_true b5, ?_⟩, b4⟩
  obtain ⟨nm, q, N', bs, bm, sn, sub, ab, col, dd, k0, k1, k2, k3, k5, hC, hbm⟩ := o.cls
  show PySem.W.mroIn K (He.ga K x) (.type "ValueError") = some true
  unfold PySem.W.mroIn PySem.W.clsIn
  rw [hC]
  show (if (Value.ref (He.ga K x) :: bm).isEmpty = true then none else some ((Value.ref (He.ga K x) :: bm).contains (.type "ValueError"))) = some true
  rw [if_neg (show ¬ ((Value.ref (He.ga K x) :: bm).isEmpty = true) from Bool.false_ne_true), List.contains_cons, PySem.HandSPX.refsVE_contains "ValueError" bm hbm]
  have z : PySem.HandSPX.veTail.contains (.type "ValueError") = true := by decide +kernel
  rw [z, Bool.or_true]
/-- its __init__ stands there -/
theorem fnc_of {x q : Str} {st : Stmt} (h : closB K x = true) (e : fnE K (initAt K x) = valE q st) : ∃ (c cc : Addr), FnC K (initAt K x) cc (He.ga K x) ⟨"__init__", q, defArgs st, defBody st, defScope st, [(("__class__" : Str), cc)], c⟩ := by
  unfold closB at h
  unfold fnE at e
  split at h
  · rename_i oc od fd sl lk
    rw [lk] at e
    have e' := Option.some.inj (show some (fd.name, fd.qualname, fd.params, fd.body, fd.scope, fd.globals, fd.builtins) = some ((("__init__" : Str)), q, defArgs st, FuncBody.stmts (defBody st), defScope st, mainGlobals, builtinsNs) from e)
    split at h
    · rename_i n cc c hc1 hc2 hc3 hc4
      obtain ⟨h1, h⟩ := He.ba h
      obtain ⟨h2, h⟩ := He.ba h
      obtain ⟨h3, h4⟩ := He.ba h
      obtain rfl : n = "__class__" := of_decide_eq_true h1
      obtain ⟨nm, qn, pr, bd, sc, gl, cl, df, kd, doc, pm, an, cdv, ct, bn⟩ := fd
      dsimp only at hc1 hc2 hc3 hc4 e' h2
      injection e' with e1 e'
      injection e' with e2 e'
      injection e' with e3 e'
      injection e' with e4 e'
      injection e' with e5 e'
      injection e' with e6 e7
      subst hc1 hc2 hc3 hc4 e1 e2 e3 e4 e5 e6 e7
      refine ⟨c, cc, rfl, ⟨oc, od, doc, pm, an, ct, sl, lk⟩, h2, ?_, ?_⟩
      · split at h3
        · rename_i cl1 cl2 D cl3 lc
          obtain rfl : D = He.ga K x := of_decide_eq_true h3
          exact ⟨_, _, _, lc⟩
        · cases h3
      · split at h4
        · rename_i k1 k2 vs k3 lc
          split at h4
          · rename_i fz tf hv
            obtain rfl : fz = "/claim/cut.py" := of_decide_eq_true h4
            refine ⟨_, _, _, _, tf, lc, ?_⟩
            cases z : vs[2]? with
            | none =>
              rw [Array.getD_eq_getD_getElem?, z] at hv
              cases hv
            | some y =>
              rw [Array.getD_eq_getD_getElem?, z] at hv
              exact congrArg some hv
          · cases h4
        · cases h4
    · cases h
  · cases h
end
section
variable {P : Program} {w : World} {K : PySem.W.Frag} {mg : Str → Option Value} {base : Heap}
theorem ok_NoModule (T : Tx K mg) (PP : PF P) : ∃ fd, FnOk P w K mg base CX0 1 (initAt K "NoModule") fd ["self", "name"] (spExc (He.ga K "NoModule") "name") ∧ Binds K fd ["self", "name"] [] := by
  obtain ⟨XF, hc⟩ := exf_of T.x_NoModule
  obtain ⟨c, cc, FC⟩ := fnc_of hc T.e_NoModule
  refine fn_cl (N := ["self", "name", "__class__"]) FC (show NdefX.NScope ["self", "name", "__class__"] ["self", "name"] ["__class__"] (defScope s_NoModule_init) from NdefX.nscope_by (by decide +kernel)) (fun vs H Q E h => ?_) (fun doc pm an ct us hl => match us, hl with | [_, _], _ => rfl) (fun A outer s H vs Q E s1 hr h I => ?_)
  · obtain ⟨a, z, rfl, _⟩ := h
    rfl
  obtain ⟨a, z, rfl, ea, q⟩ := h
  refine ks_wpAt_execs_cons (PySem.ks_wpAt_mono (sup_stmt PP I FC rfl rfl rfl rfl rfl rfl rfl XF.o XF.sup XF.mro XF.sub T.thirdparty T.n_super ea (pa_cons (pe_callTy SkE.call_str_str (by rfl) T.n_str (by decide +kernel) (pa_cons (pv 1) pa_nil)) pa_nil) (D' := { nx := fun σ H' => σ = NdefX.startF ["self", "name", "__class__"] [.ref a, .str z] [some (.ref (He.ga K "NoModule"))] ∧ H' = H, rt := fun _ _ => False, bk := fun _ _ => False, ct := fun _ _ => False }) ?_ rfl rfl rfl rfl) (fun fl s2 hs => ?_) fun e s2 hs => hs)
  · refine rd_cons ?_
    refine rd_cb ?_
    refine rd_cons ?_
    refine ⟨_, rfl, ?_⟩
    refine rd_nil ?_
    refine ⟨z, rfl, ?_⟩
    refine rd_nil ?_
    exact ⟨Nat.le_of_ble_eq_true rfl, rfl, rfl, rfl⟩
  · cases fl with
    | next =>
      obtain ⟨σ', H', J, e1, e2⟩ := hs
      subst e1 e2
      refine PyProof.Rows.wpAt_of_any ((pss_one (ps_ost (pv 0) (pv 1) rfl)).run [] s2 _ H' _ J ?_)
      refine ⟨_, rfl, _, rfl, a, He.ga K "NoModule", rfl, XF.o, XF.hno, .inl ⟨ea, fun dx n1 n2 => q dx n1 n2⟩⟩
    | ret u =>
      obtain ⟨_, _, _, _, _, z⟩ := hs
      exact z.elim
    | brk =>
      obtain ⟨_, _, _, z⟩ := hs
      exact z.elim
    | cont =>
      obtain ⟨_, _, _, z⟩ := hs
      exact z.elim
theorem ok_Oversized (T : Tx K mg) (PP : PF P) : ∃ fd, FnOk P w K mg base CX0 1 (initAt K "Oversized") fd ["self", "limit"] (spExc (He.ga K "Oversized") "limit") ∧ Binds K fd ["self", "limit"] [] := by
  obtain ⟨XF, hc⟩ := exf_of T.x_Oversized
  obtain ⟨c, cc, FC⟩ := fnc_of hc T.e_Oversized
  refine fn_cl (N := ["self", "limit", "__class__"]) FC (show NdefX.NScope ["self", "limit", "__class__"] ["self", "limit"] ["__class__"] (defScope s_Oversized_init) from NdefX.nscope_by (by decide +kernel)) (fun vs H Q E h => ?_) (fun doc pm an ct us hl => match us, hl with | [_, _], _ => rfl) (fun A outer s H vs Q E s1 hr h I => ?_)
  · obtain ⟨a, z, rfl, _⟩ := h
    rfl
  obtain ⟨a, z, rfl, ea, q⟩ := h
  refine ks_wpAt_execs_cons (PySem.ks_wpAt_mono (sup_stmt PP I FC rfl rfl rfl rfl rfl rfl rfl XF.o XF.sup XF.mro XF.sub T.thirdparty T.n_super ea (pa_cons (pe_callTy SkE.call_str_str (by rfl) T.n_str (by decide +kernel) (pa_cons (pv 1) pa_nil)) pa_nil) (D' := { nx := fun σ H' => σ = NdefX.startF ["self", "limit", "__class__"] [.ref a, .str z] [some (.ref (He.ga K "Oversized"))] ∧ H' = H, rt := fun _ _ => False, bk := fun _ _ => False, ct := fun _ _ => False }) ?_ rfl rfl rfl rfl) (fun fl s2 hs => ?_) fun e s2 hs => hs)
  · refine rd_cons ?_
    refine rd_cb ?_
    refine rd_cons ?_
    refine ⟨_, rfl, ?_⟩
    refine rd_nil ?_
    refine ⟨z, rfl, ?_⟩
    refine rd_nil ?_
    exact ⟨Nat.le_of_ble_eq_true rfl, rfl, rfl, rfl⟩
  · cases fl with
    | next =>
      obtain ⟨σ', H', J, e1, e2⟩ := hs
      subst e1 e2
      refine PyProof.Rows.wpAt_of_any ((pss_one (ps_ost (pv 0) (pv 1) rfl)).run [] s2 _ H' _ J ?_)
      refine ⟨_, rfl, _, rfl, a, He.ga K "Oversized", rfl, XF.o, XF.hno, .inl ⟨ea, fun dx n1 n2 => q dx n1 n2⟩⟩
    | ret u =>
      obtain ⟨_, _, _, _, _, z⟩ := hs
      exact z.elim
    | brk =>
      obtain ⟨_, _, _, z⟩ := hs
      exact z.elim
    | cont =>
      obtain ⟨_, _, _, z⟩ := hs
      exact z.elim
end
end K5
set_option maxHeartbeats 4000000
namespace K5
open PySem PySem.Spec PyProof.Rows L2
/-! names of the modules -/
/-- str of a number -/
def ns (k : Nat) : Str := Str.ofString (toString (k : Int))
def nm (k : Nat) : Str := ("n" : Str) ++ ns k
/-- its signs -/
def nmL (k : Nat) : List Nat := (nm k).cps.toList
theorem S_nmL (k : Nat) : S (nmL k) = nm k := SX.S_tl _
def dec (l : List Nat) : Nat := (l.drop 1).foldl (fun a c => a * 10 + (c - 48)) 0
theorem nm_all : ∀ k : Fin 64, dec (nmL k) = k ∧ (nmL k).length ≤ 3 := by decide +kernel
theorem dec_nm {k : Nat} (h : k < 64) : dec (nmL k) = k := (nm_all ⟨k, h⟩).1
theorem nm_inj {j k : Nat} (hj : j < 64) (hk : k < 64) (h : nm j = nm k) : j = k := by
  rw [← dec_nm hj, ← dec_nm hk]
  unfold nmL
  rw [h]
end K5
set_option maxHeartbeats 4000000
namespace K5
open PySem PySem.Spec PyProof.Rows L2
/-! calls of defs that may raise -/
section
variable {X : Cx} {CX : CXT} {j k : Nat} {f C : Addr} {ps : List Str} {sp : Sp} {x m : Str} {p pos apos : Pos} {e o : Expr} {es : List Expr} {ta : TE} {t : TA} {E : XK}
theorem pcX (hx : Passes CX X E) (c : Dok X.prog X.w X.K X.mg X.base CX k f ps sp) (hm : X.mg x = some (.ref f)) (hr : Room j X.A) (ha : PA X (e :: es) t) (hk : k ≤ j := by decide) (hg : Gl X x := by rfl)
    (hdb : (x == ("__debug__" : Str)) = false := by decide) (he : starEach (e :: es) X.env = (false, eval e X.env) :: starEach es X.env := by rfl) (hpl : (backTo pos (starEach es X.env)).any (·.1) = false := by rfl) :
    PE X (.Call (.Name x p) (e :: es) [] pos) (tCall sp [] E t) := by
  obtain ⟨fd, F, b⟩ := c.ex
  exact pe_call F (hr.mono hk) hg hm c.kp b .nil hx ha hdb he hpl
theorem pmX {pl : Sem Bool} (hx : Passes CX X E) (c : Dok X.prog X.w X.K X.mg X.base CX k f ps sp) (hC : Cls X.K C) (hm : Meth X.K C m f) (hr : Room j X.A) (ho : PE X o ta) (ha : PA X (e :: es) t) (hk : k ≤ j := by decide)
    (hst : starEach (e :: es) X.env = (false, eval e X.env) :: starEach es X.env := by rfl) (hpl : (backTo pos (starEach es X.env)).any (·.1) = false := by rfl)
    (ht : eval (.Call (.Attribute o m apos) (e :: es) [] pos) X.env = (do
      let ov ← eval o X.env
      standAt apos.atName
      let (f, first) ← holding [ov] (getMethod ov m pl)
      callWith pos f first (backTo pos (starEach (e :: es) X.env)) (backToKw pos (keywordEach [] X.env))) := by rfl) :
    PE X (.Call (.Attribute o m apos) (e :: es) [] pos) (tMeth C m sp [] E ta t) := by
  obtain ⟨fd, F, b⟩ := c.ex
  exact pe_meth (pl := pl) ho hC hm F (hr.mono hk) b .nil hx ha hst hpl ht
/-- C(e, ..), what is raised wished for at the caller's slots -/
def tMakeS (C : Addr) (sp : Sp) (E : L2.St → XK) (t : TA) : TE := fun σ H Q => t σ H fun vs H1 => ∀ x dx, H1 x = none → H1 dx = none → dx ≠ x → sp (.ref x :: vs) (upd (upd H1 dx (.own x)) x (.ins C dx [])) (fun v H2 => v = .non ∧ Q (.ref x) H2) (E σ)
theorem pkS {E : L2.St → XK} (hx : ∀ σ, PassesAt CX X σ (E σ)) (M : Mk X.K C f) (c : Dok X.prog X.w X.K X.mg X.base CX k f ps sp) (hm : X.mg x = some (.ref C)) (hr : Room j X.A) (ha : PA X (e :: es) t) (hk : k + 1 ≤ j := by decide) (hg : Gl X x := by rfl)
    (hdb : (x == ("__debug__" : Str)) = false := by decide) (he : starEach (e :: es) X.env = (false, eval e X.env) :: starEach es X.env := by rfl) (hpl : (backTo pos (starEach es X.env)).any (·.1) = false := by rfl) :
    PE X (.Call (.Name x p) (e :: es) [] pos) (tMakeS C sp E t) := by
  obtain ⟨fd, F, b⟩ := c.ex
  have hr := hr.mono hk
  refine ⟨fun pins s σ H Q I h => ?_⟩
  refine wpAny_Call_Name_kw (ld_glob I hg hm ?_ hdb)
  refine PySem.W.callWith_K (h₀ := X.base) I.ok.mod.kin M.kp (thn (ha.run pos pins s σ H _ I h) fun us s1 ⟨vs, H1, I1, r, q⟩ => ⟨I1.kIn, ?_⟩) he hpl
  show wpAny _ _ (call (.ref C) us) _ _ _
  have hq := q (s1.heap.objs.size + 1) s1.heap.objs.size (I1.hok.fresh (Nat.le_succ _)) (I1.hok.fresh (Nat.le_refl _)) (Nat.ne_of_lt (Nat.lt_succ_self _))
  have I2 := Inv.made (C := C) I1
  have r2 : Vals (V.ref (s1.heap.objs.size + 1) :: vs) (Value.ref (s1.heap.objs.size + 1) :: us) := .cons rfl r
  have hl : (Value.ref (s1.heap.objs.size + 1) :: us ++ []).length = ps.length := by
    have z := r2.length
    rw [F.len _ _ _ _ hq] at z
    rw [List.append_nil]
    exact z.symm
  have hb2 := b _ (Value.ref (s1.heap.objs.size + 1) :: us) I2.kIn hl
  rw [List.append_nil] at hb2
  refine wpAny_call (make_map (f := f) I1.kIn M.makes M.init (beq_iff_eq.mp M.fn) (codeAny_mono (F.run _ X.stack _ _ (Args.mk (Value.ref (s1.heap.objs.size + 1) :: us) []) (Value.ref (s1.heap.objs.size + 1) :: us) _ _ (E σ) (hr.make C us []) (I2.env0.make C us []) hb2 r2 hq) fun rr s' hq' => ?_))
  cases rr with
  | error er => exact hx σ pins _ _ er s' I2 hq'
  | ok fl =>
    cases fl with
    | ret u =>
      obtain ⟨v, H', I3, rv, ev, q3⟩ := I2.after hq'
      subst ev
      exact ⟨rv, ⟨V.ref (s1.heap.objs.size + 1), H', I3, rfl, q3⟩⟩
    | next => exact False.elim hq'
    | brk => exact False.elim hq'
    | cont => exact False.elim hq'
/-- an own error is made -/
theorem pmk {K' : PySem.W.Frag} {C fI cc : Addr} {f : Str} (hK : X.K = K') (XF : Exf K' C fI cc f) (F : ∃ fd, FnOk X.prog X.w X.K X.mg X.base CX0 1 fI fd ["self", f] (spExc C f) ∧ Binds X.K fd ["self", f] []) (hm : X.mg x = some (.ref C)) (hr : Room j X.A) (ha : PA X [e] t) (hk : 2 ≤ j := by decide) (hg : Gl X x := by rfl)
    (hdb : (x == ("__debug__" : Str)) = false := by decide) (he : starEach [e] X.env = (false, eval e X.env) :: starEach [] X.env := by rfl) (hpl : (backTo pos (starEach [] X.env)).any (·.1) = false := by rfl) :
    PMk X (.Call (.Name x p) [e] [] pos) (tMkO C (spExc C f) [] t) := by
  subst hK
  obtain ⟨fd, F, b⟩ := F
  exact pmk_oex XF.o XF.iC XF.tI F (hr.mono hk) b .nil pass0 hg hm ha hdb he hpl
end
theorem ixK {X : Cx} {K' : PySem.W.Frag} (h : X.K = K') : IxR X (rIxT K') := h ▸ ix_tup
theorem ixLK {X : Cx} {K' : PySem.W.Frag} (h : X.K = K') : IxR X (rIxL K') := h ▸ ix_list
theorem opInK {X : Cx} {K' : PySem.W.Frag} (h : X.K = K') : OpR X (compareOp .In) (rIn K' false) := h ▸ op_in_seq
theorem opNotInK {X : Cx} {K' : PySem.W.Frag} (h : X.K = K') : OpR X (compareOp .NotIn) (rIn K' true) := h ▸ op_notIn_seq
theorem passX {X : Cx} {E : XK} {E₁ : Value → Shared → Prop} (hs : X.stack = X.env :: X.outer) (hf : X.env.frame = some X.env.locals) (hex : X.ex = []) (hx : X.xe = fun e s' => wpAny (model X.prog X.w) X.A (leaving X.env e) (fun _ s'' => L2.CX X.prog X.w X.outer X.H_0 X.s_0 E e s'') E₁ s') : Passes (L2.CX X.prog X.w) X E :=
  passes_call (takes_of hs hf hex hx) fun _ _ _ _ h => h
section
variable {D : Ends} {σ : L2.St} {H : Hp} {Q : VK} {t u : TS} {ta tb te td ty tv : TE} {tt : TT} {tr : TA} {g : TG} {i j : Nat} {v x y : V} {K : PySem.W.Frag} {C : Addr} {f z : Str} {E : XK} {p a l : Addr} {kvs : List (Key × V)} {xs ys : List V} {R : It → Hp → Prop} {wi : TI} {vs : List Nat} {sp : Sp}
theorem rd_mk {QX : XK} (h : tr σ H fun vs H1 => vs.length ≤ 1000 ∧ ∀ a, H1 a = none → sp (.ref a :: (vs ++ [])) (upd H1 a (exo a C none))
  (fun v H2 => v = .non ∧ ∃ (d : Addr) (fs : List (Str × V)), H2 a = some (exo a C (some d)) ∧ H2 d = some (exd d fs) ∧ H1 d = none ∧ QX (.ref C) (some d) (upd (del H2 a) d (.xd fs))) (fun _ _ _ => False)) : tMkO C sp [] tr σ H QX := h
/-- the error that is raised: its own dict is new -/
theorem rd_exc {QX : XK} (h : ∀ dx, H dx = none → QX (.ref C) (some dx) (upd H dx (.xd [(f, .str z)]))) : [V.str z].length ≤ 1000 ∧ ∀ a, H a = none → spExc C f (.ref a :: ([V.str z] ++ [])) (upd H a (exo a C none))
    (fun v H2 => v = .non ∧ ∃ (d : Addr) (fs : List (Str × V)), H2 a = some (exo a C (some d)) ∧ H2 d = some (exd d fs) ∧ H d = none ∧ QX (.ref C) (some d) (upd (del H2 a) d (.xd fs))) (fun _ _ _ => False) := by
  refine ⟨Nat.le_of_ble_eq_true rfl, fun a ha => ⟨a, z, rfl, upd_same, fun dx hd hne => ?_⟩⟩
  rw [upd_ne hne] at hd
  refine ⟨rfl, dx, [(f, .str z)], upd_same, by rw [upd_ne hne, upd_same], hd, ?_⟩
  have e : upd (del (upd (upd (upd H a (exo a C none)) dx (exd dx [(f, .str z)])) a (exo a C (some dx))) a) dx (.xd [(f, .str z)]) = upd H dx (.xd [(f, .str z)]) := by
    funext b
    by_cases h1 : b = dx
    · rw [h1, upd_same, upd_same]
    · rw [upd_ne h1, upd_ne h1]
      by_cases h2 : b = a
      · rw [h2, del_same, ha]
      · rw [del_ne h2, upd_ne h2, upd_ne h1, upd_ne h2]
  rw [e]
  exact h dx hd
/-! dicts -/
theorem rd_dgetU (h : td σ H fun x H1 => ty σ H1 fun y H2 => ∃ a v, x = .ref a ∧ DGet H2 a y (some v) ∧ Q v H2) : tDGet td ty σ H Q := h
theorem rd_dinU (h : ty σ H fun y H1 => td σ H1 fun x H2 => ∃ a o, x = .ref a ∧ DGet H2 a y o ∧ Q (.bl o.isSome) H2) : tDIn ty td σ H Q := h
theorem rd_dninU (h : ty σ H fun y H1 => td σ H1 fun x H2 => ∃ a o, x = .ref a ∧ DGet H2 a y o ∧ Q (.bl (!o.isSome)) H2) : tDNotIn ty td σ H Q := h
theorem rd_dputU (h : tv σ H fun v H1 => td σ H1 fun x H2 => ty σ H2 fun y H3 => ∃ a H4, x = .ref a ∧ DPut H3 a y v H4 ∧ D.nx σ H4) : sDPut td ty tv D σ H := h
theorem rd_dnew (h : ∀ p, H p = none → Q (.ref p) (upd H p (.dK []))) : tDNewK σ H Q := h
theorem rd_dget {PV : V → Prop} (e : H a = some (.dK kvs)) (hv : valV kvs (.inr z) = some v) (q : PV v) : ∃ b w, V.ref a = .ref b ∧ DGet H b (.str z) (some w) ∧ PV w := ⟨a, v, rfl, .inl ⟨kvs, .inr z, .inl e, rfl, hv.symm⟩, q⟩
theorem rd_din {PV : Option V → Prop} {o : Option V} (e : H a = some (.dK kvs)) (hv : valV kvs (.inr z) = o) (q : PV o) : ∃ b w, V.ref a = .ref b ∧ DGet H b (.str z) w ∧ PV w := ⟨a, o, rfl, .inl ⟨kvs, .inr z, .inl e, rfl, hv.symm⟩, q⟩
theorem rd_dput {PH : Hp → Prop} (e : H a = some (.dK kvs)) (hl : kvs.length ≤ 90000) (q : PH (upd H a (.dK (putK kvs (.inr z) v)))) : ∃ b H4, V.ref a = .ref b ∧ DPut H b (.str z) v H4 ∧ PH H4 :=
  ⟨a, _, rfl, .inl ⟨kvs, .inr z, e, rfl, small' (Nat.lt_of_le_of_lt hl (by decide)), rfl⟩, q⟩
theorem rd_lenD (e : H a = some (.dK kvs)) (q : Q (.int (kvs.length : Int)) H) : rLenDct [.ref a] H Q := ⟨a, kvs, rfl, e, q⟩
theorem rd_listL (e : H p = some (.lst xs)) (q : ∀ l, H l = none → Q (.ref l) (upd H l (.lst xs))) : rListOf K [.ref p] H Q := ⟨p, xs, rfl, .inl (SqL.of e), q⟩
theorem rd_dictD (e : H a = some (.dK kvs)) (q : ∀ p, H p = none → Q (.ref p) (upd H p (.dK kvs))) : rDictOf [.ref a] H Q := ⟨a, kvs, rfl, .inl e, q⟩
/-! walks -/
theorem rd_forU (h : wi σ H fun J H1 => ∃ W : Nat → Nat → L2.St → Hp → Prop, (∃ m, W 0 m σ H1) ∧ ∀ i m σ H, W i m σ H →
  (J.stop i H ∧ D.nx σ H) ∨ (J.go i H ∧ ∃ N : L2.St → Hp → Prop, (∀ σ' H', N σ' H' → ∃ m', m' < m ∧ W (i + 1) m' σ' H') ∧ ∀ x H', J.yld i H x H' → g x σ H' fun σ2 H2 => t { D with nx := N, ct := N, bk := D.nx } σ2 H2)) : tFor wi g t D σ H := h
theorem rd_iList (h : te σ H fun x H1 => ∃ a, x = .ref a ∧ (∃ xs, SqL K H1 a xs) ∧ R (Itl K a) H1) : iList K te σ H R := h
theorem rd_iTup (h : te σ H fun x H1 => ∃ a, x = .ref a ∧ (∃ xs, SqT K H1 a xs) ∧ R (Itt K a) H1) : iTup K te σ H R := h
theorem rd_itL {B : Addr → Prop} (e : H a = some (.lst xs)) (h : B a) : ∃ b, V.ref a = .ref b ∧ (∃ xs, SqL K H b xs) ∧ B b := ⟨a, rfl, ⟨xs, SqL.of e⟩, h⟩
theorem rd_lcU (h : wi σ H fun J H1 => ∀ D, H1 D = none → ∃ W : Nat → Nat → Hp → Prop, (∃ m, W 0 m (upd H1 D (.lst []))) ∧ ∀ i m H, W i m H →
  (J.stop i H ∧ Q (.ref D) H) ∨ (J.go i H ∧ ∃ Nx : Hp → Prop, (∀ H', Nx H' → ∃ m', m' < m ∧ W (i + 1) m' H') ∧ ∀ x H', J.yld i H x H' → g x (wipe σ vs) H' fun σ2 H2 => wipe σ2 vs = wipe σ vs ∧ tt σ2 H2 fun b H3 =>
    if b = true then te σ2 H3 fun y H4 => ∃ acc, H4 D = some (.lst acc) ∧ acc.length < sizeLine ∧ Nx (upd H4 D (.lst (acc ++ [y]))) else Nx H3)) : tLc wi g tt te vs σ H Q := h
/-- a comprehension over a list that stands still; its turns leave what stands -/
theorem rd_lcL {Qa : Addr → Hp → Prop} {H0 : Hp} (hx : H0 a = some (.lst xs)) (F : Nat → List V) (hF : F 0 = []) (hn : ∀ i, (F i).length ≤ 90000)
    (hs : ∀ (i : Nat) (x : V) (H : Hp) (Pn : V → Hp → Prop) (P0 : Hp → Prop), xs[i]? = some x → Same H0 H → (∀ y H4, Same H H4 → F (i + 1) = F i ++ [y] → Pn y H4) → (∀ H3, Same H H3 → F (i + 1) = F i → P0 H3) →
      g x (wipe σ vs) H fun σ2 H2 => wipe σ2 vs = wipe σ vs ∧ tt σ2 H2 fun b H3 => if b = true then te σ2 H3 Pn else P0 H3)
    (hd : ∀ D H', H0 D = none → Same H0 H' → H' D = some (.lst (F xs.length)) → Qa D H') :
    ∀ D, H0 D = none → ∃ W : Nat → Nat → Hp → Prop, (∃ m, W 0 m (upd H0 D (.lst []))) ∧ ∀ i m H, W i m H →
      ((Itl K a).stop i H ∧ Qa D H) ∨ ((Itl K a).go i H ∧ ∃ Nx : Hp → Prop, (∀ H', Nx H' → ∃ m', m' < m ∧ W (i + 1) m' H') ∧ ∀ x H', (Itl K a).yld i H x H' → g x (wipe σ vs) H' fun σ2 H2 => wipe σ2 vs = wipe σ vs ∧ tt σ2 H2 fun b H3 =>
        if b = true then te σ2 H3 fun y H4 => ∃ acc, H4 D = some (.lst acc) ∧ acc.length < sizeLine ∧ Nx (upd H4 D (.lst (acc ++ [y]))) else Nx H3) := by
  intro D hD
  refine lc_list (K := K) (a := a) (xs := xs) (fun i H => Same H0 H ∧ H D = some (.lst (F i))) ⟨Same.upd hD, by rw [hF]; exact upd_same⟩ (fun i H _ h => SqL.of (h.1 _ _ hx)) (fun i x H hi h => ?_) (fun H h => hd D H hD h.1 h.2)
  refine hs i x H _ _ hi h.1 (fun y H4 s e => ⟨F i, s _ _ h.2, small' (Nat.lt_of_le_of_lt (hn i) (by decide)), same_new (h.1.trans s) hD, ?_⟩) (fun H3 s e => ⟨h.1.trans s, by rw [e]; exact s _ _ h.2⟩)
  rw [e]
  exact upd_same
/-- .. over a range -/
theorem rd_lcR {Qa : Addr → Hp → Prop} {H0 : Hp} {lo : Int} {n : Nat} (F : Nat → List V) (hF : F 0 = []) (hn : ∀ i, (F i).length ≤ 90000)
    (hs : ∀ (i : Nat) (H : Hp) (Pn : V → Hp → Prop) (P0 : Hp → Prop), i < n → Same H0 H → (∀ y H4, Same H H4 → F (i + 1) = F i ++ [y] → Pn y H4) → (∀ H3, Same H H3 → F (i + 1) = F i → P0 H3) →
      g (.int (lo + i)) (wipe σ vs) H fun σ2 H2 => wipe σ2 vs = wipe σ vs ∧ tt σ2 H2 fun b H3 => if b = true then te σ2 H3 Pn else P0 H3)
    (hd : ∀ D H', H0 D = none → Same H0 H' → H' D = some (.lst (F n)) → Qa D H') :
    ∀ D, H0 D = none → ∃ W : Nat → Nat → Hp → Prop, (∃ m, W 0 m (upd H0 D (.lst []))) ∧ ∀ i m H, W i m H →
      ((Itr lo n).stop i H ∧ Qa D H) ∨ ((Itr lo n).go i H ∧ ∃ Nx : Hp → Prop, (∀ H', Nx H' → ∃ m', m' < m ∧ W (i + 1) m' H') ∧ ∀ x H', (Itr lo n).yld i H x H' → g x (wipe σ vs) H' fun σ2 H2 => wipe σ2 vs = wipe σ vs ∧ tt σ2 H2 fun b H3 =>
        if b = true then te σ2 H3 fun y H4 => ∃ acc, H4 D = some (.lst acc) ∧ acc.length < sizeLine ∧ Nx (upd H4 D (.lst (acc ++ [y]))) else Nx H3) := by
  intro D hD
  refine lc_range (lo := lo) (n := n) (fun i H => Same H0 H ∧ H D = some (.lst (F i))) ⟨Same.upd hD, by rw [hF]; exact upd_same⟩ (fun i H hi h => ?_) (fun H h => hd D H hD h.1 h.2)
  refine hs i H _ _ hi h.1 (fun y H4 s e => ⟨F i, s _ _ h.2, small' (Nat.lt_of_le_of_lt (hn i) (by decide)), same_new (h.1.trans s) hD, ?_⟩) (fun H3 s e => ⟨h.1.trans s, by rw [e]; exact s _ _ h.2⟩)
  rw [e]
  exact upd_same
end
end K5
set_option maxHeartbeats 4000000



local macro_rules | `(tactic| walk_at "rg1") => `(tactic| first
  | walk_at "ri1"
  | (with_reducible refine K5.rd_dgetU ?_)
  | (with_reducible refine K5.rd_dinU ?_)
  | (with_reducible refine K5.rd_dninU ?_)
  | (with_reducible refine K5.rd_dputU ?_)
  | (with_reducible refine K5.rd_dnew ?_)
  | (with_reducible refine K5.rd_forU ?_)
  | (with_reducible refine K5.rd_iList ?_)
  | (with_reducible refine K5.rd_iTup ?_)
  | (with_reducible refine K5.rd_lcU ?_)
  | (with_reducible refine K5.rd_mk ?_)
  | ((with_reducible refine' K5.rd_dget ?ho ?hv ?_); (case ho => first | assumption | exact L2.upd_same); (case hv => assumption))
  | ((with_reducible refine' K5.rd_din ?ho ?hv ?_); (case ho => first | assumption | exact L2.upd_same); (case hv => assumption))
  | ((with_reducible refine' K5.rd_lenD ?ho ?_); (case ho => first | assumption | exact L2.upd_same))
  | ((with_reducible refine' K5.rd_listL ?ho ?_); (case ho => first | assumption | exact L2.upd_same))
  | ((with_reducible refine' K5.rd_dictD ?ho ?_); (case ho => first | assumption | exact L2.upd_same))
  | ((with_reducible refine' K5.rd_itL ?ho ?_); (case ho => first | assumption | exact L2.upd_same)))
local macro_rules | `(tactic| walk_at "rg") => `(tactic| repeat walk_at "rg1")
local macro_rules | `(tactic| walk_at "sg") => `(tactic| (simp only [K5.start_c, K5.start_o, K5.start_n]; walk_at "rg"))

namespace K5
open PySem PySem.Spec PyProof.Rows L2
/-! what the items need -/
def needOf : Itm → List (List Nat)
  | .need m => [m]
  | .space m _ => [m]
  | .star m => [m]
  | .imp m => [m]
  | .frm m => [m]
  | .tell _ => []
def needsOf (its : List Itm) : List (List Nat) := its.flatMap needOf
theorem take_succ {α : Type} {l : List α} {i : Nat} {x : α} (h : l[i]? = some x) : l.take (i + 1) = l.take i ++ [x] := by
  rw [List.take_succ, h]
  rfl
def spNeeds : Sp := fun vs H Q _ => ∃ (l : Addr) (as : List Addr) (its : List Itm), vs = [.ref l] ∧ H l = some (.lst (as.map V.ref)) ∧ ItemsAs H as its ∧ its.length ≤ 100 ∧
  ∀ H' p, Same H H' → H p = none → H' p = some (.lst ((needsOf its).map fun m => .str (S m))) → Q (.ref p) H'
theorem need_le : ∀ its : List Itm, (needsOf its).length ≤ its.length
  | [] => Nat.le_refl _
  | it :: r => by
    have h1 : (needOf it).length ≤ 1 := by cases it <;> exact Nat.le_of_ble_eq_true rfl
    have h2 := need_le r
    show (needOf it ++ needsOf r).length ≤ r.length + 1
    rw [List.length_append]
    omega
section
variable {P : Program} {w : World} {K : PySem.W.Frag} {mg : Str → Option Value} {base : Heap}
theorem sc_needs : FnScope ["items", "item"] ["items"] (defScope s_needs) := ⟨rfl, rfl, rfl, by decide +kernel, rfl, by decide +kernel, by decide +kernel⟩
theorem ok_needs (T : Tx K mg) : Dok P w K mg base CX0 1 (He.ga K "needs") ["items"] (spNeeds) := by
  refine Dok.mk0 (T.F_needs) sc_needs rfl (fun _ _ _ _ _ _ us hl => match us, hl with | [_], _ => rfl) (fun vs H Q E h => ?_) (fun cdv A outer s H vs Q E hr h => ?_)
  · obtain ⟨l, as, its, rfl, _⟩ := h; rfl
  · obtain ⟨l, as, its, rfl, hl, hA, hn, k⟩ := h
    refine ⟨_, (pss_one (ps_ret (pe_lc (own := [("item", 1)]) (g := gName 1) rfl sc_needs.nd (pi_list (pv 0)) (blkOk_by (own := [("item", 1)]) (N := ["items", "item"]) (sc := defScope s_needs) (by decide +kernel)) (fun _ _ _ _ _ => (pg_name (i := 1) sc_needs.nd rfl (Or.inl rfl))) (fun _ _ _ _ _ => (pts_one (pt_cmpR (opInK (K' := K) rfl) (pe_ix (ixK (K' := K) rfl) (pv 1) pe_int (fun _ _ => rfl)) (C8.pe_gc rfl T.r_NEEDS) (by rfl)))) (fun _ _ _ _ _ => (pe_ix (ixK (K' := K) rfl) (pv 1) pe_int (fun _ _ => rfl)))))), ?_⟩
    walk_at "sg"
    refine rd_lcL hl (fun i => (needsOf (its.take i)).map fun m => .str (S m)) rfl (fun i => ?_) (fun i x H1 Pn P0 hi hs hP h0 => ?_) (fun D H' hD hs hF => ?_)
    · have h1 := need_le (its.take i)
      have h2 : (its.take i).length ≤ its.length := by
        rw [List.length_take]
        omega
      rw [List.length_map]
      omega
    · rw [List.getElem?_map] at hi
      have hi2 : ∃ a it, x = .ref a ∧ its[i]? = some it ∧ ItemAt H1 a it := by
        cases e : as[i]? with
        | none => rw [e] at hi; cases hi
        | some a =>
          rw [e] at hi
          have hlt : i < its.length := by
            rw [← hA.1]
            exact (List.getElem?_eq_some_iff.mp e).1
          obtain ⟨b, hb, hbi⟩ := hA.2 i _ (List.getElem?_eq_getElem hlt)
          rw [e] at hb
          cases hb
          exact ⟨a, _, (Option.some.inj hi).symm, List.getElem?_eq_getElem hlt, hbi.mono (KT.of hs)⟩
      obtain ⟨a, it, rfl, hit, ha⟩ := hi2
      have hF : ∀ m, needOf it = [m] → (needsOf (its.take (i + 1))).map (fun m => V.str (S m)) = (needsOf (its.take i)).map (fun m => V.str (S m)) ++ [V.str (S m)] := fun m e => by
        rw [take_succ hit]
        unfold needsOf
        rw [List.flatMap_append, List.map_append]
        show _ ++ List.map _ (needOf it ++ []) = _
        rw [e]
        rfl
      have hF0 : needOf it = [] → (needsOf (its.take (i + 1))).map (fun m => V.str (S m)) = (needsOf (its.take i)).map (fun m => V.str (S m)) := fun e => by
        rw [take_succ hit]
        unfold needsOf
        rw [List.flatMap_append, List.map_append]
        show _ ++ List.map _ (needOf it ++ []) = _
        rw [e]
        exact List.append_nil _
      simp only [wipe, List.map, List.set_cons_succ, List.set_cons_zero]
      have hN := T.t_NEEDS H1
      cases it with
      | need m =>
        obtain ⟨j, ha⟩ := ha
        walk_at "rg"
        refine ⟨rfl, ?_⟩
        walk_at "rg"
        refine rd_inT hN rfl (strs_flat _) ?_
        walk_at "rg"
        exact hP _ _ (fun _ _ e => e) (hF m rfl)
      | space m s =>
        obtain ⟨j, ha⟩ := ha
        walk_at "rg"
        refine ⟨rfl, ?_⟩
        walk_at "rg"
        refine rd_inT hN rfl (strs_flat _) ?_
        walk_at "rg"
        exact hP _ _ (fun _ _ e => e) (hF m rfl)
      | star m =>
        obtain ⟨j, ha⟩ := ha
        walk_at "rg"
        refine ⟨rfl, ?_⟩
        walk_at "rg"
        refine rd_inT hN rfl (strs_flat _) ?_
        walk_at "rg"
        exact hP _ _ (fun _ _ e => e) (hF m rfl)
      | imp m =>
        obtain ⟨b, j, ha, _⟩ := ha
        walk_at "rg"
        refine ⟨rfl, ?_⟩
        walk_at "rg"
        refine rd_inT hN rfl (strs_flat _) ?_
        walk_at "rg"
        exact hP _ _ (fun _ _ e => e) (hF m rfl)
      | frm m =>
        obtain ⟨b, j, ha, _⟩ := ha
        walk_at "rg"
        refine ⟨rfl, ?_⟩
        walk_at "rg"
        refine rd_inT hN rfl (strs_flat _) ?_
        walk_at "rg"
        exact hP _ _ (fun _ _ e => e) (hF m rfl)
      | tell n =>
        obtain ⟨b, j, ha, _⟩ := ha
        walk_at "rg"
        refine ⟨rfl, ?_⟩
        walk_at "rg"
        refine rd_inT hN rfl (strs_flat _) ?_
        walk_at "rg"
        exact h0 _ (fun _ _ e => e) (hF0 rfl)
    · have e : (as.map V.ref).length = its.length := by
        rw [List.length_map]
        exact hA.1
      rw [e, List.take_length] at hF
      exact k H' D hs hD hF
end
end K5
set_option maxHeartbeats 4000000




namespace K5
open PySem PySem.Spec PyProof.Rows L2
/-! a graph of modules: what there is -/
structure Gm where
  n : Nat
  has : Nat → Bool
  nd : Nat → List Nat
  its : Nat → List Itm
  cs : Nat → List Nat
  kvs : List (Key × V)
structure Gm.Ok (G : Gm) : Prop where
  n64 : G.n ≤ 64
  lt : ∀ k, k < G.n → ∀ m ∈ G.nd k, m < G.n
  find : ∀ k, k < G.n → valV G.kvs (.inr (nm k)) = if G.has k = true then some (.str (S (G.cs k))) else none
  len : ∀ k, k < G.n → (G.cs k).length ≤ 20000 ∧ (G.its k).length ≤ 100
  lex : ∀ k, k < G.n → G.has k = true → Lex (G.cs k) ((G.its k).flatMap itToks)
  nds : ∀ k, k < G.n → needsOf (G.its k) = (G.nd k).map nmL
/-- how a walk from a module ends -/
inductive Res
  | ok (s o : List Nat)
  | lost (k : Nat)
  | over
  | out
def rchL (f : Nat → List Nat → List Nat → Res) : List Nat → List Nat → List Nat → Res
  | [], s, o => .ok s o
  | k :: ks, s, o => match f k s o with
    | .ok s' o' => rchL f ks s' o'
    | r => r
/-- the walk, d deep at most -/
def rch (G : Gm) : Nat → Nat → List Nat → List Nat → Res
  | 0, _, _, _ => .out
  | d + 1, k, s, o => if k ∈ s then .ok s o else if G.has k = false then .lost k else if 40 ≤ s.length then .over else match rchL (rch G d) (G.nd k) (s ++ [k]) o with
    | .ok s' o' => .ok s' (o' ++ [k])
    | r => r
theorem rch_s {G : Gm} {d k : Nat} {s o : List Nat} : rch G (d + 1) k s o = if k ∈ s then .ok s o else if G.has k = false then .lost k else if 40 ≤ s.length then .over else match rchL (rch G d) (G.nd k) (s ++ [k]) o with
    | .ok s' o' => .ok s' (o' ++ [k])
    | r => r := rfl
theorem rchL_split {f : Nat → List Nat → List Nat → Res} : ∀ (ks : List Nat) (i : Nat) (s o : List Nat), rchL f ks s o = match rchL f (ks.take i) s o with
    | .ok s' o' => rchL f (ks.drop i) s' o'
    | r => r
  | ks, 0, s, o => rfl
  | [], i + 1, s, o => rfl
  | k :: ks, i + 1, s, o => by
    show (match f k s o with
      | .ok s' o' => rchL f ks s' o'
      | r => r) = match (match f k s o with
      | .ok s' o' => rchL f (ks.take i) s' o'
      | r => r) with
      | .ok s' o' => rchL f (ks.drop i) s' o'
      | r => r
    cases f k s o with
    | ok s' o' => exact rchL_split ks i s' o'
    | lost m => rfl
    | over => rfl
    | out => rfl
theorem rchL_more {f : Nat → List Nat → List Nat → Res} {ks : List Nat} {i m : Nat} {s o s' o' : List Nat} (hm : ks[i]? = some m) (h : rchL f (ks.take i) s o = .ok s' o') : rchL f (ks.take (i + 1)) s o = f m s' o' := by
  rw [take_succ hm, rchL_split (ks.take i ++ [m]) i, List.take_left' (by rw [List.length_take]; have := (List.getElem?_eq_some_iff.mp hm).1; omega), h]
  show rchL f ((ks.take i ++ [m]).drop i) s' o' = _
  rw [List.drop_left' (by rw [List.length_take]; have := (List.getElem?_eq_some_iff.mp hm).1; omega)]
  show (match f m s' o' with
    | .ok a b => Res.ok a b
    | r => r) = _
  cases f m s' o' <;> rfl
theorem rchL_len {f : Nat → List Nat → List Nat → Res} (hf : ∀ j a b a' b', f j a b = .ok a' b' → b'.length + a.length = a'.length + b.length) : ∀ (ks : List Nat) (s o s' o' : List Nat), rchL f ks s o = .ok s' o' → o'.length + s.length = s'.length + o.length
  | [], s, o, s', o', h => by
    cases h
    exact Nat.add_comm _ _
  | k :: ks, s, o, s', o', h => by
    have h' : (match f k s o with
      | .ok s' o' => rchL f ks s' o'
      | r => r) = .ok s' o' := h
    cases q : f k s o with
    | ok a b =>
      rw [q] at h'
      have h1 := hf _ _ _ _ _ q
      have h2 := rchL_len hf ks a b s' o' h'
      omega
    | lost j => rw [q] at h'; cases h'
    | over => rw [q] at h'; cases h'
    | out => rw [q] at h'; cases h'
theorem rch_len {G : Gm} : ∀ (d k : Nat) (s o s' o' : List Nat), rch G d k s o = .ok s' o' → o'.length + s.length = s'.length + o.length
  | 0, k, s, o, s', o', h => by cases h
  | d + 1, k, s, o, s', o', h => by
    rw [rch_s] at h
    split at h
    · cases h
      exact Nat.add_comm _ _
    split at h
    · cases h
    split at h
    · cases h
    cases q : rchL (rch G d) (G.nd k) (s ++ [k]) o with
    | ok a b =>
      rw [q] at h
      cases h
      have h1 := rchL_len (fun j a b a' b' => rch_len d j a b a' b') _ _ _ _ _ q
      rw [List.length_append] at h1 ⊢
      show b.length + 1 + s.length = s'.length + o.length
      have h1 : b.length + (s.length + 1) = s'.length + o.length := h1
      omega
    | lost j => rw [q] at h; cases h
    | over => rw [q] at h; cases h
    | out => rw [q] at h; cases h
/-- all but two objects stand -/
def K2 (a b : Addr) (H H' : Hp) : Prop := ∀ x o, H x = some o → x ≠ a → x ≠ b → H' x = some o
theorem K2.refl (a b : Addr) (H : Hp) : K2 a b H H := fun _ _ e _ _ => e
theorem K2.trans {a b : Addr} {H H1 H2 : Hp} (h : K2 a b H H1) (g : K2 a b H1 H2) : K2 a b H H2 := fun x o e n1 n2 => g x o (h x o e n1 n2) n1 n2
theorem K2.of {a b : Addr} {H H' : Hp} (h : Same H H') : K2 a b H H' := fun x o e _ _ => h x o e
theorem K2.set1 {a b : Addr} {H : Hp} {o : HO} : K2 a b H (upd H a o) := fun x u e n _ => by
  rw [upd_ne n]
  exact e
theorem K2.set2 {a b : Addr} {H : Hp} {o : HO} : K2 a b H (upd H b o) := fun x u e _ n => by
  rw [upd_ne n]
  exact e
/-- the entries of _items -/
def itm (al : Nat → Addr) (s : List Nat) : List (Key × V) := s.map fun k => (.inr (nm k), .ref (al k))
theorem valV_itm {al : Nat → Addr} {n k : Nat} (hn : n ≤ 64) (hk : k < n) : ∀ {s : List Nat}, (∀ j ∈ s, j < n) → valV (itm al s) (.inr (nm k)) = if k ∈ s then some (.ref (al k)) else none
  | [], _ => rfl
  | j :: s, hs => by
    have hj := hs j List.mem_cons_self
    have ih := valV_itm (al := al) hn hk (s := s) fun i hi => hs i (List.mem_cons_of_mem _ hi)
    by_cases e : j = k
    · subst e
      rw [if_pos List.mem_cons_self]
      exact valV_pos rfl
    · have e1 : ¬ ((Sum.inr (nm j), V.ref (al j)) : Key × V).1 = .inr (nm k) := fun z => e (nm_inj (Nat.lt_of_lt_of_le hj hn) (Nat.lt_of_lt_of_le hk hn) (Sum.inr.inj z))
      show valV ((Sum.inr (nm j), V.ref (al j)) :: itm al s) (.inr (nm k)) = _
      rw [valV_neg e1, ih]
      by_cases c : k ∈ s
      · rw [if_pos c, if_pos (List.mem_cons_of_mem _ c)]
      · rw [if_neg c, if_neg fun z => (List.mem_cons.mp z).elim (fun q => e q.symm) c]
theorem itm_snoc {al al' : Nat → Addr} {s : List Nat} {k : Nat} (h : ∀ j ∈ s, al' j = al j) : itm al s ++ [(.inr (nm k), .ref (al' k))] = itm al' (s ++ [k]) := by
  unfold itm
  rw [List.map_append]
  congr 1
  exact List.map_congr_left fun j hj => by rw [h j hj]
/-- a Graph at g -/
structure GrAt (K : PySem.W.Frag) (G : Gm) (H : Hp) (g dx dT dI lO : Addr) (e : Str) (s o : List Nat) : Prop where
  ob : H g = some (.ins (cGraph K) dx [("entry", .str e), ("_texts", .ref dT), ("_items", .ref dI), ("_order", .ref lO)])
  tx : H dT = some (.dK G.kvs)
  it : ∃ al : Nat → Addr, H dI = some (.dK (itm al s)) ∧ ∀ k ∈ s, al k ≠ lO ∧ ∃ as : List Addr, H (al k) = some (.lst (as.map V.ref)) ∧ ItemsAs H as (G.its k)
  od : H lO = some (.lst (o.map fun k => .str (nm k)))
  lt : ∀ k ∈ s, k < G.n
  ne : dT ≠ dI
  ln : o.length ≤ s.length ∧ s.length ≤ 40
theorem GrAt.same {K : PySem.W.Frag} {G : Gm} {H H' : Hp} {g dx dT dI lO : Addr} {e : Str} {s o : List Nat} (h : GrAt K G H g dx dT dI lO e s o) (q : Same H H') : GrAt K G H' g dx dT dI lO e s o :=
  ⟨q _ _ h.ob, q _ _ h.tx, let ⟨al, h1, h2⟩ := h.it; ⟨al, q _ _ h1, fun k hk => let ⟨a, as, b, c⟩ := h2 k hk; ⟨a, as, q _ _ b, c.kt (KT.of q)⟩⟩, q _ _ h.od, h.lt, h.ne, h.ln⟩
/-- how _reach ends -/
def ReachEnd (K : PySem.W.Frag) (G : Gm) (H : Hp) (g dx dT dI lO : Addr) (e : Str) (Q : VK) (E : XK) : Res → Prop
  | .ok s o => ∀ H', K2 dI lO H H' → GrAt K G H' g dx dT dI lO e s o → Q .non H'
  | .lost m => ∀ H' x, K2 dI lO H H' → H' x = some (.xd [("name", .str (nm m))]) → E (.ref (He.ga K "NoModule")) (some x) H'
  | .over => ∀ H' x, K2 dI lO H H' → H' x = some (.xd [("limit", .str "modules")]) → E (.ref (He.ga K "Oversized")) (some x) H'
  | .out => False
def spReach (K : PySem.W.Frag) (G : Gm) (d : Nat) : Sp := fun vs H Q E => ∃ (g dx dT dI lO : Addr) (e : Str) (s o : List Nat) (k : Nat), vs = [.ref g, .str (nm k)] ∧ GrAt K G H g dx dT dI lO e s o ∧ k < G.n ∧ ReachEnd K G H g dx dT dI lO e Q E (rch G d k s o)
section
variable {P : Program} {w : World} {K : PySem.W.Frag} {mg : Str → Option Value} {base : Heap}
theorem sc_Graph_reach : FnScope ["self", "name", "other"] ["self", "name"] (defScope s_Graph_reach) := ⟨rfl, rfl, rfl, by decide +kernel, rfl, by decide +kernel, by decide +kernel⟩
theorem ok_Graph_reach (PP : PF P) (G : Gm) (hG : G.Ok) (d : Nat) (IH : Dok P w K mg base (L2.CX P w) (d + 14) (He.ma K (He.ga K "Graph") "_reach") ["self", "name"] (spReach K G d)) (T : Tx K mg) : Dok P w K mg base (L2.CX P w) (d+15) (He.ma K (He.ga K "Graph") "_reach") ["self", "name"] (spReach K G (d + 1)) := by
  refine Dok.mkX (T.F_Graph_reach) sc_Graph_reach rfl (fun _ _ _ _ _ _ us hl => match us, hl with | [_, _], _ => rfl) (fun vs H Q E h => ?_) (fun cdv A outer s H vs Q E hr h => ?_)
  · obtain ⟨g, dx, dT, dI, lO, e, s, o, k, rfl, _⟩ := h; rfl
  · obtain ⟨g, dx, dT, dI, lO, e, s, o, k, rfl, hA, hk, hm⟩ := h
    obtain ⟨ob, tx, ⟨al, it, hal⟩, od, hlt, hne, hln⟩ := id hA
    obtain ⟨cG, n1, n2, n3, n4⟩ := T.graph
    have XN := (exf_of T.x_NoModule).1
    have XO := (exf_of T.x_Oversized).1
    have FN := ok_NoModule (P := P) (w := w) (base := base) T PP
    have FO := ok_Oversized (P := P) (w := w) (base := base) T PP
    have hrd := hr
    have hr := hr.mono (show 13 ≤ d + 14 by omega)
    refine ⟨_, (pss_cons (ps_if (pt_cmp (pc_din (hu_of hr) (pv 1) (pe_fld (pv 0) rfl))) (pss_one ps_retN) pss_nil)
        (pss_cons (ps_if (pt_cmp (pc_dnotin (hu_of hr) (pv 1) (pe_fld (pv 0) rfl))) (pss_one (ps_raise rfl (takes_of rfl rfl rfl rfl) (pmk rfl XN FN T.g_NoModule hr (pa_cons (pv 1) pa_nil)))) pss_nil)
        (pss_cons (ps_if (pt_cmpR op_ge (pe_callB cl_lenDct (by rfl) T.n_len (by decide +kernel) (pa_cons (pe_fld (pv 0) rfl) pa_nil)) (C8.pe_gc rfl T.i_MAX_MODULES) (nomark _)) (pss_one (ps_raise rfl (takes_of rfl rfl rfl rfl) (pmk rfl XO FO T.g_Oversized hr (pa_cons pe_str pa_nil)))) pss_nil)
        (pss_cons (ps_dput (hu_of hr) (pe_fld (pv 0) rfl) (pv 1) (pc (ok_parse (K := K) T) T.g_parse hr (pa_cons (pe_dget (hu_of hr) (pe_fld (pv 0) rfl) (pv 1) (fun _ _ => rfl)) (pa_cons (pv 1) pa_nil))) rfl)
        (pss_cons (ps_for (passes_of rfl) rfl (pi_list (pc (ok_needs (K := K) T) T.g_needs hr (pa_cons (pe_dget (hu_of hr) (pe_fld (pv 0) rfl) (pv 1) (fun _ _ => rfl)) pa_nil))) (pg_name (i := 2) sc_Graph_reach.nd rfl (Or.inl rfl)) (pss_one (ps_expr (pmX (passX rfl rfl rfl rfl) IH T.cl_Graph T.me_Graph_reach hrd (pv 0) (pa_cons (pv 2) pa_nil) (hk := Nat.le_refl _)))))
        (pss_one (ps_expr (pe_bm PySem.F.plainAttrs_list PySem.F.slot_list_append PySem.F.type_list_append mt_append (pe_fld (pv 0) rfl) (pa_cons (pv 1) pa_nil))))))))), ?_⟩
    have hin := valV_itm (al := al) hG.n64 hk hlt
    have hfind := hG.find k hk
    rw [rch_s] at hm
    by_cases c1 : k ∈ s
    · rw [if_pos c1] at hin hm
      walk_at "sg"
      exact hm _ (K2.refl _ _ _) hA
    rw [if_neg c1] at hin hm
    by_cases c2 : G.has k = false
    · rw [if_pos c2] at hm
      rw [c2, if_neg Bool.false_ne_true] at hfind
      walk_at "sg"
      refine rd_exc fun x hx => ?_
      exact hm _ x (K2.of (Same.upd hx)) upd_same
    rw [if_neg c2] at hm
    have c2' : G.has k = true := by
      cases z : G.has k with
      | true => rfl
      | false => exact absurd z c2
    rw [if_pos c2'] at hfind
    have hl : (itm al s).length = s.length := by
      unfold itm
      rw [List.length_map]
    by_cases c3 : 40 ≤ s.length
    · rw [if_pos c3] at hm
      walk_at "sg"
      refine rd_isT (decide_eq_true (by rw [hl]; omega)) ?_
      walk_at "rg"
      refine rd_exc fun x hx => ?_
      exact hm _ x (K2.of (Same.upd hx)) upd_same
    rw [if_neg c3] at hm
    walk_at "sg"
    refine rd_isF (decide_eq_false (by rw [hl]; omega)) ?_
    walk_at "rg"
    refine ⟨G.cs k, .str (nm k), G.its k, rfl, (hG.len k hk).1, (hG.len k hk).2, hG.lex k hk c2', fun H1 l as s1 hl0 hl1 hIt => ?_⟩
    have ob1 := s1 _ _ ob
    have it1 := s1 _ _ it
    have od1 := s1 _ _ od
    have hlO : l ≠ lO := fun z => by
      rw [z, od] at hl0
      cases hl0
    walk_at "rg"
    refine rd_dput it1 (by rw [hl]; omega) ?_
    rw [putK_new _ hin]
    have hal1 : ∀ j ∈ s, (fun j => if j = k then l else al j) j = al j := fun j hj => if_neg fun (z : j = k) => c1 (z ▸ hj)
    have hsn := itm_snoc (k := k) hal1
    rw [show (if k = k then l else al k) = l from if_pos rfl] at hsn
    rw [hsn]
    obtain ⟨al2, hal2⟩ : ∃ al2 : Nat → Addr, al2 = fun j => if j = k then l else al j := ⟨_, rfl⟩
    rw [← hal2] at hal1 ⊢
    have hk2 : al2 k = l := by rw [hal2]; exact if_pos rfl
    obtain ⟨H2, hH2⟩ : ∃ H2, H2 = upd H1 dI (.dK (itm al2 (s ++ [k]))) := ⟨_, rfl⟩
    rw [← hH2]
    have kd2 : KT H1 H2 := by
      rw [hH2]
      exact KT.set fun xs z => by rw [it1] at z; cases z
    have st2 : ∀ b o, H1 b = some o → b ≠ dI → H2 b = some o := fun b o q n => by
      rw [hH2, upd_ne n]
      exact q
    have it2 : H2 dI = some (.dK (itm al2 (s ++ [k]))) := by
      rw [hH2]
      exact upd_same
    have ob2 := st2 _ _ ob1 fun z => by rw [z, it1] at ob1; cases ob1
    have tx2 := st2 _ _ (s1 _ _ tx) hne
    have od2 := st2 _ _ od1 fun z => by rw [z, it1] at od1; cases od1
    have hl2 := st2 _ _ hl1 fun z => by rw [z, it1] at hl1; cases hl1
    have hlt2 : ∀ j ∈ s ++ [k], j < G.n := fun j hj => (List.mem_append.mp hj).elim (hlt j) fun q => by
      rw [List.mem_singleton.mp q]
      exact hk
    have hA2 : GrAt K G H2 g dx dT dI lO e (s ++ [k]) o := by
      refine ⟨ob2, tx2, ⟨al2, it2, fun j hj => ?_⟩, od2, hlt2, hne, by rw [List.length_append]; exact ⟨Nat.le_succ_of_le hln.1, by show s.length + 1 ≤ 40; omega⟩⟩
      rcases List.mem_append.mp hj with hj | hj
      · rw [hal1 j hj]
        obtain ⟨q1, as', q2, q3⟩ := hal j hj
        exact ⟨q1, as', st2 _ _ (s1 _ _ q2) (fun z => by rw [← z, q2] at it; cases it), (q3.kt (KT.of s1)).kt kd2⟩
      · rw [List.mem_singleton.mp hj, hk2]
        exact ⟨hlO, as, hl2, hIt.kt kd2⟩
    have hv2 : valV (itm al2 (s ++ [k])) (.inr (nm k)) = some (.ref l) := by
      rw [valV_itm (al := al2) hG.n64 hk hlt2, if_pos (List.mem_append_right _ (List.mem_singleton.mpr rfl)), hk2]
    have k02 : K2 dI lO H H2 := (K2.of s1).trans (by rw [hH2]; exact K2.set1)
    walk_at "rg"
    refine ⟨l, as, G.its k, rfl, hl2, hIt.kt kd2, (hG.len k hk).2, fun H3 p s3 hp0 hp => ?_⟩
    have hxs : (needsOf (G.its k)).map (fun m => V.str (S m)) = (G.nd k).map fun m => V.str (nm m) := by
      rw [hG.nds k hk, List.map_map]
      exact List.map_congr_left fun m _ => by
        show V.str (S (nmL m)) = _
        rw [S_nmL]
    rw [hxs] at hp
    have hpI : p ≠ dI := fun z => by rw [z, it2] at hp0; cases hp0
    have hpO : p ≠ lO := fun z => by rw [z, od2] at hp0; cases hp0
    walk_at "rg"
    refine for_list (K := K) (a := p) (xs := (G.nd k).map fun m => V.str (nm m)) (fun i σ H' => ∃ (s' o' : List Nat) (v : Option V), σ = [some (.ref g), some (.str (nm k)), v] ∧ rchL (rch G d) ((G.nd k).take i) (s ++ [k]) o = .ok s' o' ∧ K2 dI lO H3 H' ∧ GrAt K G H' g dx dT dI lO e s' o')
      ⟨s ++ [k], o, none, rfl, rfl, K2.refl _ _ _, hA2.same s3⟩ (fun i σ H' _ ⟨_, _, _, _, _, q, _⟩ => SqL.of (q _ _ hp hpI hpO)) ?_ ?_
    · rintro i x σ H' hi ⟨s', o', v, rfl, hr1, k3, hA3⟩
      rw [List.getElem?_map] at hi
      obtain ⟨m, hmi, rfl⟩ : ∃ m, (G.nd k)[i]? = some m ∧ x = .str (nm m) := by
        cases z : (G.nd k)[i]? with
        | none => rw [z] at hi; cases hi
        | some m => rw [z] at hi; exact ⟨m, rfl, (Option.some.inj hi).symm⟩
      have hmn := hG.lt k hk m (List.mem_of_getElem? hmi)
      have hr2 := rchL_more hmi hr1
      have ob3 := hA3.ob
      walk_at "rg"
      refine ⟨g, dx, dT, dI, lO, e, s', o', m, rfl, hA3, hmn, ?_⟩
      have hall : ∀ r, rch G d m s' o' = r → (∀ a b, r ≠ .ok a b) → ReachEnd K G H g dx dT dI lO e Q E r := fun r e1 e2 => by
        have z := rchL_split (f := rch G d) (G.nd k) (i + 1) (s ++ [k]) o
        rw [hr2, e1] at z
        cases r with
        | ok a b => exact absurd rfl (e2 a b)
        | lost j =>
          rw [show rchL (rch G d) (G.nd k) (s ++ [k]) o = .lost j from z] at hm
          exact hm
        | over =>
          rw [show rchL (rch G d) (G.nd k) (s ++ [k]) o = .over from z] at hm
          exact hm
        | out =>
          rw [show rchL (rch G d) (G.nd k) (s ++ [k]) o = .out from z] at hm
          exact hm
      have k03 : K2 dI lO H H' := (k02.trans (K2.of s3)).trans k3
      cases hrm : rch G d m s' o' with
      | ok s2 o2 =>
        intro H4 k4 hA4
        walk_at "rg"
        exact ⟨s2, o2, _, rfl, hr2.trans hrm, k3.trans k4, hA4⟩
      | lost j =>
        intro H4 y k4 hy
        exact hall _ hrm (fun _ _ z => by cases z) H4 y (k03.trans k4) hy
      | over =>
        intro H4 y k4 hy
        exact hall _ hrm (fun _ _ z => by cases z) H4 y (k03.trans k4) hy
      | out => exact hall _ hrm fun _ _ z => by cases z
    · rintro σ H' ⟨s', o', v, rfl, hr1, k3, hA3⟩
      rw [List.length_map, List.take_length] at hr1
      rw [hr1] at hm
      obtain ⟨ob3, tx3, ⟨al3, it3, hal3⟩, od3, hlt3, hne3, hln3⟩ := id hA3
      walk_at "rg"
      have hd3 := rchL_len (fun j a b a' b' => rch_len d j a b a' b') _ _ _ _ _ hr1
      rw [List.length_append] at hd3
      have hd3 : o'.length + (s.length + 1) = s'.length + o.length := hd3
      refine rd_append od3 (by rw [List.length_map]; omega) ?_
      have n5 : ∀ {b : Addr} {u : HO}, H' b = some u → (∀ xs, u ≠ .lst xs) → b ≠ lO := fun q n z => by
        rw [z, od3] at q
        exact n _ (Option.some.inj q).symm
      refine hm _ (((k02.trans (K2.of s3)).trans k3).trans K2.set2) ⟨?_, ?_, ⟨al3, ?_, fun j hj => ?_⟩, ?_, hlt3, hne3, by rw [List.length_append]; exact ⟨by show o'.length + 1 ≤ s'.length; omega, hln3.2⟩⟩
      · rw [upd_ne (n5 ob3 fun xs z => by cases z)]
        exact ob3
      · rw [upd_ne (n5 tx3 fun xs z => by cases z)]
        exact tx3
      · rw [upd_ne (n5 it3 fun xs z => by cases z)]
        exact it3
      · obtain ⟨q1, as', q2, q3⟩ := hal3 j hj
        exact ⟨q1, as', by rw [upd_ne q1]; exact q2, q3.kt (KT.set fun xs z => by rw [od3] at z; cases z)⟩
      · rw [upd_same, List.map_append]
        rfl
end
end K5
set_option maxHeartbeats 4000000




namespace K5
open PySem PySem.Spec PyProof.Rows L2
/-- how Graph(..) ends -/
def InitEnd (K : PySem.W.Frag) (G : Gm) (H : Hp) (g dx : Addr) (Q : VK) (E : XK) : Res → Prop
  | .ok s o => ∀ H' dT dI lO, Kp g H H' → GrAt K G H' g dx dT dI lO (nm 0) s o → Q .non H'
  | .lost m => ∀ H' x, Kp g H H' → H' x = some (.xd [("name", .str (nm m))]) → E (.ref (He.ga K "NoModule")) (some x) H'
  | .over => ∀ H' x, Kp g H H' → H' x = some (.xd [("limit", .str "modules")]) → E (.ref (He.ga K "Oversized")) (some x) H'
  | .out => False
def spGInit (K : PySem.W.Frag) (G : Gm) (d : Nat) : Sp := fun vs H Q E => ∃ (g dx dm : Addr), vs = [.ref g, .ref dm, .str (nm 0)] ∧ H g = some (.ins (cGraph K) dx []) ∧ H dm = some (.dK G.kvs) ∧ InitEnd K G H g dx Q E (rch G d 0 [] [])
def spOrder (K : PySem.W.Frag) : Sp := fun vs H Q _ => ∃ (g dx dT dI lO : Addr) (G : Gm) (e : Str) (s o : List Nat), vs = [.ref g] ∧ GrAt K G H g dx dT dI lO e s o ∧ ∀ p, H p = none → Q (.ref p) (upd H p (.lst (o.map fun k => .str (nm k))))
def spMItems (K : PySem.W.Frag) (G : Gm) : Sp := fun vs H Q _ => ∃ (g dx dT dI lO : Addr) (e : Str) (s o : List Nat) (k : Nat), vs = [.ref g, .str (nm k)] ∧ GrAt K G H g dx dT dI lO e s o ∧ k ∈ s ∧
  ∀ p as, H p = none → ItemsAs H as (G.its k) → Q (.ref p) (upd H p (.lst (as.map .ref)))
section
variable {P : Program} {w : World} {K : PySem.W.Frag} {mg : Str → Option Value} {base : Heap}
theorem reach_all (T : Tx K mg) (PP : PF P) (G : Gm) (hG : G.Ok) : ∀ d : Nat, Dok P w K mg base (L2.CX P w) (d + 14) (He.ma K (He.ga K "Graph") "_reach") ["self", "name"] (spReach K G d)
  | 0 => by
    refine Dok.mkX (T.F_Graph_reach) sc_Graph_reach rfl (fun _ _ _ _ _ _ us hl => match us, hl with | [_, _], _ => rfl) (fun vs H Q E h => ?_) (fun cdv A outer s H vs Q E hr h => ?_)
    · obtain ⟨g, dx, dT, dI, lO, e, s, o, k, rfl, _⟩ := h
      rfl
    · obtain ⟨g, dx, dT, dI, lO, e, s, o, k, rfl, hA, hk, hm⟩ := h
      exact hm.elim
  | d + 1 => ok_Graph_reach PP G hG d (reach_all T PP G hG d) T
theorem sc_Graph_init : FnScope ["self", "modules", "entry"] ["self", "modules", "entry"] (defScope s_Graph_init) := ⟨rfl, rfl, rfl, by decide +kernel, rfl, by decide +kernel, by decide +kernel⟩
theorem ok_Graph_init (PP : PF P) (G : Gm) (hG : G.Ok) (h0 : 0 < G.n) (d : Nat) (T : Tx K mg) : Dok P w K mg base (L2.CX P w) (d+15) (He.ma K (He.ga K "Graph") "__init__") ["self", "modules", "entry"] (spGInit K G d) := by
  refine Dok.mkX (T.F_Graph_init) sc_Graph_init rfl (fun _ _ _ _ _ _ us hl => match us, hl with | [_, _, _], _ => rfl) (fun vs H Q E h => ?_) (fun cdv A outer s H vs Q E hr h => ?_)
  · obtain ⟨g, dx, dm, rfl, _⟩ := h; rfl
  · obtain ⟨g, dx, dm, rfl, hg, hdm, hm⟩ := h
    obtain ⟨cG, n1, n2, n3, n4⟩ := T.graph
    refine ⟨_, (pss_cons (ps_fld (pv 0) (pv 2) rfl)
        (pss_cons (ps_fld (pv 0) (pe_callTy cl_dictOf (by rfl) T.n_dict (by decide +kernel) (pa_cons (pv 1) pa_nil)) rfl)
        (pss_cons (ps_fld (pv 0) pe_dnewK rfl)
        (pss_cons (ps_fld (pv 0) (pe_lst pa_nil) rfl)
        (pss_one (ps_expr (pmX (passX rfl rfl rfl rfl) (reach_all T PP G hG d) T.cl_Graph T.me_Graph_reach hr (pv 0) (pa_cons (pv 2) pa_nil) (hk := Nat.le_refl _)))))))), ?_⟩
    have hdg : dm ≠ g := fun z => by rw [z, hg] at hdm; cases hdm
    walk_at "sg"
    refine rd_dictD (by rw [upd_ne hdg]; exact hdm) fun dT hT => ?_
    have k0 : Kp g H (upd H g (.ins (cGraph K) dx (putF "entry" (.str (nm 0)) []))) := Kp.set
    have g0 : (upd H g (.ins (cGraph K) dx (putF "entry" (.str (nm 0)) []))) g = some (.ins (cGraph K) dx [("entry", .str (nm 0))]) := upd_same
    generalize upd H g (.ins (cGraph K) dx (putF "entry" (.str (nm 0)) [])) = H0 at k0 g0 hT ⊢
    have k1 := k0.same (Same.upd (o := .dK G.kvs) hT)
    have g1 := Same.upd (o := .dK G.kvs) hT _ _ g0
    have t1 : (upd H0 dT (.dK G.kvs)) dT = some (.dK G.kvs) := upd_same
    have ng1 : dT ≠ g := fun z => by rw [z, g0] at hT; cases hT
    generalize upd H0 dT (.dK G.kvs) = H1 at k1 g1 t1 ⊢
    walk_at "rg"
    have k2 := k1.trans (Kp.set (o := .ins (cGraph K) dx (putF "_texts" (.ref dT) [("entry", .str (nm 0))])))
    have g2 : (upd H1 g (.ins (cGraph K) dx (putF "_texts" (.ref dT) [("entry", .str (nm 0))]))) g = some (.ins (cGraph K) dx [("entry", .str (nm 0)), ("_texts", .ref dT)]) := upd_same
    have t2 : (upd H1 g (.ins (cGraph K) dx (putF "_texts" (.ref dT) [("entry", .str (nm 0))]))) dT = some (.dK G.kvs) := by rw [upd_ne ng1]; exact t1
    generalize upd H1 g (.ins (cGraph K) dx (putF "_texts" (.ref dT) [("entry", .str (nm 0))])) = H2 at k2 g2 t2 ⊢
    intro dI hI
    have k3 := k2.same (Same.upd (o := .dK []) hI)
    have g3 := Same.upd (o := .dK []) hI _ _ g2
    have t3 := Same.upd (o := .dK []) hI _ _ t2
    have i3 : (upd H2 dI (.dK [])) dI = some (.dK []) := upd_same
    have ng3 : dI ≠ g := fun z => by rw [z, g2] at hI; cases hI
    have nd3 : dT ≠ dI := fun z => by rw [← z, t2] at hI; cases hI
    generalize upd H2 dI (.dK []) = H3 at k3 g3 t3 i3 ⊢
    walk_at "rg"
    have k4 := k3.trans (Kp.set (o := .ins (cGraph K) dx (putF "_items" (.ref dI) [("entry", .str (nm 0)), ("_texts", .ref dT)])))
    have g4 : (upd H3 g (.ins (cGraph K) dx (putF "_items" (.ref dI) [("entry", .str (nm 0)), ("_texts", .ref dT)]))) g = some (.ins (cGraph K) dx [("entry", .str (nm 0)), ("_texts", .ref dT), ("_items", .ref dI)]) := upd_same
    have t4 : (upd H3 g (.ins (cGraph K) dx (putF "_items" (.ref dI) [("entry", .str (nm 0)), ("_texts", .ref dT)]))) dT = some (.dK G.kvs) := by rw [upd_ne ng1]; exact t3
    have i4 : (upd H3 g (.ins (cGraph K) dx (putF "_items" (.ref dI) [("entry", .str (nm 0)), ("_texts", .ref dT)]))) dI = some (.dK []) := by rw [upd_ne ng3]; exact i3
    generalize upd H3 g (.ins (cGraph K) dx (putF "_items" (.ref dI) [("entry", .str (nm 0)), ("_texts", .ref dT)])) = H4 at k4 g4 t4 i4 ⊢
    intro lO hO
    have k5 := k4.same (Same.upd (o := .lst []) hO)
    have g5 := Same.upd (o := .lst []) hO _ _ g4
    have t5 := Same.upd (o := .lst []) hO _ _ t4
    have i5 := Same.upd (o := .lst []) hO _ _ i4
    have o5 : (upd H4 lO (.lst [])) lO = some (.lst []) := upd_same
    have ng5 : lO ≠ g := fun z => by rw [z, g4] at hO; cases hO
    generalize upd H4 lO (.lst []) = H5 at k5 g5 t5 i5 o5 ⊢
    walk_at "rg"
    have k6 := k5.trans (Kp.set (o := .ins (cGraph K) dx (putF "_order" (.ref lO) [("entry", .str (nm 0)), ("_texts", .ref dT), ("_items", .ref dI)])))
    have g6 : (upd H5 g (.ins (cGraph K) dx (putF "_order" (.ref lO) [("entry", .str (nm 0)), ("_texts", .ref dT), ("_items", .ref dI)]))) g = some (.ins (cGraph K) dx [("entry", .str (nm 0)), ("_texts", .ref dT), ("_items", .ref dI), ("_order", .ref lO)]) := upd_same
    have t6 : (upd H5 g (.ins (cGraph K) dx (putF "_order" (.ref lO) [("entry", .str (nm 0)), ("_texts", .ref dT), ("_items", .ref dI)]))) dT = some (.dK G.kvs) := by rw [upd_ne ng1]; exact t5
    have i6 : (upd H5 g (.ins (cGraph K) dx (putF "_order" (.ref lO) [("entry", .str (nm 0)), ("_texts", .ref dT), ("_items", .ref dI)]))) dI = some (.dK []) := by rw [upd_ne ng3]; exact i5
    have o6 : (upd H5 g (.ins (cGraph K) dx (putF "_order" (.ref lO) [("entry", .str (nm 0)), ("_texts", .ref dT), ("_items", .ref dI)]))) lO = some (.lst []) := by rw [upd_ne ng5]; exact o5
    generalize upd H5 g (.ins (cGraph K) dx (putF "_order" (.ref lO) [("entry", .str (nm 0)), ("_texts", .ref dT), ("_items", .ref dI)])) = H6 at k6 g6 t6 i6 o6 ⊢
    have hA : GrAt K G H6 g dx dT dI lO (nm 0) [] [] := ⟨g6, t6, ⟨fun _ => 0, i6, fun k hk => absurd hk (List.not_mem_nil)⟩, o6, fun k hk => absurd hk (List.not_mem_nil), nd3, ⟨Nat.le_refl _, Nat.zero_le _⟩⟩
    have hI0 : H dI = none := by
      cases q : H dI with
      | none => rfl
      | some u =>
        have z := k2 _ _ q ng3
        rw [hI] at z
        cases z
    have hO0 : H lO = none := by
      cases q : H lO with
      | none => rfl
      | some u =>
        have z := k4 _ _ q ng5
        rw [hO] at z
        cases z
    have kk : ∀ H', K2 dI lO H6 H' → Kp g H H' := fun H' k7 b u q n => k7 b u (k6 b u q n) (fun z => by rw [z, hI0] at q; cases q) (fun z => by rw [z, hO0] at q; cases q)
    refine ⟨g, dx, dT, dI, lO, nm 0, [], [], 0, rfl, hA, h0, ?_⟩
    cases q : rch G d 0 [] [] with
    | ok s o =>
      rw [q] at hm
      intro H' k7 hA'
      walk_at "rg"
      exact hm H' dT dI lO (kk H' k7) hA'
    | lost m =>
      rw [q] at hm
      intro H' x k7 hx
      exact hm H' x (kk H' k7) hx
    | over =>
      rw [q] at hm
      intro H' x k7 hx
      exact hm H' x (kk H' k7) hx
    | out =>
      rw [q] at hm
      exact hm
theorem sc_Graph_order : FnScope ["self"] ["self"] (defScope s_Graph_order) := ⟨rfl, rfl, rfl, by decide +kernel, rfl, by decide +kernel, by decide +kernel⟩
theorem ok_Graph_order (T : Tx K mg) : Dok P w K mg base CX0 1 (He.ma K (He.ga K "Graph") "order") ["self"] (spOrder K) := by
  refine Dok.mk0 (T.F_Graph_order) sc_Graph_order rfl (fun _ _ _ _ _ _ us hl => match us, hl with | [_], _ => rfl) (fun vs H Q E h => ?_) (fun cdv A outer s H vs Q E hr h => ?_)
  · obtain ⟨g, dx, dT, dI, lO, G, e, s, o, rfl, _⟩ := h; rfl
  · obtain ⟨g, dx, dT, dI, lO, G, e, s, o, rfl, hA, k⟩ := h
    obtain ⟨cG, n1, n2, n3, n4⟩ := T.graph
    have ob := hA.ob
    have od := hA.od
    refine ⟨_, (pss_one (ps_ret (pe_callTy cl_listOf (by rfl) T.n_list (by decide +kernel) (pa_cons (pe_fld (pv 0) rfl) pa_nil)))), ?_⟩
    walk_at "sg"
    exact k
theorem sc_Graph_module_items : FnScope ["self", "name"] ["self", "name"] (defScope s_Graph_module_items) := ⟨rfl, rfl, rfl, by decide +kernel, rfl, by decide +kernel, by decide +kernel⟩
theorem ok_Graph_module_items (G : Gm) (hG : G.Ok) (T : Tx K mg) : Dok P w K mg base CX0 1 (He.ma K (He.ga K "Graph") "module_items") ["self", "name"] (spMItems K G) := by
  refine Dok.mk0 (T.F_Graph_module_items) sc_Graph_module_items rfl (fun _ _ _ _ _ _ us hl => match us, hl with | [_, _], _ => rfl) (fun vs H Q E h => ?_) (fun cdv A outer s H vs Q E hr h => ?_)
  · obtain ⟨g, dx, dT, dI, lO, e, s, o, k, rfl, _⟩ := h; rfl
  · obtain ⟨g, dx, dT, dI, lO, e, s, o, k, rfl, hA, hk, q⟩ := h
    obtain ⟨cG, n1, n2, n3, n4⟩ := T.graph
    obtain ⟨ob, tx, ⟨al, it, hal⟩, od, hlt, hne, hln⟩ := id hA
    have hv := valV_itm (al := al) hG.n64 (hlt k hk) hlt
    rw [if_pos hk] at hv
    obtain ⟨q1, as, q2, q3⟩ := hal k hk
    refine ⟨_, (pss_one (ps_ret (pe_callTy cl_listOf (by rfl) T.n_list (by decide +kernel) (pa_cons (pe_dget (hu_of hr) (pe_fld (pv 0) rfl) (pv 1) (fun _ _ => rfl)) pa_nil)))), ?_⟩
    walk_at "sg"
    exact fun p hp => q p as hp q3
end
end K5
set_option maxHeartbeats 4000000




namespace K5
open PySem PySem.Spec PyProof.Rows L2
/-! what a module exports: nothing -/
def strsN (l : List Nat) : List V := l.map fun k => .str (nm k)
theorem inV_nm {k : Nat} (hk : k < 64) : ∀ {l : List Nat}, (∀ j ∈ l, j < 64) → inV (.str (nm k)) (strsN l) = decide (k ∈ l)
  | [], _ => rfl
  | j :: l, h => by
    have ih := inV_nm hk (l := l) fun i hi => h i (List.mem_cons_of_mem _ hi)
    show (eqV (.str (nm j)) (.str (nm k)) || inV (.str (nm k)) (strsN l)) = _
    rw [ih]
    have e : eqV (.str (nm j)) (.str (nm k)) = decide (j = k) := by
      show (nm j == nm k) = _
      by_cases c : j = k
      · rw [c, decide_eq_true rfl]
        exact beq_self_eq_true _
      · rw [decide_eq_false c]
        exact beq_eq_false_iff_ne.mpr fun z => c (nm_inj (h j List.mem_cons_self) hk z)
    rw [e]
    by_cases c : j = k
    · rw [decide_eq_true c, decide_eq_true (show k ∈ j :: l from c ▸ List.mem_cons_self)]
      rfl
    · rw [decide_eq_false c, Bool.false_or]
      by_cases c2 : k ∈ l
      · rw [decide_eq_true c2, decide_eq_true (show k ∈ j :: l from List.mem_cons_of_mem _ c2)]
      · rw [decide_eq_false c2, decide_eq_false (show ¬ k ∈ j :: l from fun z => (List.mem_cons.mp z).elim (fun q => c q.symm) c2)]
theorem strsN_flat (l : List Nat) : (strsN l).all flatV = true := by
  unfold strsN
  rw [List.all_map]
  exact List.all_eq_true.mpr fun _ _ => rfl
theorem rd_inL {K : PySem.W.Frag} {H : Hp} {Q : VK} {x : V} {p : Addr} {xs : List V} (h : H p = some (.lst xs)) (hx : flatV x = true) (hs : xs.all flatV = true) (q : Q (.bl (inV x xs)) H) : rIn K false x (.ref p) H Q := ⟨p, xs, rfl, .inl (SqL.of h), hx, hs, q⟩
theorem sqt_same {K : PySem.W.Frag} {H H' : Hp} {a : Addr} {xs : List V} : SqT K H a xs → Same H H' → SqT K H' a xs
  | .inl (.inl h), e => .inl (.inl (e _ _ h))
  | .inl (.inr ⟨o, h⟩), e => .inl (.inr ⟨o, e _ _ h⟩)
  | .inr h, _ => .inr h
/-- a comprehension over an empty tuple -/
theorem rd_lcT0 {K : PySem.W.Frag} {H : Hp} {Qa : Addr → Hp → Prop} {b : Addr} {g : TG} {tt : TT} {te : TE} {vs : List Nat} {σ : L2.St} (h : SqT K H b []) (q : ∀ D, H D = none → Qa D (upd H D (.lst []))) :
    ∃ c, V.ref b = .ref c ∧ (∃ xs, SqT K H c xs) ∧ ∀ D, H D = none → ∃ W : Nat → Nat → Hp → Prop, (∃ m, W 0 m (upd H D (.lst []))) ∧ ∀ i m H, W i m H →
      ((Itt K c).stop i H ∧ Qa D H) ∨ ((Itt K c).go i H ∧ ∃ Nx : Hp → Prop, (∀ H', Nx H' → ∃ m', m' < m ∧ W (i + 1) m' H') ∧ ∀ x H', (Itt K c).yld i H x H' → g x (wipe σ vs) H' fun σ2 H2 => wipe σ2 vs = wipe σ vs ∧ tt σ2 H2 fun b H3 =>
        if b = true then te σ2 H3 fun y H4 => ∃ acc, H4 D = some (.lst acc) ∧ acc.length < sizeLine ∧ Nx (upd H4 D (.lst (acc ++ [y]))) else Nx H3) :=
  ⟨b, rfl, ⟨_, h⟩, fun D hD => lc_tup (K := K) (a := b) (xs := []) (fun i H' => H' = upd H D (.lst [])) rfl (fun i H' _ e => e ▸ sqt_same h (Same.upd hD)) (fun i x H' hi _ => by cases hi) (fun H' e => e ▸ q D hD)⟩
theorem rd_extend {H : Hp} {Q : VK} {l b : Addr} {xs zs : List V} (hl : H l = some (.lst xs)) (hb : H b = some (.lst zs)) (hz : xs.length + zs.length ≤ 100000) (q : Q .non (upd H l (.lst (xs ++ zs)))) : rExtend (.ref l) [.ref b] H Q := ⟨l, b, xs, zs, rfl, rfl, hl, hb, small hz, q⟩
/-- how many of s are not yet seen -/
def left (s seen : List Nat) : Nat := (s.filter fun x => decide (x ∉ seen)).length
theorem left_lt {p q : Nat → Bool} {k : Nat} (hpq : ∀ x, q x = true → p x = true) (hp : p k = true) (hq : q k = false) : ∀ {s : List Nat}, k ∈ s → (s.filter q).length + 1 ≤ (s.filter p).length
  | x :: s, h => by
    have sub : ∀ s : List Nat, (s.filter q).length ≤ (s.filter p).length := by
      intro s
      induction s with
      | nil => exact Nat.le_refl _
      | cons y s ih =>
        rw [List.filter_cons, List.filter_cons]
        cases c : q y with
        | true =>
          rw [if_pos rfl, if_pos (hpq y c)]
          exact Nat.succ_le_succ ih
        | false =>
          rw [if_neg Bool.false_ne_true]
          split
          · exact Nat.le_succ_of_le ih
          · exact ih
    rw [List.filter_cons, List.filter_cons]
    rcases List.mem_cons.mp h with rfl | h
    · rw [hp, hq, if_pos rfl, if_neg Bool.false_ne_true]
      exact Nat.succ_le_succ (sub s)
    · have ih := left_lt hpq hp hq h
      cases c : q x with
      | true =>
        rw [if_pos rfl, if_pos (hpq x c)]
        exact Nat.succ_le_succ ih
      | false =>
        rw [if_neg Bool.false_ne_true]
        split
        · exact Nat.le_succ_of_le ih
        · exact ih
theorem left_more {s seen : List Nat} {k : Nat} (hk : k ∈ s) (hn : k ∉ seen) : left s (seen ++ [k]) + 1 ≤ left s seen :=
  left_lt (p := fun x => decide (x ∉ seen)) (q := fun x => decide (x ∉ seen ++ [k])) (fun x h => decide_eq_true fun z => (of_decide_eq_true h : x ∉ seen ++ [k]) (List.mem_append_left _ z)) (decide_eq_true hn) (decide_eq_false fun z => z (List.mem_append_right _ (List.mem_singleton.mpr rfl))) hk
/-- a closed graph -/
def Closed (G : Gm) (s : List Nat) : Prop := ∀ j ∈ s, ∀ m ∈ G.nd j, m ∈ s
theorem star_of {G : Gm} (hG : G.Ok) {k : Nat} (hk : k < G.n) {it : Itm} {m : List Nat} (hi : it ∈ G.its k) (hn : needOf it = [m]) : ∃ j ∈ G.nd k, m = nmL j := by
  have h : m ∈ needsOf (G.its k) := List.mem_flatMap.mpr ⟨it, hi, by rw [hn]; exact List.mem_singleton.mpr rfl⟩
  rw [hG.nds k hk] at h
  obtain ⟨j, hj, e⟩ := List.mem_map.mp h
  exact ⟨j, hj, e.symm⟩
def spTold (K : PySem.W.Frag) (G : Gm) (d : Nat) : Sp := fun vs H Q _ => ∃ (H0 : Hp) (g dx dT dI lO ls lf : Addr) (e : Str) (s o seen : List Nat) (k : Nat), vs = [.ref g, .str (nm k), .ref ls, .ref lf] ∧ GrAt K G H0 g dx dT dI lO e s o ∧ Closed G s ∧ Same H0 H ∧
  H0 ls = none ∧ H0 lf = none ∧ ls ≠ lf ∧ H ls = some (.lst (strsN seen)) ∧ H lf = some (.lst []) ∧ k ∈ s ∧ (∀ x ∈ seen, x ∈ s) ∧ left s seen < d ∧ seen.length + left s seen ≤ 100 ∧
  ∀ H' seen', Same H0 H' → H' ls = some (.lst (strsN seen')) → H' lf = some (.lst []) → (∀ x ∈ seen', x ∈ s) → left s seen' ≤ left s seen → seen'.length + left s seen' ≤ 100 → Q .non H'
section
variable {P : Program} {w : World} {K : PySem.W.Frag} {mg : Str → Option Value} {base : Heap}
theorem sc_Graph_told_names : FnScope ["self", "name", "seen", "found", "item", "local", "other", "inner"] ["self", "name", "seen", "found"] (defScope s_Graph_told_names) := ⟨rfl, rfl, rfl, by decide +kernel, rfl, by decide +kernel, by decide +kernel⟩
theorem ok_Graph_told_names (G : Gm) (hG : G.Ok) (d : Nat) (IH : Dok P w K mg base CX0 (d + 1) (He.ma K (He.ga K "Graph") "told_names") ["self", "name", "seen", "found"] (spTold K G d)) (T : Tx K mg) : Dok P w K mg base CX0 (d+2) (He.ma K (He.ga K "Graph") "told_names") ["self", "name", "seen", "found"] (spTold K G (d + 1)) := by
  refine Dok.mk0 (T.F_Graph_told_names) sc_Graph_told_names rfl (fun _ _ _ _ _ _ us hl => match us, hl with | [_, _, _, _], _ => rfl) (fun vs H Q E h => ?_) (fun cdv A outer s H vs Q E hr h => ?_)
  · obtain ⟨H0, g, dx, dT, dI, lO, ls, lf, e, s, o, seen, k, rfl, _⟩ := h; rfl
  · obtain ⟨H0, g, dx, dT, dI, lO, ls, lf, e, s, o, seen, k, rfl, hA, hcl, hs, hls0, hlf0, hne, hls, hlf, hk, hsub, hd, hb, q⟩ := h
    obtain ⟨cG, n1, n2, n3, n4⟩ := T.graph
    have hAH := hA.same hs
    obtain ⟨ob, tx, ⟨al, it, hal⟩, od, hlt, hnx, hln⟩ := id hAH
    have h64 : ∀ j ∈ seen, j < 64 := fun j hj => Nat.lt_of_lt_of_le (hlt j (hsub j hj)) hG.n64
    have k64 : k < 64 := Nat.lt_of_lt_of_le (hlt k hk) hG.n64
    have hv := valV_itm (al := al) hG.n64 (hlt k hk) hlt
    rw [if_pos hk] at hv
    obtain ⟨q1, as, q2, q3⟩ := hal k hk
    refine ⟨_, (pss_cons (ps_if (pt_cmpR op_in_seq (pv 1) (pv 2) (by rfl)) (pss_one ps_retN) pss_nil)
        (pss_cons (ps_expr (pe_bm PySem.F.plainAttrs_list PySem.F.slot_list_append PySem.F.type_list_append mt_append (pv 2) (pa_cons (pv 1) pa_nil)))
        (pss_one (ps_for PassesOwn.never rfl (pi_list (pe_dget (hu_of hr) (pe_fld (pv 0) rfl) (pv 1) (fun _ _ => rfl))) (pg_name (i := 4) sc_Graph_told_names.nd rfl (Or.inl rfl)) (pss_one (ps_if (pt_cmpR op_eq (pe_ix ix_tup (pv 4) pe_int (fun _ _ => rfl)) pe_str (nomark _)) pss_never (pss_one (ps_if (pt_cmpR op_eq (pe_ix ix_tup (pv 4) pe_int (fun _ _ => rfl)) pe_str (nomark _)) (pss_one (ps_expr (pe_bm PySem.F.plainAttrs_list PySem.F.slot_list_extend PySem.F.type_list_extend mt_extend (pv 3) (pa_cons (pe_lc (own := [("inner", 7), ("other", 6)]) (g := gTup K 2 (gCons (gName 7) (gCons (gName 6) gNil))) rfl sc_Graph_told_names.nd (pi_tup (pe_ix ix_tup (pv 4) pe_int (fun _ _ => rfl))) (blkOk_by (own := [("inner", 7), ("other", 6)]) (N := ["self", "name", "seen", "found", "item", "local", "other", "inner"]) (sc := defScope s_Graph_told_names) (by decide +kernel)) (fun _ _ _ _ _ => (pg_tup rfl (pgs_cons (pg_name (i := 7) sc_Graph_told_names.nd rfl (Or.inl rfl)) (pgs_cons (pg_name (i := 6) sc_Graph_told_names.nd rfl (Or.inl rfl)) pgs_nil)))) (fun _ _ _ _ _ => pts_nil) (fun _ _ _ _ _ => (pv 6))) pa_nil)))) (pss_one (ps_if (pt_cmpR op_eq (pe_ix ix_tup (pv 4) pe_int (fun _ _ => rfl)) pe_str (nomark _)) (pss_one (ps_expr (pm IH T.cl_Graph T.me_Graph_told_names hr (pv 0) (pa_cons (pe_ix ix_tup (pv 4) pe_int (fun _ _ => rfl)) (pa_cons (pv 2) (pa_cons (pv 3) pa_nil))) (hk := Nat.le_refl _)))) pss_nil)))))))))), ?_⟩
    walk_at "sg"
    refine rd_inL hls rfl (strsN_flat _) ?_
    walk_at "rg"
    rw [inV_nm k64 h64]
    by_cases c : k ∈ seen
    · refine rd_isT (decide_eq_true c) ?_
      walk_at "rg"
      exact q H seen hs hls hlf hsub (Nat.le_refl _) hb
    refine rd_isF (decide_eq_false c) ?_
    walk_at "rg"
    have lm := left_more hk c
    refine rd_append hls (by unfold strsN; rw [List.length_map]; omega) ?_
    have ex : strsN seen ++ [.str (nm k)] = strsN (seen ++ [k]) := by
      unfold strsN
      rw [List.map_append]
      rfl
    rw [ex]
    have hs2 : Same H0 (upd H ls (.lst (strsN (seen ++ [k])))) := same_new hs hls0
    have hf2 : (upd H ls (.lst (strsN (seen ++ [k])))) lf = some (.lst []) := by rw [upd_ne (Ne.symm hne)]; exact hlf
    have hl2 : (upd H ls (.lst (strsN (seen ++ [k])))) ls = some (.lst (strsN (seen ++ [k]))) := upd_same
    generalize upd H ls (.lst (strsN (seen ++ [k]))) = H2 at hs2 hf2 hl2 ⊢
    clear hls hlf hs hAH ob tx it od q2 q3 hal hln hv hlt
    have hA2 := hA.same hs2
    obtain ⟨ob, tx, ⟨al, it, hal⟩, od, hlt, hnx, hln⟩ := id hA
    have hv := valV_itm (al := al) hG.n64 (hlt k hk) hlt
    rw [if_pos hk] at hv
    have ob2 := hs2 _ _ ob
    have it2 := hs2 _ _ it
    obtain ⟨q1, as, q2, q3⟩ := hal k hk
    have q4 := hs2 _ _ q2
    have hsub2 : ∀ x ∈ seen ++ [k], x ∈ s := fun x hx => (List.mem_append.mp hx).elim (hsub x) fun z => List.mem_singleton.mp z ▸ hk
    walk_at "rg"
    refine for_list (K := K) (a := al k) (xs := as.map V.ref) (fun i σ H' => ∃ (seen' : List Nat) (v : Option V), σ = [some (.ref g), some (.str (nm k)), some (.ref ls), some (.ref lf), v, none, none, none] ∧ Same H0 H' ∧ H' ls = some (.lst (strsN seen')) ∧ H' lf = some (.lst []) ∧ (∀ x ∈ seen', x ∈ s) ∧ left s seen' ≤ left s (seen ++ [k]) ∧ seen'.length + left s seen' ≤ 100)
      ⟨seen ++ [k], none, rfl, hs2, hl2, hf2, hsub2, Nat.le_refl _, by rw [List.length_append]; show seen.length + 1 + _ ≤ 100; omega⟩ (fun i σ H' _ ⟨_, _, _, z, _⟩ => SqL.of (z _ _ q2)) ?_ ?_
    · rintro i x σ H' hi ⟨seen', v, rfl, hs3, hl3, hf3, hsub3, hc3, hb3⟩
      obtain ⟨a, it0, rfl, hit, ha⟩ : ∃ a it, x = .ref a ∧ (G.its k)[i]? = some it ∧ ItemAt H' a it := by
        rw [List.getElem?_map] at hi
        cases z : as[i]? with
        | none => rw [z] at hi; cases hi
        | some a =>
          rw [z] at hi
          have hlt : i < (G.its k).length := by
            rw [← q3.1]
            exact (List.getElem?_eq_some_iff.mp z).1
          obtain ⟨b, hb, hbi⟩ := q3.2 i _ (List.getElem?_eq_getElem hlt)
          rw [z] at hb
          cases hb
          exact ⟨a, _, (Option.some.inj hi).symm, List.getElem?_eq_getElem hlt, hbi.mono (KT.of hs3)⟩
      have stay : ∀ H4 v', Same H' H4 → (∃ (seen2 : List Nat) (w : Option V), [some (.ref g), some (.str (nm k)), some (.ref ls), some (.ref lf), some v', none, none, none] = [some (.ref g), some (.str (nm k)), some (.ref ls), some (.ref lf), w, none, none, none] ∧ Same H0 H4 ∧ H4 ls = some (.lst (strsN seen2)) ∧ H4 lf = some (.lst []) ∧ (∀ x ∈ seen2, x ∈ s) ∧ left s seen2 ≤ left s (seen ++ [k]) ∧ seen2.length + left s seen2 ≤ 100) :=
        fun H4 v' s4 => ⟨seen', _, rfl, hs3.trans s4, s4 _ _ hl3, s4 _ _ hf3, hsub3, hc3, hb3⟩
      have hA3 := hA.same hs3
      have ob3 := hA3.ob
      cases it0 with
      | need m =>
        obtain ⟨j, ha⟩ := ha
        walk_at "rg"
        exact stay _ _ fun _ _ e => e
      | space m z =>
        obtain ⟨j, ha⟩ := ha
        walk_at "rg"
        exact stay _ _ fun _ _ e => e
      | imp m =>
        obtain ⟨b, j, ha, _⟩ := ha
        walk_at "rg"
        exact stay _ _ fun _ _ e => e
      | tell n =>
        obtain ⟨b, j, ha, _⟩ := ha
        walk_at "rg"
        exact stay _ _ fun _ _ e => e
      | star m =>
        obtain ⟨j, ha⟩ := ha
        obtain ⟨m2, hm2, rfl⟩ := star_of hG (hlt k hk) (List.mem_of_getElem? hit) rfl
        rw [S_nmL] at ha
        walk_at "rg"
        refine ⟨H0, g, dx, dT, dI, lO, ls, lf, e, s, o, seen', m2, rfl, hA, hcl, hs3, hls0, hlf0, hne, hl3, hf3, hcl k hk m2 hm2, hsub3, by omega, hb3, fun H4 seen4 s4 l4 f4 sub4 c4 b4 => ?_⟩
        walk_at "rg"
        exact ⟨seen4, _, rfl, s4, l4, f4, sub4, Nat.le_trans c4 hc3, b4⟩
      | frm m =>
        obtain ⟨b, j, ha, hb⟩ := ha
        walk_at "rg"
        refine rd_lcT0 (SqT.of hb) fun D hD => ?_
        walk_at "rg"
        have s4 := Same.upd (o := .lst []) hD
        refine rd_extend (s4 _ _ hf3) upd_same (Nat.zero_le _) ?_
        have hfl : (upd (upd H' D (.lst [])) lf (.lst ([] ++ []))) = upd H' D (.lst []) := by
          funext b
          by_cases c : b = lf
          · rw [c, upd_same, s4 _ _ hf3]
            rfl
          · rw [upd_ne c]
        rw [hfl]
        exact stay _ _ s4
    · rintro σ H' ⟨seen', v, rfl, hs3, hl3, hf3, hsub3, hc3, hb3⟩
      exact q H' seen' hs3 hl3 hf3 hsub3 (by omega) hb3
theorem told_all (T : Tx K mg) (G : Gm) (hG : G.Ok) : ∀ d : Nat, Dok P w K mg base CX0 (d + 1) (He.ma K (He.ga K "Graph") "told_names") ["self", "name", "seen", "found"] (spTold K G d)
  | 0 => by
    refine Dok.mk0 (T.F_Graph_told_names) sc_Graph_told_names rfl (fun _ _ _ _ _ _ us hl => match us, hl with | [_, _, _, _], _ => rfl) (fun vs H Q E h => ?_) (fun cdv A outer s H vs Q E hr h => ?_)
    · obtain ⟨H0, g, dx, dT, dI, lO, ls, lf, e, s, o, seen, k, rfl, _⟩ := h
      rfl
    · obtain ⟨H0, g, dx, dT, dI, lO, ls, lf, e, s, o, seen, k, rfl, hA, hcl, hs, hls0, hlf0, hne, hls, hlf, hk, hsub, hd, _⟩ := h
      exact absurd hd (Nat.not_lt_zero _)
  | d + 1 => ok_Graph_told_names G hG d (told_all T G hG d) T
end
/-- Graph.exports of a module: an empty list -/
def spGExp (K : PySem.W.Frag) (G : Gm) : Sp := fun vs H Q _ => ∃ (g dx dT dI lO : Addr) (e : Str) (s o : List Nat) (k : Nat), vs = [.ref g, .str (nm k)] ∧ GrAt K G H g dx dT dI lO e s o ∧ Closed G s ∧ k ∈ s ∧ ∀ H' p, Same H H' → H p = none → H' p = some (.lst []) → Q (.ref p) H'
section
variable {P : Program} {w : World} {K : PySem.W.Frag} {mg : Str → Option Value} {base : Heap}
theorem sc_Graph_exports : FnScope ["self", "name", "found", "one"] ["self", "name"] (defScope s_Graph_exports) := ⟨rfl, rfl, rfl, by decide +kernel, rfl, by decide +kernel, by decide +kernel⟩
theorem ok_Graph_exports (G : Gm) (hG : G.Ok) (T : Tx K mg) : Dok P w K mg base CX0 43 (He.ma K (He.ga K "Graph") "exports") ["self", "name"] (spGExp K G) := by
  refine Dok.mk0 (T.F_Graph_exports) sc_Graph_exports rfl (fun _ _ _ _ _ _ us hl => match us, hl with | [_, _], _ => rfl) (fun vs H Q E h => ?_) (fun cdv A outer s H vs Q E hr h => ?_)
  · obtain ⟨g, dx, dT, dI, lO, e, s, o, k, rfl, _⟩ := h; rfl
  · obtain ⟨g, dx, dT, dI, lO, e, s, o, k, rfl, hA, hcl, hk, q⟩ := h
    obtain ⟨cG, n1, n2, n3, n4⟩ := T.graph
    have ob := hA.ob
    refine ⟨_, (pss_cons (ps_set (i := 2) sc_Graph_exports.nd rfl (Or.inl rfl) (pe_lst pa_nil))
        (pss_cons (ps_expr (pm (told_all T G hG 41) T.cl_Graph T.me_Graph_told_names hr (pv 0) (pa_cons (pv 1) (pa_cons (pe_lst pa_nil) (pa_cons (pv 2) pa_nil)))))
        (pss_one (ps_ret (pe_lc (own := [("one", 3)]) (g := gName 3) rfl sc_Graph_exports.nd (pi_list (pe_callB (cr_sortedT rfl) (by rfl) T.n_sorted (by decide +kernel) (pa_cons (pe_callTy (cr_setOfT rfl hr.units) (by rfl) T.n_set (by decide +kernel) (pa_cons (pv 2) pa_nil)) pa_nil))) (blkOk_by (own := [("one", 3)]) (N := ["self", "name", "found", "one"]) (sc := defScope s_Graph_exports) (by decide +kernel)) (fun _ _ _ _ _ => (pg_name (i := 3) sc_Graph_exports.nd rfl (Or.inl rfl))) (fun _ _ _ _ _ => (pts_one pt_never)) (fun _ _ _ _ _ => (pv 3))))))), ?_⟩
    walk_at "sg"
    intro lf hlf
    have s1 := Same.upd (o := .lst []) hlf
    have f1 : (upd H lf (.lst [])) lf = some (.lst []) := upd_same
    generalize upd H lf (.lst []) = H1 at s1 f1 ⊢
    have ob1 := s1 _ _ ob
    walk_at "rg"
    intro ls hls
    have s2 := Same.upd (o := .lst []) hls
    have l2 : (upd H1 ls (.lst [])) ls = some (.lst []) := upd_same
    have hne : ls ≠ lf := fun z => by rw [z, f1] at hls; cases hls
    generalize upd H1 ls (.lst []) = H2 at s2 l2 ⊢
    have hls0 : H ls = none := same_none s1 hls
    walk_at "rg"
    have hl40 : left s [] ≤ 40 := Nat.le_trans (List.length_filter_le _ _) hA.ln.2
    refine ⟨H, g, dx, dT, dI, lO, ls, lf, e, s, o, [], k, rfl, hA, hcl, s1.trans s2, hls0, hlf, hne, l2, s2 _ _ f1, hk, fun x hx => absurd hx List.not_mem_nil, by omega, by show 0 + _ ≤ 100; omega, fun H3 seen3 s3 l3 f3 _ _ _ => ?_⟩
    walk_at "rg"
    refine ⟨lf, [], rfl, SqL.of f3, fun p hp => absurd hp List.not_mem_nil, (by decide), fun a L ha hL1 hL2 => ?_⟩
    have hL : L = [] := by
      cases L with
      | nil => rfl
      | cons x r => exact absurd (hL1 x List.mem_cons_self) List.not_mem_nil
    subst hL
    walk_at "rg"
    refine ⟨a, [], 1, 1, rfl, upd_same, fun p hp => absurd hp List.not_mem_nil, Nat.le_refl _, fun p hp => absurd hp List.not_mem_nil, fun L' p hpm _ _ _ hp => ?_⟩
    have hL' : L' = [] := hpm.eq_nil
    subst hL'
    have s4 := Same.upd (o := SetTO P w a []) ha
    have s5 := Same.upd (o := .lst []) hp
    have p5 : (upd (upd H3 a (SetTO P w a [])) p (.lst [])) p = some (.lst []) := upd_same
    refine rd_itL (xs := []) upd_same ?_
    refine rd_lcL (xs := []) (H0 := upd (upd H3 a (SetTO P w a [])) p (.lst [])) p5 (fun _ => []) rfl (fun _ => Nat.zero_le _) (fun i x H Pn P0 hi => by cases hi) (fun D H' hD s6 hF => ?_)
    have s0 : Same H (upd (upd H3 a (SetTO P w a [])) p (.lst [])) := (s3.trans s4).trans s5
    exact q H' D (s0.trans s6) (same_none s0 hD) hF
end
end K5
set_option maxHeartbeats 4000000




namespace K5
open PySem PySem.Spec PyProof.Rows L2
/-! the checker -/
def ckF (g : Addr) (m : Str) (l : V) : List (Str × V) := [("graph", .ref g), ("module", .str m), ("scopes", l)]
def CkAt (K : PySem.W.Frag) (H : Hp) (c dx g : Addr) (m : Str) (l : V) : Prop := H c = some (.ins (cChecker K) dx (ckF g m l))
def spaceOf : Itm → List (List Nat)
  | .space _ s => [s]
  | _ => []
def spacesOf (its : List Itm) : List (List Nat) := its.flatMap spaceOf
def spCkInit (K : PySem.W.Frag) : Sp := fun vs H Q _ => ∃ (c dx g : Addr) (m : Str), vs = [.ref c, .ref g, .str m] ∧ H c = some (.ins (cChecker K) dx []) ∧ ∀ H' l, Kp c H H' → CkAt K H' c dx g m l → Q .non H'
def spDeclare (K : PySem.W.Frag) : Sp := fun vs H Q _ => ∃ (c dx g q p : Addr) (m z kd : Str) (kvs : List (Key × V)), vs = [.ref c, .str z, .str kd] ∧ CkAt K H c dx g m (.ref q) ∧ H q = some (.lst [.ref p]) ∧ H p = some (.dK kvs) ∧ valV kvs (.inr z) = none ∧ kvs.length ≤ 100 ∧
  Q .non (upd H p (.dK (kvs ++ [(.inr z, .str kd)])))
def spCkItems (K : PySem.W.Frag) (G : Gm) (top : Bool) : Sp := fun vs H Q _ => ∃ (c dx g dxg dT dI lO : Addr) (e : Str) (s o : List Nat) (k : Nat) (l : V), vs = [.ref c] ∧ CkAt K H c dx g (nm k) l ∧ GrAt K G H g dxg dT dI lO e s o ∧ k ∈ s ∧ (top = true → (spacesOf (G.its k)).Nodup) ∧
  ∀ H' l', Kp c H H' → CkAt K H' c dx g (nm k) l' → Q .non H'
def spCkStmt (K : PySem.W.Frag) : Sp := fun vs H Q _ => ∃ (c dx g a : Addr) (m : Str) (l : V) (it : Itm), vs = [.ref c, .ref a] ∧ CkAt K H c dx g m l ∧ ItemAt H a it ∧ ∀ H', Same H H' → Q .non H'
def spCkExpr (K : PySem.W.Frag) : Sp := fun vs H Q _ => ∃ (c a : Addr) (n : Int), vs = [.ref c, .ref a] ∧ H a = some (.tup [.str "int", .int n]) ∧ ∀ H', Same H H' → Q .non H'
theorem rd_notinU {K : PySem.W.Frag} {H : Hp} {Q : VK} {x : V} {p : Addr} {xs : List V} (hx : flatV x = true) (hs : xs.all flatV = true) (q : Q (.bl (!inV x xs)) (upd H p (.tup xs))) : rIn K true x (.ref p) (upd H p (.tup xs)) Q := ⟨p, xs, rfl, .inr (SqT.of upd_same), hx, hs, q⟩
theorem items_get {H : Hp} {as : List Addr} {its : List Itm} {i : Nat} {x : V} (h : ItemsAs H as its) (hi : (as.map V.ref)[i]? = some x) : ∃ a it, x = .ref a ∧ its[i]? = some it ∧ ItemAt H a it := by
  rw [List.getElem?_map] at hi
  cases z : as[i]? with
  | none => rw [z] at hi; cases hi
  | some a =>
    rw [z] at hi
    have hlt : i < its.length := by
      rw [← h.1]
      exact (List.getElem?_eq_some_iff.mp z).1
    obtain ⟨b, hb, hbi⟩ := h.2 i _ (List.getElem?_eq_getElem hlt)
    rw [z] at hb
    cases hb
    exact ⟨a, _, (Option.some.inj hi).symm, List.getElem?_eq_getElem hlt, hbi⟩
section
variable {P : Program} {w : World} {K : PySem.W.Frag} {mg : Str → Option Value} {base : Heap}
theorem sc_Checker_init : FnScope ["self", "graph", "module"] ["self", "graph", "module"] (defScope s_Checker_init) := ⟨rfl, rfl, rfl, by decide +kernel, rfl, by decide +kernel, by decide +kernel⟩
theorem ok_Checker_init (T : Tx K mg) : Dok P w K mg base CX0 1 (He.ma K (He.ga K "Checker") "__init__") ["self", "graph", "module"] (spCkInit K) := by
  refine Dok.mk0 (T.F_Checker_init) sc_Checker_init rfl (fun _ _ _ _ _ _ us hl => match us, hl with | [_, _, _], _ => rfl) (fun vs H Q E h => ?_) (fun cdv A outer s H vs Q E hr h => ?_)
  · obtain ⟨c, dx, g, m, rfl, _⟩ := h; rfl
  · obtain ⟨c, dx, g, m, rfl, hc, q⟩ := h
    obtain ⟨cC, n1, n2, n3⟩ := T.checker
    refine ⟨_, (pss_cons (ps_fld (pv 0) (pv 1) rfl)
        (pss_cons (ps_fld (pv 0) (pv 2) rfl)
        (pss_one (ps_fld (pv 0) (pe_lst pa_nil) rfl)))), ?_⟩
    walk_at "sg"
    intro l hl
    rw [upd_upd] at hl ⊢
    have hcl : l ≠ c := fun z => by rw [z, upd_same] at hl; cases hl
    have hc3 := Same.upd (o := .lst []) hl _ _ upd_same
    walk_at "rg"
    refine q _ (.ref l) (((Kp.set (r := c)).same (Same.upd hl)).trans Kp.set) upd_same
theorem sc_Checker_declare : FnScope ["self", "name", "kind", "scope"] ["self", "name", "kind"] (defScope s_Checker_declare) := ⟨rfl, rfl, rfl, by decide +kernel, rfl, by decide +kernel, by decide +kernel⟩
theorem ok_Checker_declare (T : Tx K mg) : Dok P w K mg base CX0 1 (He.ma K (He.ga K "Checker") "declare") ["self", "name", "kind"] (spDeclare K) := by
  refine Dok.mk0 (T.F_Checker_declare) sc_Checker_declare rfl (fun _ _ _ _ _ _ us hl => match us, hl with | [_, _, _], _ => rfl) (fun vs H Q E h => ?_) (fun cdv A outer s H vs Q E hr h => ?_)
  · obtain ⟨c, dx, g, q, p, m, z, kd, kvs, rfl, _⟩ := h; rfl
  · obtain ⟨c, dx, g, q, p, m, z, kd, kvs, rfl, hc, hq, hp, hv, hl, k⟩ := h
    obtain ⟨cC, n1, n2, n3⟩ := T.checker
    have hc : H c = some (.ins (cChecker K) dx (ckF g m (.ref q))) := hc
    refine ⟨_, (pss_cons (ps_set (i := 3) sc_Checker_declare.nd rfl (Or.inl rfl) (pe_ix ix_list (pe_fld (pv 0) rfl) (pe_op op_sub (pe_callB cl_lenSeq (by rfl) T.n_len (by decide +kernel) (pa_cons (pe_fld (pv 0) rfl) pa_nil)) pe_int) (fun _ _ => rfl)))
        (pss_cons (ps_if (pt_cmp (pc_din (hu_of hr) (pv 1) (pv 3))) pss_never pss_nil)
        (pss_one (ps_dput (hu_of hr) (pv 3) (pv 1) (pv 2) rfl)))), ?_⟩
    walk_at "sg"
    refine rd_ixLi (v := .ref p) 0 hq rfl rfl ?_
    walk_at "rg"
    refine rd_dput hp (by omega) ?_
    rw [putK_new _ hv]
    exact k
theorem sc_Checker_expression : FnScope ["self", "e", "head", "other", "argument"] ["self", "e"] (defScope s_Checker_expression) := ⟨rfl, rfl, rfl, by decide +kernel, rfl, by decide +kernel, by decide +kernel⟩
theorem ok_Checker_expression (T : Tx K mg) : Dok P w K mg base CX0 1 (He.ma K (He.ga K "Checker") "expression") ["self", "e"] (spCkExpr K) := by
  refine Dok.mk0 (T.F_Checker_expression) sc_Checker_expression rfl (fun _ _ _ _ _ _ us hl => match us, hl with | [_, _], _ => rfl) (fun vs H Q E h => ?_) (fun cdv A outer s H vs Q E hr h => ?_)
  · obtain ⟨c, a, n, rfl, _⟩ := h; rfl
  · obtain ⟨c, a, n, rfl, ha, q⟩ := h
    refine ⟨_, (pss_cons (ps_set (i := 2) sc_Checker_expression.nd rfl (Or.inl rfl) (pe_ix ix_tup (pv 1) pe_int (fun _ _ => rfl)))
        (pss_one (ps_if (pt_cmpR op_eq (pv 2) pe_str (nomark _)) pss_never (pss_one (ps_if (pt_cmpR op_eq (pv 2) pe_str (nomark _)) pss_never (pss_one (ps_if (pt_cmpR op_eq (pv 2) pe_str (nomark _)) pss_never (pss_one (ps_if (pt_cmpR op_eq (pv 2) pe_str (nomark _)) pss_never (pss_one (ps_if (PW.pt (pw_or (pt_cmpR op_eq (pv 2) pe_str (nomark _)) (pw_or1 (pt_cmpR op_eq (pv 2) pe_str (nomark _))))) pss_never (pss_one (ps_if (pt_cmpR op_notIn_seq (pv 2) (pe_tup (pa_cons pe_str (pa_cons pe_str (pa_cons pe_str pa_nil)))) (by rfl)) pss_never pss_nil))))))))))))), ?_⟩
    walk_at "sg"
    intro p hp
    refine rd_notinU rfl rfl ?_
    walk_at "ri"
    exact q _ (Same.upd hp)
end
theorem S_inj {a b : List Nat} (h : S a = S b) : a = b := by
  have e : (S a).cps.toList = (S b).cps.toList := by rw [h]
  exact e
def spK (l : List (List Nat)) : List (Key × V) := l.map fun s => (.inr (S s), .str "space")
theorem spK_none {z : List Nat} : ∀ {l : List (List Nat)}, z ∉ l → valV (spK l) (.inr (S z)) = none
  | [], _ => rfl
  | s :: l, h => by
    show valV ((Sum.inr (S s), V.str "space") :: spK l) (.inr (S z)) = none
    rw [valV_neg (fun e => h (by rw [S_inj (Sum.inr.inj e)]; exact List.mem_cons_self))]
    exact spK_none fun q => h (List.mem_cons_of_mem _ q)
theorem rd_ixTi {K : PySem.W.Frag} {H : Hp} {Q : VK} {p : Addr} {xs : List V} {v : V} {i : Int} (j : Nat) (h : H p = some (.tup xs)) (ei : i = (j : Int)) (e : xs[j]? = some v) (q : Q v H) : rIxT K (.ref p) (.int i) H Q := by
  rw [ei]
  exact rd_ixT h e q
/-- another instance changes -/
theorem GrAt.setI {K : PySem.W.Frag} {G : Gm} {H : Hp} {g dx dT dI lO c C dc : Addr} {fs : List (Str × V)} {ob : HO} {e : Str} {s o : List Nat} (h : GrAt K G H g dx dT dI lO e s o) (hc : H c = some (.ins C dc fs)) (hne : g ≠ c) : GrAt K G (L2.upd H c ob) g dx dT dI lO e s o := by
  have n : ∀ {b : Addr} {u : HO}, H b = some u → (∀ x y z, u ≠ .ins x y z) → (L2.upd H c ob) b = some u := fun {b u} q nq => by
    rw [upd_ne (fun z => by rw [z, hc] at q; exact nq _ _ _ (Option.some.inj q).symm)]
    exact q
  refine ⟨by rw [upd_ne hne]; exact h.ob, n h.tx (fun _ _ _ z => by cases z), ?_, n h.od (fun _ _ _ z => by cases z), h.lt, h.ne, h.ln⟩
  obtain ⟨al, h1, h2⟩ := h.it
  refine ⟨al, n h1 (fun _ _ _ z => by cases z), fun k hk => ?_⟩
  obtain ⟨a1, as, a2, a3⟩ := h2 k hk
  exact ⟨a1, as, n a2 (fun _ _ _ z => by cases z), a3.kt (KT.set fun xs z => by rw [hc] at z; cases z)⟩
/-- a walk over an empty tuple -/
theorem rd_forT0 {K : PySem.W.Frag} {b : Addr} {g : TG} {tb : TS} {D : Ends} {σ : L2.St} {H : Hp} (h : SqT K H b []) (q : D.nx σ H) : ∃ c, V.ref b = .ref c ∧ (∃ xs, SqT K H c xs) ∧ ∃ W : Nat → Nat → L2.St → Hp → Prop, (∃ m, W 0 m σ H) ∧ ∀ i m σ H, W i m σ H →
      ((Itt K c).stop i H ∧ D.nx σ H) ∨ ((Itt K c).go i H ∧ ∃ N : L2.St → Hp → Prop, (∀ σ' H', N σ' H' → ∃ m', m' < m ∧ W (i + 1) m' σ' H') ∧ ∀ x H', (Itt K c).yld i H x H' → g x σ H' fun σ2 H2 => tb { D with nx := N, ct := N, bk := D.nx } σ2 H2) :=
  ⟨b, rfl, ⟨_, h⟩, for_tup (K := K) (a := b) (xs := []) (fun i σ' H' => σ' = σ ∧ H' = H) ⟨rfl, rfl⟩ (fun i σ' H' _ e => e.2 ▸ h) (fun i x σ' H' hi _ => by cases hi) (fun σ' H' e => by rw [e.1, e.2]; exact q)⟩
section
variable {P : Program} {w : World} {K : PySem.W.Frag} {mg : Str → Option Value} {base : Heap}
theorem sc_Checker_top : FnScope ["self", "item", "other", "local"] ["self"] (defScope s_Checker_top) := ⟨rfl, rfl, rfl, by decide +kernel, rfl, by decide +kernel, by decide +kernel⟩
theorem ok_Checker_top (G : Gm) (hG : G.Ok) (T : Tx K mg) : Dok P w K mg base CX0 2 (He.ma K (He.ga K "Checker") "top") ["self"] (spCkItems K G true) := by
  refine Dok.mk0 (T.F_Checker_top) sc_Checker_top rfl (fun _ _ _ _ _ _ us hl => match us, hl with | [_], _ => rfl) (fun vs H Q E h => ?_) (fun cdv A outer s H vs Q E hr h => ?_)
  · obtain ⟨c, dx, g, dxg, dT, dI, lO, e, s, o, k, l, rfl, _⟩ := h; rfl
  · obtain ⟨c, dx, g, dxg, dT, dI, lO, e, s, o, k, l, rfl, hc, hA, hk, hsp, q⟩ := h
    obtain ⟨cC, n1, n2, n3⟩ := T.checker
    obtain ⟨cG, m1, m2, m3, m4⟩ := T.graph
    have hc : H c = some (.ins (cChecker K) dx (ckF g (nm k) l)) := hc
    have hgc : g ≠ c := fun z => by
      have ob := hA.ob
      rw [z, hc] at ob
      have z2 := HO.ins.inj (Option.some.inj ob)
      have z3 := congrArg List.length z2.2.2
      cases z3
    refine ⟨_, (pss_cons (ps_fld (pv 0) (pe_lst (pa_cons pe_dnewK pa_nil)) rfl)
        (pss_one (ps_for PassesOwn.never rfl (pi_list (pm (ok_Graph_module_items (K := K) G hG T) T.cl_Graph T.me_Graph_module_items hr (pe_fld (pv 0) rfl) (pa_cons (pe_fld (pv 0) rfl) pa_nil))) (pg_name (i := 1) sc_Checker_top.nd rfl (Or.inl rfl)) (pss_one (ps_if (PW.pt (pw_or (pt_cmpR op_eq (pe_ix ix_tup (pv 1) pe_int (fun _ _ => rfl)) pe_str (nomark _)) (pw_or1 (pt_cmpR op_eq (pe_ix ix_tup (pv 1) pe_int (fun _ _ => rfl)) pe_str (nomark _))))) pss_never (pss_one (ps_if (pt_cmpR op_eq (pe_ix ix_tup (pv 1) pe_int (fun _ _ => rfl)) pe_str (nomark _)) (pss_one (ps_for PassesOwn.never rfl (pi_tup (pe_ix ix_tup (pv 1) pe_int (fun _ _ => rfl))) (pg_tup rfl (pgs_cons (pg_name (i := 2) sc_Checker_top.nd rfl (Or.inl rfl)) (pgs_cons (pg_name (i := 3) sc_Checker_top.nd rfl (Or.inl rfl)) pgs_nil))) pss_never)) (pss_one (ps_if (pt_cmpR op_eq (pe_ix ix_tup (pv 1) pe_int (fun _ _ => rfl)) pe_str (nomark _)) (pss_one (ps_expr (pm (ok_Checker_declare (K := K) T) T.cl_Checker T.me_Checker_declare hr (pv 0) (pa_cons (pe_ix ix_tup (pv 1) pe_int (fun _ _ => rfl)) (pa_cons pe_str pa_nil))))) pss_nil))))))))), ?_⟩
    walk_at "sg"
    intro p hp
    walk_at "rg"
    intro ql hql
    have s2 := (Same.upd (o := .dK []) hp).trans (Same.upd (o := .lst [.ref p]) hql)
    have q2 : (upd (upd H p (.dK [])) ql (.lst [.ref p])) ql = some (.lst [.ref p]) := upd_same
    have p2 : (upd (upd H p (.dK [])) ql (.lst [.ref p])) p = some (.dK []) := Same.upd hql _ _ upd_same
    have hp0 := hp
    have hq0 : H ql = none := same_none (Same.upd (o := .dK []) hp) hql
    generalize upd (upd H p (.dK [])) ql (.lst [.ref p]) = H2 at s2 q2 p2 ⊢
    have hA2 := hA.same s2
    have hc2 := s2 _ _ hc
    walk_at "rg"
    have hA3 := hA2.setI (ob := .ins (cChecker K) dx (putF "scopes" (.ref ql) (ckF g (nm k) l))) hc2 hgc
    have c3 : (upd H2 c (.ins (cChecker K) dx (putF "scopes" (.ref ql) (ckF g (nm k) l)))) c = some (.ins (cChecker K) dx (ckF g (nm k) (.ref ql))) := upd_same
    have q3 : (upd H2 c (.ins (cChecker K) dx (putF "scopes" (.ref ql) (ckF g (nm k) l)))) ql = some (.lst [.ref p]) := by rw [upd_ne (fun z => by rw [z, hc2] at q2; cases q2)]; exact q2
    have p3 : (upd H2 c (.ins (cChecker K) dx (putF "scopes" (.ref ql) (ckF g (nm k) l)))) p = some (.dK []) := by rw [upd_ne (fun z => by rw [z, hc2] at p2; cases p2)]; exact p2
    have k3 : Kp c H (upd H2 c (.ins (cChecker K) dx (putF "scopes" (.ref ql) (ckF g (nm k) l)))) := (Kp.of s2).trans Kp.set
    generalize upd H2 c (.ins (cChecker K) dx (putF "scopes" (.ref ql) (ckF g (nm k) l))) = H3 at hA3 c3 q3 p3 k3 ⊢
    have gob := hA3.ob
    walk_at "rg"
    refine ⟨g, dxg, dT, dI, lO, e, s, o, k, rfl, hA3, hk, fun li as hli hIt => ?_⟩
    have s4 := Same.upd (o := .lst (as.map V.ref)) hli
    have l4 : (upd H3 li (.lst (as.map V.ref))) li = some (.lst (as.map V.ref)) := upd_same
    have hlp : li ≠ p := fun z => by rw [z, p3] at hli; cases hli
    generalize upd H3 li (.lst (as.map V.ref)) = H4 at s4 l4 ⊢
    have c4 := s4 _ _ c3
    have q4 := s4 _ _ q3
    have p4 := s4 _ _ p3
    have k4 := k3.same s4
    have hIt4 := hIt.kt (KT.of s4)
    have hln : (G.its k).length ≤ 100 := (hG.len k (hA.lt k hk)).2
    walk_at "rg"
    have cp : c ≠ p := fun z => by rw [z, p4] at c4; cases c4
    have qp : ql ≠ p := fun z => by rw [z, p4] at q4; cases q4
    refine for_list (K := K) (a := li) (xs := as.map V.ref) (fun i σ H' => ∃ v : Option V, σ = [some (.ref c), v, none, none] ∧ Kp p H4 H' ∧ H' p = some (.dK (spK (spacesOf ((G.its k).take i)))))
      ⟨none, rfl, Kp.refl _ _, p4⟩ (fun i σ H' _ ⟨_, _, z, _⟩ => SqL.of (z _ _ l4 hlp)) ?_ ?_
    · rintro i x σ H' hi ⟨v, rfl, k5, p5⟩
      obtain ⟨a, it, rfl, hit, ha4⟩ := items_get hIt4 hi
      have ha : ItemAt H' a it := ha4.mono fun b xs z => k5 _ _ z fun e => by rw [e, p4] at z; cases z
      have same : spaceOf it = [] → spK (spacesOf ((G.its k).take (i + 1))) = spK (spacesOf ((G.its k).take i)) := fun e => by
        rw [take_succ hit]
        unfold spacesOf
        rw [List.flatMap_append]
        show spK (_ ++ (spaceOf it ++ [])) = _
        rw [e, List.append_nil, List.append_nil]
      have nx : ∀ v', spaceOf it = [] → ∃ v : Option V, [some (.ref c), some v', none, none] = [some (.ref c), v, none, none] ∧ Kp p H4 H' ∧ H' p = some (.dK (spK (spacesOf ((G.its k).take (i + 1))))) := fun v' e => ⟨_, rfl, k5, by rw [same e]; exact p5⟩
      cases it with
      | need m =>
        obtain ⟨j, ha⟩ := ha
        walk_at "rg"
        exact nx _ rfl
      | star m =>
        obtain ⟨j, ha⟩ := ha
        walk_at "rg"
        exact nx _ rfl
      | frm m =>
        obtain ⟨b, j, ha, hb⟩ := ha
        walk_at "rg"
        exact nx _ rfl
      | tell n =>
        obtain ⟨b, j, ha, hb⟩ := ha
        walk_at "rg"
        exact nx _ rfl
      | imp m =>
        obtain ⟨b, j, ha, hb⟩ := ha
        walk_at "rg"
        refine rd_forT0 (SqT.of hb) ?_
        exact nx _ rfl
      | space m z =>
        obtain ⟨j, ha⟩ := ha
        have hzn : z ∉ spacesOf ((G.its k).take i) := by
          have hnd := hsp rfl
          have e1 : G.its k = (G.its k).take i ++ (.space m z :: (G.its k).drop (i + 1)) := by
            have h1 := List.drop_eq_getElem_cons (List.getElem?_eq_some_iff.mp hit).1
            rw [(List.getElem?_eq_some_iff.mp hit).2] at h1
            rw [← h1, List.take_append_drop]
          rw [e1] at hnd
          unfold spacesOf at hnd ⊢
          rw [List.flatMap_append] at hnd
          intro hz
          exact (List.nodup_append.mp hnd).2.2 z hz z (List.mem_append_left _ (List.mem_singleton.mpr rfl)) rfl
        have hlk : (spK (spacesOf ((G.its k).take i))).length ≤ 100 := by
          unfold spK
          rw [List.length_map]
          have : ∀ l : List Itm, (spacesOf l).length ≤ l.length := by
            intro l
            induction l with
            | nil => exact Nat.le_refl _
            | cons x l ih =>
              show (spaceOf x ++ spacesOf l).length ≤ l.length + 1
              rw [List.length_append]
              have : (spaceOf x).length ≤ 1 := by cases x <;> exact Nat.le_of_ble_eq_true rfl
              omega
          have h2 := this ((G.its k).take i)
          rw [List.length_take] at h2
          omega
        have c5 := k5 _ _ c4 cp
        walk_at "rg"
        refine ⟨c, dx, g, ql, p, nm k, S z, "space", _, rfl, c5, k5 _ _ q4 qp, p5, spK_none hzn, hlk, ?_⟩
        walk_at "rg"
        refine ⟨_, rfl, k5.trans Kp.set, ?_⟩
        rw [upd_same, take_succ hit]
        unfold spacesOf spK
        rw [List.flatMap_append, List.map_append]
        rfl
    · rintro σ H' ⟨v, rfl, k5, p5⟩
      exact q H' (.ref ql) (fun b u e n => k5 _ _ (k4 b u e n) (fun z => by rw [z, hp0] at e; cases e)) (k5 _ _ c4 cp)
theorem sc_Checker_exports : FnScope ["self", "told", "item", "local", "other", "pair"] ["self"] (defScope s_Checker_exports) := ⟨rfl, rfl, rfl, by decide +kernel, rfl, by decide +kernel, by decide +kernel⟩
theorem ok_Checker_exports (G : Gm) (hG : G.Ok) (T : Tx K mg) : Dok P w K mg base CX0 2 (He.ma K (He.ga K "Checker") "exports") ["self"] (spCkItems K G false) := by
  refine Dok.mk0 (T.F_Checker_exports) sc_Checker_exports rfl (fun _ _ _ _ _ _ us hl => match us, hl with | [_], _ => rfl) (fun vs H Q E h => ?_) (fun cdv A outer s H vs Q E hr h => ?_)
  · obtain ⟨c, dx, g, dxg, dT, dI, lO, e, s, o, k, l, rfl, _⟩ := h; rfl
  · obtain ⟨c, dx, g, dxg, dT, dI, lO, e, s, o, k, l, rfl, hc, hA, hk, hsp, q⟩ := h
    obtain ⟨cC, n1, n2, n3⟩ := T.checker
    obtain ⟨cG, m1, m2, m3, m4⟩ := T.graph
    have hc : H c = some (.ins (cChecker K) dx (ckF g (nm k) l)) := hc
    refine ⟨_, (pss_cons (ps_set (i := 1) sc_Checker_exports.nd rfl (Or.inl rfl) (pe_lst pa_nil))
        (pss_one (ps_for PassesOwn.never rfl (pi_list (pm (ok_Graph_module_items (K := K) G hG T) T.cl_Graph T.me_Graph_module_items hr (pe_fld (pv 0) rfl) (pa_cons (pe_fld (pv 0) rfl) pa_nil))) (pg_name (i := 2) sc_Checker_exports.nd rfl (Or.inl rfl)) (pss_cons (ps_if (pt_cmpR op_eq (pe_ix ix_tup (pv 2) pe_int (fun _ _ => rfl)) pe_str (nomark _)) pss_never pss_nil)
        (pss_one (ps_if (PW.pt (pw_or (pt_cmpR op_eq (pe_ix ix_tup (pv 2) pe_int (fun _ _ => rfl)) pe_str (nomark _)) (pw_or1 (pt_cmpR op_eq (pe_ix ix_tup (pv 2) pe_int (fun _ _ => rfl)) pe_str (nomark _))))) (pss_one (ps_for PassesOwn.never rfl (pi_tup (pe_ix ix_tup (pv 2) (pe_op op_sub (pe_callB cl_lenSeq (by rfl) T.n_len (by decide +kernel) (pa_cons (pv 2) pa_nil)) pe_int) (fun _ _ => rfl))) (pg_name (i := 5) sc_Checker_exports.nd rfl (Or.inl rfl)) pss_never)) pss_nil)))))), ?_⟩
    walk_at "sg"
    intro p hp
    have s2 := Same.upd (o := .lst []) hp
    generalize upd H p (.lst []) = H2 at s2 ⊢
    have hA2 := hA.same s2
    have hc2 := s2 _ _ hc
    have gob := hA2.ob
    walk_at "rg"
    refine ⟨g, dxg, dT, dI, lO, e, s, o, k, rfl, hA2, hk, fun li as hli hIt => ?_⟩
    have s4 := Same.upd (o := .lst (as.map V.ref)) hli
    have l4 : (upd H2 li (.lst (as.map V.ref))) li = some (.lst (as.map V.ref)) := upd_same
    generalize upd H2 li (.lst (as.map V.ref)) = H4 at s4 l4 ⊢
    have hIt4 := hIt.kt (KT.of s4)
    walk_at "rg"
    refine for_list (K := K) (a := li) (xs := as.map V.ref) (fun i σ H' => ∃ v : Option V, σ = [some (.ref c), some (.ref p), v, none, none, none] ∧ Same H4 H') ⟨none, rfl, fun _ _ e => e⟩ (fun i σ H' _ ⟨_, _, z⟩ => SqL.of (z _ _ l4)) ?_ ?_
    · rintro i x σ H' hi ⟨v, rfl, k5⟩
      obtain ⟨a, it, rfl, hit, ha4⟩ := items_get hIt4 hi
      have ha : ItemAt H' a it := ha4.mono (KT.of k5)
      cases it with
      | need m =>
        obtain ⟨j, ha⟩ := ha
        walk_at "rg"
        exact ⟨_, rfl, k5⟩
      | star m =>
        obtain ⟨j, ha⟩ := ha
        walk_at "rg"
        exact ⟨_, rfl, k5⟩
      | space m z =>
        obtain ⟨j, ha⟩ := ha
        walk_at "rg"
        exact ⟨_, rfl, k5⟩
      | imp m =>
        obtain ⟨b, j, ha, hb⟩ := ha
        walk_at "rg"
        exact ⟨_, rfl, k5⟩
      | tell n =>
        obtain ⟨b, j, ha, hb⟩ := ha
        walk_at "rg"
        exact ⟨_, rfl, k5⟩
      | frm m =>
        obtain ⟨b, j, ha, hb⟩ := ha
        walk_at "rg"
        refine rd_ixTi (v := .ref b) 2 ha rfl rfl ?_
        refine rd_forT0 (SqT.of hb) ?_
        exact ⟨_, rfl, k5⟩
    · rintro σ H' ⟨v, rfl, k5⟩
      have s0 := (s2.trans s4).trans k5
      exact q H' l (Kp.of s0) (s0 _ _ hc)
theorem sc_Checker_imports : FnScope ["self", "item", "other", "local"] ["self"] (defScope s_Checker_imports) := ⟨rfl, rfl, rfl, by decide +kernel, rfl, by decide +kernel, by decide +kernel⟩
theorem ok_Checker_imports (G : Gm) (hG : G.Ok) (T : Tx K mg) : Dok P w K mg base CX0 2 (He.ma K (He.ga K "Checker") "imports") ["self"] (spCkItems K G false) := by
  refine Dok.mk0 (T.F_Checker_imports) sc_Checker_imports rfl (fun _ _ _ _ _ _ us hl => match us, hl with | [_], _ => rfl) (fun vs H Q E h => ?_) (fun cdv A outer s H vs Q E hr h => ?_)
  · obtain ⟨c, dx, g, dxg, dT, dI, lO, e, s, o, k, l, rfl, _⟩ := h; rfl
  · obtain ⟨c, dx, g, dxg, dT, dI, lO, e, s, o, k, l, rfl, hc, hA, hk, hsp, q⟩ := h
    obtain ⟨cC, n1, n2, n3⟩ := T.checker
    obtain ⟨cG, m1, m2, m3, m4⟩ := T.graph
    have hc : H c = some (.ins (cChecker K) dx (ckF g (nm k) l)) := hc
    have gob := hA.ob
    refine ⟨_, (pss_one (ps_for PassesOwn.never rfl (pi_list (pm (ok_Graph_module_items (K := K) G hG T) T.cl_Graph T.me_Graph_module_items hr (pe_fld (pv 0) rfl) (pa_cons (pe_fld (pv 0) rfl) pa_nil))) (pg_name (i := 1) sc_Checker_imports.nd rfl (Or.inl rfl)) (pss_one (ps_if (PW.pt (pw_or (pt_cmpR op_eq (pe_ix ix_tup (pv 1) pe_int (fun _ _ => rfl)) pe_str (nomark _)) (pw_or1 (pt_cmpR op_eq (pe_ix ix_tup (pv 1) pe_int (fun _ _ => rfl)) pe_str (nomark _))))) (pss_one (ps_for PassesOwn.never rfl (pi_tup (pe_ix ix_tup (pv 1) pe_int (fun _ _ => rfl))) (pg_tup rfl (pgs_cons (pg_name (i := 2) sc_Checker_imports.nd rfl (Or.inl rfl)) (pgs_cons (pg_name (i := 3) sc_Checker_imports.nd rfl (Or.inl rfl)) pgs_nil))) pss_never)) pss_nil)))), ?_⟩
    walk_at "sg"
    refine ⟨g, dxg, dT, dI, lO, e, s, o, k, rfl, hA, hk, fun li as hli hIt => ?_⟩
    have s4 := Same.upd (o := .lst (as.map V.ref)) hli
    have l4 : (upd H li (.lst (as.map V.ref))) li = some (.lst (as.map V.ref)) := upd_same
    generalize upd H li (.lst (as.map V.ref)) = H4 at s4 l4 ⊢
    have hIt4 := hIt.kt (KT.of s4)
    walk_at "rg"
    refine for_list (K := K) (a := li) (xs := as.map V.ref) (fun i σ H' => ∃ v : Option V, σ = [some (.ref c), v, none, none] ∧ Same H4 H') ⟨none, rfl, fun _ _ e => e⟩ (fun i σ H' _ ⟨_, _, z⟩ => SqL.of (z _ _ l4)) ?_ ?_
    · rintro i x σ H' hi ⟨v, rfl, k5⟩
      obtain ⟨a, it, rfl, hit, ha4⟩ := items_get hIt4 hi
      have ha : ItemAt H' a it := ha4.mono (KT.of k5)
      cases it with
      | need m =>
        obtain ⟨j, ha⟩ := ha
        walk_at "rg"
        exact ⟨_, rfl, k5⟩
      | star m =>
        obtain ⟨j, ha⟩ := ha
        walk_at "rg"
        exact ⟨_, rfl, k5⟩
      | space m z =>
        obtain ⟨j, ha⟩ := ha
        walk_at "rg"
        exact ⟨_, rfl, k5⟩
      | imp m =>
        obtain ⟨b, j, ha, hb⟩ := ha
        walk_at "rg"
        refine rd_forT0 (SqT.of hb) ?_
        exact ⟨_, rfl, k5⟩
      | tell n =>
        obtain ⟨b, j, ha, hb⟩ := ha
        walk_at "rg"
        exact ⟨_, rfl, k5⟩
      | frm m =>
        obtain ⟨b, j, ha, hb⟩ := ha
        walk_at "rg"
        refine rd_forT0 (SqT.of hb) ?_
        exact ⟨_, rfl, k5⟩
    · rintro σ H' ⟨v, rfl, k5⟩
      have s0 := s4.trans k5
      exact q H' l (Kp.of s0) (s0 _ _ hc)
theorem sc_Checker_statement : FnScope ["self", "statement", "head"] ["self", "statement"] (defScope s_Checker_statement) := ⟨rfl, rfl, rfl, by decide +kernel, rfl, by decide +kernel, by decide +kernel⟩
theorem ok_Checker_statement (T : Tx K mg) : Dok P w K mg base CX0 2 (He.ma K (He.ga K "Checker") "statement") ["self", "statement"] (spCkStmt K) := by
  refine Dok.mk0 (T.F_Checker_statement) sc_Checker_statement rfl (fun _ _ _ _ _ _ us hl => match us, hl with | [_, _], _ => rfl) (fun vs H Q E h => ?_) (fun cdv A outer s H vs Q E hr h => ?_)
  · obtain ⟨c, dx, g, a, m, l, it, rfl, _⟩ := h; rfl
  · obtain ⟨c, dx, g, a, m, l, it, rfl, hc, ha, q⟩ := h
    obtain ⟨cC, n1, n2, n3⟩ := T.checker
    have hc : H c = some (.ins (cChecker K) dx (ckF g m l)) := hc
    refine ⟨_, (pss_cons (ps_set (i := 2) sc_Checker_statement.nd rfl (Or.inl rfl) (pe_ix ix_tup (pv 1) pe_int (fun _ _ => rfl)))
        (pss_one (ps_if (pt_cmpR op_eq (pv 2) pe_str (nomark _)) pss_never (pss_one (ps_if (pt_cmpR op_eq (pv 2) pe_str (nomark _)) pss_never (pss_one (ps_if (pt_cmpR op_eq (pv 2) pe_str (nomark _)) pss_never (pss_one (ps_if (pt_cmpR op_in_seq (pv 2) (pe_tup (pa_cons pe_str (pa_cons pe_str (pa_cons pe_str (pa_cons pe_str pa_nil))))) (by rfl)) (pss_one (ps_expr (pm (ok_Checker_expression (K := K) T) T.cl_Checker T.me_Checker_expression hr (pv 0) (pa_cons (pe_ix ix_tup (pv 1) pe_int (fun _ _ => rfl)) pa_nil)))) (pss_one (ps_if (pt_cmpR op_eq (pv 2) pe_str (nomark _)) pss_never (pss_one (ps_if (pt_cmpR op_eq (pv 2) pe_str (nomark _)) pss_never (pss_one (ps_if (pt_cmpR op_eq (pv 2) pe_str (nomark _)) pss_never (pss_one (ps_if (pt_cmpR op_eq (pv 2) pe_str (nomark _)) pss_never pss_nil))))))))))))))))), ?_⟩
    cases it with
    | tell n =>
      obtain ⟨b, j, ha, hb⟩ := ha
      walk_at "sg"
      intro p hp
      refine rd_inU rfl rfl ?_
      have s2 := Same.upd (o := .tup [.str "do", .str "tell", .str "return", .str "throw"]) hp
      have ha2 := s2 _ _ ha
      have hc2 := s2 _ _ hc
      walk_at "rg"
      exact ⟨c, b, n, rfl, s2 _ _ hb, fun H' s3 => q _ (s2.trans s3)⟩
    | need m =>
      obtain ⟨j, ha⟩ := ha
      walk_at "sg"
      intro p hp
      refine rd_inU rfl rfl ?_
      walk_at "rg"
      exact q _ (Same.upd hp)
    | space m z =>
      obtain ⟨j, ha⟩ := ha
      walk_at "sg"
      intro p hp
      refine rd_inU rfl rfl ?_
      walk_at "rg"
      exact q _ (Same.upd hp)
    | star m =>
      obtain ⟨j, ha⟩ := ha
      walk_at "sg"
      intro p hp
      refine rd_inU rfl rfl ?_
      walk_at "rg"
      exact q _ (Same.upd hp)
    | imp m =>
      obtain ⟨b, j, ha, hb⟩ := ha
      walk_at "sg"
      intro p hp
      refine rd_inU rfl rfl ?_
      walk_at "rg"
      exact q _ (Same.upd hp)
    | frm m =>
      obtain ⟨b, j, ha, hb⟩ := ha
      walk_at "sg"
      intro p hp
      refine rd_inU rfl rfl ?_
      walk_at "rg"
      exact q _ (Same.upd hp)
end
end K5
set_option maxHeartbeats 4000000




namespace K5
open PySem PySem.Spec PyProof.Rows L2
theorem GrAt.kpI {K : PySem.W.Frag} {G : Gm} {H H' : Hp} {g dx dT dI lO c C dc : Addr} {fs : List (Str × V)} {e : Str} {s o : List Nat} (h : GrAt K G H g dx dT dI lO e s o) (hc : H c = some (.ins C dc fs)) (hne : g ≠ c) (k : Kp c H H') : GrAt K G H' g dx dT dI lO e s o := by
  have n : ∀ {b : Addr} {u : HO}, H b = some u → (∀ x y z, u ≠ .ins x y z) → H' b = some u := fun {b u} q nq => k _ _ q fun z => by
    rw [z, hc] at q
    exact nq _ _ _ (Option.some.inj q).symm
  refine ⟨k _ _ h.ob hne, n h.tx (fun _ _ _ z => by cases z), ?_, n h.od (fun _ _ _ z => by cases z), h.lt, h.ne, h.ln⟩
  obtain ⟨al, h1, h2⟩ := h.it
  refine ⟨al, n h1 (fun _ _ _ z => by cases z), fun k hk => ?_⟩
  obtain ⟨a1, as, a2, a3⟩ := h2 k hk
  exact ⟨a1, as, n a2 (fun _ _ _ z => by cases z), a3.kt fun b xs z => n z (fun _ _ _ y => by cases y)⟩
theorem passN {P : Program} {w : World} {X : Cx} (h : X.prog = P ∧ X.w = w) : Passes (L2.CX P w) X E0 := fun _ _ _ _ _ _ _ ⟨_, _, _, _, _, _, _, _, _, _, _, _, z⟩ => z.elim
/-- what is asked of the modules of a whole run -/
structure Gm.Run (G : Gm) (s o : List Nat) : Prop where
  walk : rch G 42 0 [] [] = .ok s o
  pos : 0 < G.n
  cl : Closed G s
  sub : ∀ k ∈ o, k ∈ s
  sp : ∀ k ∈ s, (spacesOf (G.its k)).Nodup
def spChecked (K : PySem.W.Frag) (G : Gm) : Sp := fun vs H Q _ => ∃ (dm : Addr) (s o : List Nat), vs = [.ref dm, .str (nm 0)] ∧ H dm = some (.dK G.kvs) ∧ G.Run s o ∧ ∀ H' g dx dT dI lO, Same H H' → GrAt K G H' g dx dT dI lO (nm 0) s o → Q (.ref g) H'
section
variable {P : Program} {w : World} {K : PySem.W.Frag} {mg : Str → Option Value} {base : Heap}
theorem sc_Checker_whole : FnScope ["self", "item"] ["self"] (defScope s_Checker_whole) := ⟨rfl, rfl, rfl, by decide +kernel, rfl, by decide +kernel, by decide +kernel⟩
theorem ok_Checker_whole (G : Gm) (hG : G.Ok) (T : Tx K mg) : Dok P w K mg base CX0 3 (He.ma K (He.ga K "Checker") "whole") ["self"] (spCkItems K G true) := by
  refine Dok.mk0 (T.F_Checker_whole) sc_Checker_whole rfl (fun _ _ _ _ _ _ us hl => match us, hl with | [_], _ => rfl) (fun vs H Q E h => ?_) (fun cdv A outer s H vs Q E hr h => ?_)
  · obtain ⟨c, dx, g, dxg, dT, dI, lO, e, s, o, k, l, rfl, _⟩ := h; rfl
  · obtain ⟨c, dx, g, dxg, dT, dI, lO, e, s, o, k, l, rfl, hc, hA, hk, hsp, q⟩ := h
    obtain ⟨cC, n1, n2, n3⟩ := T.checker
    obtain ⟨cG, m1, m2, m3, m4⟩ := T.graph
    have hgc : g ≠ c := fun z => by
      have ob := hA.ob
      have hc : H c = some (.ins (cChecker K) dx (ckF g (nm k) l)) := hc
      rw [z, hc] at ob
      have z2 := HO.ins.inj (Option.some.inj ob)
      have z3 := congrArg List.length z2.2.2
      cases z3
    have hc0 : H c = some (.ins (cChecker K) dx (ckF g (nm k) l)) := hc
    refine ⟨_, (pss_cons (ps_expr (pm0 (ok_Checker_top (K := K) G hG T) T.cl_Checker T.me_Checker_top hr (pv 0)))
        (pss_cons (ps_expr (pm0 (ok_Checker_exports (K := K) G hG T) T.cl_Checker T.me_Checker_exports hr (pv 0)))
        (pss_cons (ps_expr (pm0 (ok_Checker_imports (K := K) G hG T) T.cl_Checker T.me_Checker_imports hr (pv 0)))
        (pss_one (ps_for PassesOwn.never rfl (pi_list (pm (ok_Graph_module_items (K := K) G hG T) T.cl_Graph T.me_Graph_module_items hr (pe_fld (pv 0) rfl) (pa_cons (pe_fld (pv 0) rfl) pa_nil))) (pg_name (i := 1) sc_Checker_whole.nd rfl (Or.inl rfl)) (pss_one (ps_expr (pm (ok_Checker_statement (K := K) T) T.cl_Checker T.me_Checker_statement hr (pv 0) (pa_cons (pv 1) pa_nil))))))))), ?_⟩
    walk_at "sg"
    refine ⟨c, dx, g, dxg, dT, dI, lO, e, s, o, k, l, rfl, hc, hA, hk, hsp, fun H1 l1 k1 c1 => ?_⟩
    have A1 := hA.kpI hc0 hgc k1
    have c1' : H1 c = some (.ins (cChecker K) dx (ckF g (nm k) l1)) := c1
    walk_at "rg"
    refine ⟨c, dx, g, dxg, dT, dI, lO, e, s, o, k, l1, rfl, c1, A1, hk, fun z => (by cases z), fun H2 l2 k2 c2 => ?_⟩
    have A2 := A1.kpI c1' hgc k2
    have c2' : H2 c = some (.ins (cChecker K) dx (ckF g (nm k) l2)) := c2
    walk_at "rg"
    refine ⟨c, dx, g, dxg, dT, dI, lO, e, s, o, k, l2, rfl, c2, A2, hk, fun z => (by cases z), fun H3 l3 k3 c3 => ?_⟩
    have A3 := A2.kpI c2' hgc k3
    have c3' : H3 c = some (.ins (cChecker K) dx (ckF g (nm k) l3)) := c3
    have gob := A3.ob
    walk_at "rg"
    refine ⟨g, dxg, dT, dI, lO, e, s, o, k, rfl, A3, hk, fun li as hli hIt => ?_⟩
    have s4 := Same.upd (o := .lst (as.map V.ref)) hli
    have l4 : (upd H3 li (.lst (as.map V.ref))) li = some (.lst (as.map V.ref)) := upd_same
    generalize upd H3 li (.lst (as.map V.ref)) = H4 at s4 l4 ⊢
    have hIt4 := hIt.kt (KT.of s4)
    have c4 := s4 _ _ c3'
    walk_at "rg"
    refine for_list (K := K) (a := li) (xs := as.map V.ref) (fun i σ H' => ∃ v : Option V, σ = [some (.ref c), v] ∧ Same H4 H') ⟨none, rfl, fun _ _ e => e⟩ (fun i σ H' _ ⟨_, _, z⟩ => SqL.of (z _ _ l4)) ?_ ?_
    · rintro i x σ H' hi ⟨v, rfl, k5⟩
      obtain ⟨a, it, rfl, hit, ha4⟩ := items_get hIt4 hi
      have ha : ItemAt H' a it := ha4.mono (KT.of k5)
      have c5 := k5 _ _ c4
      walk_at "rg"
      refine ⟨c, dx, g, a, nm k, l3, it, rfl, c5, ha, fun H6 s6 => ?_⟩
      walk_at "rg"
      exact ⟨_, rfl, k5.trans s6⟩
    · rintro σ H' ⟨v, rfl, k5⟩
      exact q H' l3 (((k1.trans k2).trans k3).same (s4.trans k5)) (k5 _ _ c4)
theorem sc_checked : FnScope ["modules", "entry", "graph", "name"] ["modules", "entry"] (defScope s_checked) := ⟨rfl, rfl, rfl, by decide +kernel, rfl, by decide +kernel, by decide +kernel⟩
theorem ok_checked (PP : PF P) (G : Gm) (hG : G.Ok) (h0 : 0 < G.n) (T : Tx K mg) : Dok P w K mg base CX0 59 (He.ga K "checked") ["modules", "entry"] (spChecked K G) := by
  refine Dok.mk0 (T.F_checked) sc_checked rfl (fun _ _ _ _ _ _ us hl => match us, hl with | [_, _], _ => rfl) (fun vs H Q E h => ?_) (fun cdv A outer s H vs Q E hr h => ?_)
  · obtain ⟨dm, s, o, rfl, _⟩ := h; rfl
  · obtain ⟨dm, s, o, rfl, hdm, hR, q⟩ := h
    obtain ⟨cC, n1, n2, n3⟩ := T.checker
    obtain ⟨cG, m1, m2, m3, m4⟩ := T.graph
    obtain ⟨fdG, FG, BG⟩ := (ok_Graph_init (P := P) (w := w) (base := base) PP G hG h0 42 T).ex
    refine ⟨_, (pss_cons (ps_set (i := 2) sc_checked.nd rfl (Or.inl rfl) (pe_make T.mk_Graph FG (hr.mono (by decide : 58 ≤ 58)) (by rfl) T.g_Graph BG .nil (passN ⟨rfl, rfl⟩) (pa_cons (pv 0) (pa_cons (pv 1) pa_nil))))
        (pss_cons (ps_for PassesOwn.never rfl (pi_list (pm0 (ok_Graph_order (K := K) T) T.cl_Graph T.me_Graph_order hr (pv 2))) (pg_name (i := 3) sc_checked.nd rfl (Or.inl rfl)) (pss_one (ps_expr (pm0 (ok_Checker_whole (K := K) G hG T) T.cl_Checker T.me_Checker_whole hr (pk T.mk_Checker (ok_Checker_init (K := K) T) T.g_Checker hr (pa_cons (pv 2) (pa_cons (pv 3) pa_nil)))))))
        (pss_one (ps_ret (pv 2))))), ?_⟩
    walk_at "sg"
    intro g dx hg hdx hne
    have s1 : Same H (upd (upd H dx (.own g)) g (.ins (cGraph K) dx [])) := fun b u e => by
      rw [upd_ne (ne_of_none e hg), upd_ne (ne_of_none e hdx)]
      exact e
    refine ⟨g, dx, dm, rfl, upd_same, s1 _ _ hdm, ?_⟩
    rw [hR.walk]
    intro H2 dT dI lO k2 A2
    refine ⟨rfl, ?_⟩
    have s2 : Same H H2 := fun b u e => k2 b u (s1 b u e) (ne_of_none e hg)
    have gob := A2.ob
    walk_at "rg"
    refine ⟨g, dx, dT, dI, lO, G, nm 0, s, o, rfl, A2, fun p hp => ?_⟩
    have s3 := Same.upd (o := .lst (o.map fun k => .str (nm k))) hp
    have p3 : (upd H2 p (.lst (o.map fun k => .str (nm k)))) p = some (.lst (o.map fun k => .str (nm k))) := upd_same
    generalize upd H2 p (.lst (o.map fun k => .str (nm k))) = H3 at s3 p3 ⊢
    have A3 := A2.same s3
    walk_at "rg"
    refine for_list (K := K) (a := p) (xs := o.map fun k => V.str (nm k)) (fun i σ H' => ∃ v : Option V, σ = [some (.ref dm), some (.str (nm 0)), some (.ref g), v] ∧ Same H3 H') ⟨none, rfl, fun _ _ e => e⟩ (fun i σ H' _ ⟨_, _, z⟩ => SqL.of (z _ _ p3)) ?_ ?_
    · rintro i x σ H' hi ⟨v, rfl, k5⟩
      rw [List.getElem?_map] at hi
      obtain ⟨k, hki, rfl⟩ : ∃ k, o[i]? = some k ∧ x = .str (nm k) := by
        cases z : o[i]? with
        | none => rw [z] at hi; cases hi
        | some m => rw [z] at hi; exact ⟨m, rfl, (Option.some.inj hi).symm⟩
      have hks := hR.sub k (List.mem_of_getElem? hki)
      have A5 := A3.same k5
      walk_at "rg"
      intro c dxc hc hdxc hnec
      have s6 : Same H' (upd (upd H' dxc (.own c)) c (.ins (cChecker K) dxc [])) := fun b u e => by
        rw [upd_ne (ne_of_none e hc), upd_ne (ne_of_none e hdxc)]
        exact e
      refine ⟨c, dxc, g, nm k, rfl, upd_same, fun H6 l k6 c6 => ⟨rfl, ?_⟩⟩
      have s7 : Same H' H6 := fun b u e => k6 b u (s6 b u e) (ne_of_none e hc)
      have A6 := A5.same s7
      have c6' : H6 c = some (.ins (cChecker K) dxc (ckF g (nm k) l)) := c6
      walk_at "rg"
      refine ⟨c, dxc, g, dx, dT, dI, lO, nm 0, s, o, k, l, rfl, c6, A6, hks, fun _ => hR.sp k hks, fun H7 l' k7 c7 => ?_⟩
      walk_at "rg"
      exact ⟨_, rfl, k5.trans fun b u e => k7 b u (s7 b u e) (ne_of_none e hc)⟩
    · rintro σ H' ⟨v, rfl, k5⟩
      walk_at "rg"
      exact q H' g dx dT dI lO ((s2.trans s3).trans k5) (A3.same k5)
end
end K5
set_option maxHeartbeats 4000000




namespace K5
open PySem PySem.Spec PyProof.Rows L2
/-! the run -/
def tellOf : Itm → List Int
  | .tell n => [n]
  | _ => []
def tellsOf (its : List Itm) : List Int := its.flatMap tellOf
abbrev Ev := Nat × Int
def evsOf (k : Nat) (its : List Itm) : List Ev := (tellsOf its).map fun n => (k, n)
/-- an event's tuple stands at a -/
def EvAt (H : Hp) (a : Addr) (v : Ev) : Prop := ∃ (b : Addr) (i : Int), H a = some (.tup [.str "tell", .int v.2, .ref b]) ∧ H b = some (.tup [.str (nm v.1), .int i])
def EvsAt (H : Hp) (ts : List Addr) (l : List Ev) : Prop := ts.length = l.length ∧ ∀ (i : Nat) (v : Ev), l[i]? = some v → ∃ a, ts[i]? = some a ∧ EvAt H a v
theorem EvsAt.kt {H H' : Hp} {ts : List Addr} {l : List Ev} (h : EvsAt H ts l) (e : KT H H') : EvsAt H' ts l :=
  ⟨h.1, fun i v q => let ⟨a, h1, b, j, h2, h3⟩ := h.2 i v q; ⟨a, h1, b, j, e _ _ h2, e _ _ h3⟩⟩
theorem EvsAt.nil (H : Hp) : EvsAt H [] [] := ⟨rfl, fun i v q => by cases q⟩
theorem EvsAt.app {H : Hp} {ts us : List Addr} {l m : List Ev} (h : EvsAt H ts l) (g : EvsAt H us m) : EvsAt H (ts ++ us) (l ++ m) := by
  refine ⟨by rw [List.length_append, List.length_append, h.1, g.1], fun i v q => ?_⟩
  by_cases c : i < l.length
  · rw [List.getElem?_append_left c] at q
    rw [List.getElem?_append_left (by rw [h.1]; exact c)]
    exact h.2 i v q
  · rw [List.getElem?_append_right (Nat.le_of_not_lt c)] at q
    rw [List.getElem?_append_right (by rw [h.1]; exact Nat.le_of_not_lt c), h.1]
    exact g.2 _ v q
/-- the attributes of a Run -/
def rnF (g la le dt : Addr) : List (Str × V) := [("graph", .ref g), ("answers", .ref la), ("asked", .int 0), ("events", .ref le), ("budget", .int 200), ("depth", .int 0), ("tops", .ref dt)]
def RnAt (K : PySem.W.Frag) (H : Hp) (r dx g la le dt : Addr) : Prop := H r = some (.ins (cRun K) dx (rnF g la le dt))
def spRnInit (K : PySem.W.Frag) : Sp := fun vs H Q _ => ∃ (r dx g la : Addr), vs = [.ref r, .ref g, .ref la] ∧ H r = some (.ins (cRun K) dx []) ∧ ∀ H' le dt, Kp r H H' → RnAt K H' r dx g la le dt → H' le = some (.lst []) → H' dt = some (.dK []) → H le = none → H dt = none → Q .non H'
def spOpened : Sp := fun vs H Q _ => ∃ (r b sc : Addr) (m : V) (as : List Addr) (its : List Itm), vs = [.ref r, .ref b, .ref sc, m] ∧ H b = some (.lst (as.map V.ref)) ∧ ItemsAs H as its ∧ H sc = some (.lst []) ∧ ∀ H' p, Same H H' → H p = none → Q (.ref p) H'
def spEval : Sp := fun vs H Q _ => ∃ (r b : Addr) (sc m : V) (n : Int), vs = [.ref r, .ref b, sc, m] ∧ H b = some (.tup [.str "int", .int n]) ∧ Q (.int n) H
def spShown : Sp := fun vs H Q _ => ∃ n : Int, vs = [.int n] ∧ Q (.int n) H
def spSimple1 (K : PySem.W.Frag) (st : Bool) : Sp := fun vs H Q _ => ∃ (r dx g la le dt a : Addr) (sc : V) (k : Nat) (it : Itm) (es : List V), vs = [.ref r, .ref a, sc, .str (nm k)] ∧ RnAt K H r dx g la le dt ∧ ItemAt H a it ∧ H le = some (.lst es) ∧ es.length ≤ 1000 ∧
  ∀ H' ts p, Kp le H H' → H' le = some (.lst (es ++ ts.map V.ref)) → EvsAt H' ts (evsOf k [it]) → (st = true → H' p = some (.tup [.bl false, .non])) → Q (if st then .ref p else .non) H'
def spStmts (K : PySem.W.Frag) : Sp := fun vs H Q _ => ∃ (r dx g la le dt b : Addr) (sc : V) (k : Nat) (as : List Addr) (its : List Itm) (es : List V), vs = [.ref r, .ref b, sc, .str (nm k)] ∧ RnAt K H r dx g la le dt ∧ H b = some (.lst (as.map V.ref)) ∧ b ≠ le ∧ ItemsAs H as its ∧ its.length ≤ 100 ∧
  H le = some (.lst es) ∧ es.length ≤ 900 ∧ ∀ H' ts p, Kp le H H' → H' le = some (.lst (es ++ ts.map V.ref)) → EvsAt H' ts (evsOf k its) → H' p = some (.tup [.bl false, .non]) → Q (.ref p) H'
theorem Tx.f_int {K : PySem.W.Frag} {mg : Str → Option Value} (T : Tx K mg) : PySem.W.kitOne K (.type "int") (.ref (He.ga K "Function")) = some false := of_decide_eq_true (He.ba (He.ba (He.ba (He.ba (He.ba T.tab).2).2).2).2).2
section
variable {P : Program} {w : World} {K : PySem.W.Frag} {mg : Str → Option Value} {base : Heap}
theorem sc_Run_init : FnScope ["self", "graph", "answers"] ["self", "graph", "answers"] (defScope s_Run_init) := ⟨rfl, rfl, rfl, by decide +kernel, rfl, by decide +kernel, by decide +kernel⟩
theorem ok_Run_init (T : Tx K mg) : Dok P w K mg base CX0 1 (He.ma K (He.ga K "Run") "__init__") ["self", "graph", "answers"] (spRnInit K) := by
  refine Dok.mk0 (T.F_Run_init) sc_Run_init rfl (fun _ _ _ _ _ _ us hl => match us, hl with | [_, _, _], _ => rfl) (fun vs H Q E h => ?_) (fun cdv A outer s H vs Q E hr h => ?_)
  · obtain ⟨r, dx, g, la, rfl, _⟩ := h; rfl
  · obtain ⟨r, dx, g, la, rfl, hr0, q⟩ := h
    obtain ⟨cR, n1, n2, n3, n4, n5, n6, n7⟩ := T.runs
    refine ⟨_, (pss_cons (ps_fld (pv 0) (pv 1) rfl)
        (pss_cons (ps_fld (pv 0) (pv 2) rfl)
        (pss_cons (ps_fld (pv 0) pe_int rfl)
        (pss_cons (ps_fld (pv 0) (pe_lst pa_nil) rfl)
        (pss_cons (ps_fld (pv 0) (C8.pe_gc rfl T.i_BUDGET) rfl)
        (pss_cons (ps_fld (pv 0) pe_int rfl)
        (pss_one (ps_fld (pv 0) pe_dnewK rfl)))))))), ?_⟩
    walk_at "sg"
    rw [upd_upd, upd_upd]
    intro le hle
    have hne : le ≠ r := fun z => by rw [z, upd_same] at hle; cases hle
    have hle0 : H le = none := by rw [upd_ne hne] at hle; exact hle
    have k1 := (Kp.set (r := r) (H := H) (o := .ins (cRun K) dx (putF "asked" (.int 0) (putF "answers" (.ref la) (putF "graph" (.ref g) []))))).same (Same.upd (o := .lst []) hle)
    have r1 := Same.upd (o := .lst []) hle _ _ upd_same
    have l1 : (upd (upd H r (.ins (cRun K) dx (putF "asked" (.int 0) (putF "answers" (.ref la) (putF "graph" (.ref g) []))))) le (.lst [])) le = some (.lst []) := upd_same
    generalize upd (upd H r (.ins (cRun K) dx (putF "asked" (.int 0) (putF "answers" (.ref la) (putF "graph" (.ref g) []))))) le (.lst []) = H1 at k1 r1 l1 ⊢
    walk_at "rg"
    rw [upd_upd, upd_upd]
    intro dt hdt
    have hd : dt ≠ r := fun z => by rw [z, upd_same] at hdt; cases hdt
    have hdt1 : H1 dt = none := by rw [upd_ne hd] at hdt; exact hdt
    have hld : le ≠ dt := fun z => by rw [← z, l1] at hdt1; cases hdt1
    have r2 := Same.upd (o := .dK []) hdt _ _ upd_same
    have k2 := (k1.trans Kp.set).same (Same.upd (o := .dK []) hdt)
    walk_at "rg"
    refine q _ le dt (k2.trans Kp.set) upd_same ?_ ?_ hle0 (k1.free hdt1 (by rw [r1]; exact fun z => by cases z))
    · rw [upd_ne hne, upd_ne hld, upd_ne hne]
      exact l1
    · rw [upd_ne hd]
      exact upd_same
theorem sc_Run_evaluate : FnScope ["self", "e", "scopes", "module", "head", "value", "argument"] ["self", "e", "scopes", "module"] (defScope s_Run_evaluate) := ⟨rfl, rfl, rfl, by decide +kernel, rfl, by decide +kernel, by decide +kernel⟩
theorem ok_Run_evaluate (T : Tx K mg) : Dok P w K mg base CX0 1 (He.ma K (He.ga K "Run") "evaluate") ["self", "e", "scopes", "module"] (spEval) := by
  refine Dok.mk0 (T.F_Run_evaluate) sc_Run_evaluate rfl (fun _ _ _ _ _ _ us hl => match us, hl with | [_, _, _, _], _ => rfl) (fun vs H Q E h => ?_) (fun cdv A outer s H vs Q E hr h => ?_)
  · obtain ⟨r, b, sc, m, n, rfl, _⟩ := h; rfl
  · obtain ⟨r, b, sc, m, n, rfl, hb, q⟩ := h
    refine ⟨_, (pss_cons (ps_set (i := 4) sc_Run_evaluate.nd rfl (Or.inl rfl) (pe_ix ix_tup (pv 1) pe_int (fun _ _ => rfl)))
        (pss_cons (ps_if (PW.pt (pw_or (pt_cmpR op_eq (pv 4) pe_str (nomark _)) (pw_or1 (pt_cmpR op_eq (pv 4) pe_str (nomark _))))) (pss_one (ps_ret (pe_ix ix_tup (pv 1) pe_int (fun _ _ => rfl)))) pss_nil)
        pss_never)), ?_⟩
    walk_at "sg"
    exact q
theorem sc_shown : FnScope ["value"] ["value"] (defScope s_shown) := ⟨rfl, rfl, rfl, by decide +kernel, rfl, by decide +kernel, by decide +kernel⟩
theorem ok_shown (T : Tx K mg) : Dok P w K mg base CX0 1 (He.ga K "shown") ["value"] (spShown) := by
  refine Dok.mk0 (T.F_shown) sc_shown rfl (fun _ _ _ _ _ _ us hl => match us, hl with | [_], _ => rfl) (fun vs H Q E h => ?_) (fun cdv A outer s H vs Q E hr h => ?_)
  · obtain ⟨n, rfl, _⟩ := h; rfl
  · obtain ⟨n, rfl, q⟩ := h
    refine ⟨_, (pss_cons (ps_if (pt_val (pe_callB call_isi (by rfl) T.n_isinstance (by decide +kernel) (pa_cons (pv 0) (pa_cons (C8.pe_gc rfl T.r_Function) pa_nil)))) pss_never pss_nil)
        (pss_one (ps_ret (pv 0)))), ?_⟩
    walk_at "sg"
    refine ⟨.int n, .ref (He.ga K "Function"), .type "int", .ref (He.ga K "Function"), false, rfl, .own _, .base (.int _), T.f_int, ?_⟩
    walk_at "ri"
    exact q
theorem sc_Run_opened : FnScope ["self", "block", "scopes", "module", "scope", "inner", "statement"] ["self", "block", "scopes", "module"] (defScope s_Run_opened) := ⟨rfl, rfl, rfl, by decide +kernel, rfl, by decide +kernel, by decide +kernel⟩
theorem ok_Run_opened (T : Tx K mg) : Dok P w K mg base CX0 1 (He.ma K (He.ga K "Run") "opened") ["self", "block", "scopes", "module"] (spOpened) := by
  refine Dok.mk0 (T.F_Run_opened) sc_Run_opened rfl (fun _ _ _ _ _ _ us hl => match us, hl with | [_, _, _, _], _ => rfl) (fun vs H Q E h => ?_) (fun cdv A outer s H vs Q E hr h => ?_)
  · obtain ⟨r, b, sc, m, as, its, rfl, _⟩ := h; rfl
  · obtain ⟨r, b, sc, m, as, its, rfl, hb, hI, hsc, q⟩ := h
    refine ⟨_, (pss_cons (ps_set (i := 4) sc_Run_opened.nd rfl (Or.inl rfl) pe_dnewK)
        (pss_cons (ps_set (i := 5) sc_Run_opened.nd rfl (Or.inl rfl) (pe_op op_cat (pv 2) (pe_lst (pa_cons (pv 4) pa_nil))))
        (pss_cons (ps_for PassesOwn.never rfl (pi_list (pv 1)) (pg_name (i := 6) sc_Run_opened.nd rfl (Or.inl rfl)) (pss_one (ps_if (pt_cmpR op_eq (pe_ix ix_tup (pv 6) pe_int (fun _ _ => rfl)) pe_str (nomark _)) pss_never (pss_one (ps_if (pt_cmpR op_eq (pe_ix ix_tup (pv 6) pe_int (fun _ _ => rfl)) pe_str (nomark _)) pss_never pss_nil)))))
        (pss_one (ps_ret (pv 5)))))), ?_⟩
    walk_at "sg"
    intro p hp
    walk_at "rg"
    intro l hl
    have s2 := (Same.upd (o := .dK []) hp).trans (Same.upd (o := .lst [.ref p]) hl)
    have l2 : (upd (upd H p (.dK [])) l (.lst [.ref p])) l = some (.lst [.ref p]) := upd_same
    generalize upd (upd H p (.dK [])) l (.lst [.ref p]) = H2 at s2 l2 ⊢
    refine rd_cat (s2 _ _ hsc) l2 (Nat.le_of_ble_eq_true rfl) fun j hj => ?_
    have s3 := s2.trans (Same.upd (o := .lst ([] ++ [.ref p])) hj)
    have hj0 : H j = none := same_none s2 hj
    generalize upd H2 j (.lst ([] ++ [.ref p])) = H3 at s3 ⊢
    have b3 := s3 _ _ hb
    have I3 := hI.kt (KT.of s3)
    walk_at "rg"
    refine for_list (K := K) (a := b) (xs := as.map V.ref) (fun i σ H' => ∃ v : Option V, σ = [some (.ref r), some (.ref b), some (.ref sc), some m, some (.ref p), some (.ref j), v] ∧ Same H3 H') ⟨none, rfl, fun _ _ e => e⟩ (fun i σ H' _ ⟨_, _, z⟩ => SqL.of (z _ _ b3)) ?_ ?_
    · rintro i x σ H' hi ⟨v, rfl, k5⟩
      obtain ⟨a, it, rfl, hit, ha4⟩ := items_get I3 hi
      have ha : ItemAt H' a it := ha4.mono (KT.of k5)
      cases it with
      | need m =>
        obtain ⟨j, ha⟩ := ha
        walk_at "rg"
        exact ⟨_, rfl, k5⟩
      | space m z =>
        obtain ⟨j, ha⟩ := ha
        walk_at "rg"
        exact ⟨_, rfl, k5⟩
      | star m =>
        obtain ⟨j, ha⟩ := ha
        walk_at "rg"
        exact ⟨_, rfl, k5⟩
      | imp m =>
        obtain ⟨b, j, ha, hb⟩ := ha
        walk_at "rg"
        exact ⟨_, rfl, k5⟩
      | frm m =>
        obtain ⟨b, j, ha, hb⟩ := ha
        walk_at "rg"
        exact ⟨_, rfl, k5⟩
      | tell n =>
        obtain ⟨b, j, ha, hb⟩ := ha
        walk_at "rg"
        exact ⟨_, rfl, k5⟩
    · rintro σ H' ⟨v, rfl, k5⟩
      walk_at "rg"
      exact q H' j (s3.trans k5) hj0
theorem sc_Run_simple : FnScope ["self", "statement", "scopes", "module", "head", "value", "cell"] ["self", "statement", "scopes", "module"] (defScope s_Run_simple) := ⟨rfl, rfl, rfl, by decide +kernel, rfl, by decide +kernel, by decide +kernel⟩
theorem ok_Run_simple (T : Tx K mg) : Dok P w K mg base CX0 2 (He.ma K (He.ga K "Run") "simple") ["self", "statement", "scopes", "module"] (spSimple1 K false) := by
  refine Dok.mk0 (T.F_Run_simple) sc_Run_simple rfl (fun _ _ _ _ _ _ us hl => match us, hl with | [_, _, _, _], _ => rfl) (fun vs H Q E h => ?_) (fun cdv A outer s H vs Q E hr h => ?_)
  · obtain ⟨r, dx, g, la, le, dt, a, sc, k, it, es, rfl, _⟩ := h; rfl
  · obtain ⟨r, dx, g, la, le, dt, a, sc, k, it, es, rfl, hr0, ha, hle, hes, q⟩ := h
    obtain ⟨cR, n1, n2, n3, n4, n5, n6, n7⟩ := T.runs
    have hr0 : H r = some (.ins (cRun K) dx (rnF g la le dt)) := hr0
    refine ⟨_, (pss_cons (ps_set (i := 4) sc_Run_simple.nd rfl (Or.inl rfl) (pe_ix ix_tup (pv 1) pe_int (fun _ _ => rfl)))
        (pss_one (ps_if (pt_cmpR op_eq (pv 4) pe_str (nomark _)) pss_never (pss_one (ps_if (pt_cmpR op_eq (pv 4) pe_str (nomark _)) pss_never (pss_one (ps_if (pt_cmpR op_eq (pv 4) pe_str (nomark _)) pss_never (pss_one (ps_if (pt_cmpR op_eq (pv 4) pe_str (nomark _)) (pss_cons (ps_set (i := 5) sc_Run_simple.nd rfl (Or.inl rfl) (pm (ok_Run_evaluate (K := K) T) T.cl_Run T.me_Run_evaluate hr (pv 0) (pa_cons (pe_ix ix_tup (pv 1) pe_int (fun _ _ => rfl)) (pa_cons (pv 2) (pa_cons (pv 3) pa_nil)))))
        (pss_one (ps_expr (pe_bm PySem.F.plainAttrs_list PySem.F.slot_list_append PySem.F.type_list_append mt_append (pe_fld (pv 0) rfl) (pa_cons (pe_tup (pa_cons pe_str (pa_cons (pc (ok_shown (K := K) T) T.g_shown hr (pa_cons (pv 5) pa_nil)) (pa_cons (pe_tup (pa_cons (pv 3) (pa_cons (pe_ix ix_tup (pv 1) pe_int (fun _ _ => rfl)) pa_nil))) pa_nil)))) pa_nil))))) (pss_one (ps_if (pt_cmpR op_eq (pv 4) pe_str (nomark _)) pss_never pss_nil))))))))))), ?_⟩
    have none' : evsOf k [it] = [] → Q .non H := fun e => q H [] 0 (Kp.refl _ _) (by rw [List.map_nil, List.append_nil]; exact hle) (by rw [e]; exact EvsAt.nil H) (fun z => by cases z)
    cases it with
    | tell n =>
      obtain ⟨b, j, ha, hb⟩ := ha
      walk_at "sg"
      refine ⟨r, b, sc, .str (nm k), n, rfl, hb, ?_⟩
      walk_at "rg"
      refine ⟨n, rfl, ?_⟩
      walk_at "rg"
      intro b2 hb2
      have s2 := Same.upd (o := .tup [.str (nm k), .int j]) hb2
      walk_at "rg"
      intro t ht
      have s3 := Same.upd (o := .tup [.str "tell", .int n, .ref b2]) ht
      have hle3 := s3 _ _ (s2 _ _ hle)
      have ht3 : (upd (upd H b2 (.tup [.str (nm k), .int j])) t (.tup [.str "tell", .int n, .ref b2])) t = some (.tup [.str "tell", .int n, .ref b2]) := upd_same
      have hb3 : (upd (upd H b2 (.tup [.str (nm k), .int j])) t (.tup [.str "tell", .int n, .ref b2])) b2 = some (.tup [.str (nm k), .int j]) := s3 _ _ upd_same
      generalize upd (upd H b2 (.tup [.str (nm k), .int j])) t (.tup [.str "tell", .int n, .ref b2]) = H9 at s3 hle3 ht3 hb3 ⊢
      walk_at "rg"
      refine rd_append hle3 (by omega) ?_
      refine q _ [t] 0 (((Kp.of s2).trans (Kp.of s3)).trans Kp.set) upd_same ⟨rfl, fun i v hi => ?_⟩ (fun z => by cases z)
      cases i with
      | zero =>
        cases hi
        refine ⟨t, rfl, b2, j, ?_, ?_⟩
        · rw [upd_ne fun z => by rw [z, hle3] at ht3; cases ht3]
          exact ht3
        · rw [upd_ne fun z => by rw [z, hle3] at hb3; cases hb3]
          exact hb3
      | succ i => cases hi
    | need m =>
      obtain ⟨j, ha⟩ := ha
      walk_at "sg"
      exact none' rfl
    | space m z =>
      obtain ⟨j, ha⟩ := ha
      walk_at "sg"
      exact none' rfl
    | star m =>
      obtain ⟨j, ha⟩ := ha
      walk_at "sg"
      exact none' rfl
    | imp m =>
      obtain ⟨b, j, ha, hb⟩ := ha
      walk_at "sg"
      exact none' rfl
    | frm m =>
      obtain ⟨b, j, ha, hb⟩ := ha
      walk_at "sg"
      exact none' rfl
theorem sc_Run_statement : FnScope ["self", "statement", "scopes", "module", "head"] ["self", "statement", "scopes", "module"] (defScope s_Run_statement) := ⟨rfl, rfl, rfl, by decide +kernel, rfl, by decide +kernel, by decide +kernel⟩
theorem ok_Run_statement (T : Tx K mg) : Dok P w K mg base CX0 3 (He.ma K (He.ga K "Run") "statement") ["self", "statement", "scopes", "module"] (spSimple1 K true) := by
  refine Dok.mk0 (T.F_Run_statement) sc_Run_statement rfl (fun _ _ _ _ _ _ us hl => match us, hl with | [_, _, _, _], _ => rfl) (fun vs H Q E h => ?_) (fun cdv A outer s H vs Q E hr h => ?_)
  · obtain ⟨r, dx, g, la, le, dt, a, sc, k, it, es, rfl, _⟩ := h; rfl
  · obtain ⟨r, dx, g, la, le, dt, a, sc, k, it, es, rfl, hr0, ha, hle, hes, q⟩ := h
    obtain ⟨cR, n1, n2, n3, n4, n5, n6, n7⟩ := T.runs
    have hr1 : H r = some (.ins (cRun K) dx (rnF g la le dt)) := hr0
    refine ⟨_, (pss_cons (ps_set (i := 4) sc_Run_statement.nd rfl (Or.inl rfl) (pe_ix ix_tup (pv 1) pe_int (fun _ _ => rfl)))
        (pss_cons (ps_if (pt_cmpR op_eq (pv 4) pe_str (nomark _)) pss_never pss_nil)
        (pss_cons (ps_if (pt_cmpR op_eq (pv 4) pe_str (nomark _)) pss_never pss_nil)
        (pss_cons (ps_if (pt_cmpR op_eq (pv 4) pe_str (nomark _)) pss_never pss_nil)
        (pss_cons (ps_if (pt_cmpR op_eq (pv 4) pe_str (nomark _)) pss_never pss_nil)
        (pss_cons (ps_if (pt_cmpR op_eq (pv 4) pe_str (nomark _)) pss_never pss_nil)
        (pss_cons (ps_expr (pm (ok_Run_simple (K := K) T) T.cl_Run T.me_Run_simple hr (pv 0) (pa_cons (pv 1) (pa_cons (pv 2) (pa_cons (pv 3) pa_nil)))))
        (pss_one (ps_ret (pe_tup (pa_cons pe_bl (pa_cons pe_non pa_nil)))))))))))), ?_⟩
    have last : ∀ {D : Ends} {σ : L2.St}, (∀ H' (ts : List Addr) p, Kp le H H' → H' le = some (.lst (es ++ ts.map V.ref)) → EvsAt H' ts (evsOf k [it]) → H' p = some (.tup [.bl false, .non]) → Q (.ref p) H') → True := fun _ => True.intro
    cases it with
    | need m =>
      obtain ⟨j, ha2⟩ := id ha
      walk_at "sg"
      refine ⟨r, dx, g, la, le, dt, a, sc, k, _, es, rfl, hr0, ha, hle, hes, fun H' ts p0 k1 hle1 hev _ => ?_⟩
      walk_at "rg"
      intro p hp
      have s2 := Same.upd (o := .tup [.bl false, .non]) hp
      exact q _ ts p (k1.same s2) (s2 _ _ hle1) (hev.kt (KT.of s2)) (fun _ => upd_same)
    | space m z =>
      obtain ⟨j, ha2⟩ := id ha
      walk_at "sg"
      refine ⟨r, dx, g, la, le, dt, a, sc, k, _, es, rfl, hr0, ha, hle, hes, fun H' ts p0 k1 hle1 hev _ => ?_⟩
      walk_at "rg"
      intro p hp
      have s2 := Same.upd (o := .tup [.bl false, .non]) hp
      exact q _ ts p (k1.same s2) (s2 _ _ hle1) (hev.kt (KT.of s2)) (fun _ => upd_same)
    | star m =>
      obtain ⟨j, ha2⟩ := id ha
      walk_at "sg"
      refine ⟨r, dx, g, la, le, dt, a, sc, k, _, es, rfl, hr0, ha, hle, hes, fun H' ts p0 k1 hle1 hev _ => ?_⟩
      walk_at "rg"
      intro p hp
      have s2 := Same.upd (o := .tup [.bl false, .non]) hp
      exact q _ ts p (k1.same s2) (s2 _ _ hle1) (hev.kt (KT.of s2)) (fun _ => upd_same)
    | imp m =>
      obtain ⟨b, j, ha2, hb⟩ := id ha
      walk_at "sg"
      refine ⟨r, dx, g, la, le, dt, a, sc, k, _, es, rfl, hr0, ha, hle, hes, fun H' ts p0 k1 hle1 hev _ => ?_⟩
      walk_at "rg"
      intro p hp
      have s2 := Same.upd (o := .tup [.bl false, .non]) hp
      exact q _ ts p (k1.same s2) (s2 _ _ hle1) (hev.kt (KT.of s2)) (fun _ => upd_same)
    | frm m =>
      obtain ⟨b, j, ha2, hb⟩ := id ha
      walk_at "sg"
      refine ⟨r, dx, g, la, le, dt, a, sc, k, _, es, rfl, hr0, ha, hle, hes, fun H' ts p0 k1 hle1 hev _ => ?_⟩
      walk_at "rg"
      intro p hp
      have s2 := Same.upd (o := .tup [.bl false, .non]) hp
      exact q _ ts p (k1.same s2) (s2 _ _ hle1) (hev.kt (KT.of s2)) (fun _ => upd_same)
    | tell n =>
      obtain ⟨b, j, ha2, hb⟩ := id ha
      walk_at "sg"
      refine ⟨r, dx, g, la, le, dt, a, sc, k, _, es, rfl, hr0, ha, hle, hes, fun H' ts p0 k1 hle1 hev _ => ?_⟩
      walk_at "rg"
      intro p hp
      have s2 := Same.upd (o := .tup [.bl false, .non]) hp
      exact q _ ts p (k1.same s2) (s2 _ _ hle1) (hev.kt (KT.of s2)) (fun _ => upd_same)
theorem sc_Run_statements : FnScope ["self", "block", "scopes", "module", "statement", "ended", "value"] ["self", "block", "scopes", "module"] (defScope s_Run_statements) := ⟨rfl, rfl, rfl, by decide +kernel, rfl, by decide +kernel, by decide +kernel⟩
theorem ok_Run_statements (T : Tx K mg) : Dok P w K mg base CX0 4 (He.ma K (He.ga K "Run") "statements") ["self", "block", "scopes", "module"] (spStmts K) := by
  refine Dok.mk0 (T.F_Run_statements) sc_Run_statements rfl (fun _ _ _ _ _ _ us hl => match us, hl with | [_, _, _, _], _ => rfl) (fun vs H Q E h => ?_) (fun cdv A outer s H vs Q E hr h => ?_)
  · obtain ⟨r, dx, g, la, le, dt, b, sc, k, as, its, es, rfl, _⟩ := h; rfl
  · obtain ⟨r, dx, g, la, le, dt, b, sc, k, as, its, es, rfl, hr0, hb, hbl, hI, hn, hle, hes, q⟩ := h
    obtain ⟨cR, n1, n2, n3, n4, n5, n6, n7⟩ := T.runs
    have hr1 : H r = some (.ins (cRun K) dx (rnF g la le dt)) := hr0
    have hrl : r ≠ le := fun z => by rw [z, hle] at hr1; cases hr1
    refine ⟨_, (pss_cons (ps_for PassesOwn.never rfl (pi_list (pv 1)) (pg_name (i := 4) sc_Run_statements.nd rfl (Or.inl rfl)) (pss_cons (ps_asg (pm (ok_Run_statement (K := K) T) T.cl_Run T.me_Run_statement hr (pv 0) (pa_cons (pv 4) (pa_cons (pv 2) (pa_cons (pv 3) pa_nil)))) (pg_tup rfl (pgs_cons (pg_name (i := 5) sc_Run_statements.nd rfl (Or.inl rfl)) (pgs_cons (pg_name (i := 6) sc_Run_statements.nd rfl (Or.inl rfl)) pgs_nil))))
        (pss_one (ps_if (pt_val (pv 5)) pss_never pss_nil))))
        (pss_one (ps_ret (pe_tup (pa_cons pe_bl (pa_cons pe_non pa_nil)))))), ?_⟩
    walk_at "sg"
    have tl : ∀ l : List Itm, (tellsOf l).length ≤ l.length := by
      intro l
      induction l with
      | nil => exact Nat.le_refl _
      | cons x l ih =>
        show (tellOf x ++ tellsOf l).length ≤ l.length + 1
        rw [List.length_append]
        have : (tellOf x).length ≤ 1 := by cases x <;> exact Nat.le_of_ble_eq_true rfl
        omega
    refine for_list (K := K) (a := b) (xs := as.map V.ref) (fun i σ H' => ∃ (v1 v2 v3 : Option V) (ts : List Addr), σ = [some (.ref r), some (.ref b), some sc, some (.str (nm k)), v1, v2, v3] ∧ Kp le H H' ∧ H' le = some (.lst (es ++ ts.map V.ref)) ∧ EvsAt H' ts (evsOf k (its.take i)))
      ⟨none, none, none, [], rfl, Kp.refl _ _, by rw [List.map_nil, List.append_nil]; exact hle, EvsAt.nil H⟩ (fun i σ H' _ ⟨_, _, _, _, _, z, _⟩ => SqL.of (z _ _ hb hbl)) ?_ ?_
    · rintro i x σ H' hi ⟨v1, v2, v3, ts, rfl, k5, le5, ev5⟩
      obtain ⟨a, it, rfl, hit, ha4⟩ := items_get hI hi
      have ha : ItemAt H' a it := ha4.mono fun c xs z => k5 _ _ z fun e => by rw [e, hle] at z; cases z
      have r5 : RnAt K H' r dx g la le dt := k5 _ _ hr0 hrl
      have r5' : H' r = some (.ins (cRun K) dx (rnF g la le dt)) := r5
      have hln : (es ++ ts.map V.ref).length ≤ 1000 := by
        have h1 := tl (its.take i)
        have h2 := ev5.1
        unfold evsOf at h2
        rw [List.length_map] at h2
        rw [List.length_take] at h1
        rw [List.length_append, List.length_map]
        omega
      walk_at "rg"
      refine ⟨r, dx, g, la, le, dt, a, sc, k, it, _, rfl, r5, ha, le5, hln, fun H6 us p k6 le6 ev6 p6 => ?_⟩
      have p6 := p6 rfl
      rw [if_pos (rfl : true = true)]
      walk_at "rg"
      refine ⟨_, _, _, ts ++ us, rfl, k5.trans k6, ?_, ?_⟩
      · rw [List.map_append, ← List.append_assoc]
        exact le6
      · have e1 : evsOf k (its.take (i + 1)) = evsOf k (its.take i) ++ evsOf k [it] := by
          rw [take_succ hit]
          unfold evsOf tellsOf
          rw [List.flatMap_append, List.map_append]
        rw [e1]
        exact (ev5.kt fun c xs z => k6 _ _ z fun e => by rw [e, le5] at z; cases z).app ev6
    · rintro σ H' ⟨v1, v2, v3, ts, rfl, k5, le5, ev5⟩
      have e : (as.map V.ref).length = its.length := by
        rw [List.length_map]
        exact hI.1
      rw [e, List.take_length] at ev5
      walk_at "rg"
      intro p hp
      have s2 := Same.upd (o := .tup [.bl false, .non]) hp
      exact q _ ts p (k5.same s2) (s2 _ _ le5) (ev5.kt (KT.of s2)) upd_same
end
end K5
set_option maxHeartbeats 4000000




namespace K5
open PySem PySem.Spec PyProof.Rows L2
/-- all events of a run -/
def evAll (G : Gm) (o : List Nat) : List Ev := o.flatMap fun k => evsOf k (G.its k)
def spRnWhole (K : PySem.W.Frag) (G : Gm) : Sp := fun vs H Q _ => ∃ (H0 : Hp) (r dx g la le dt dxg dT dI lO : Addr) (e : Str) (s o : List Nat), vs = [.ref r] ∧ RnAt K H r dx g la le dt ∧ GrAt K G H0 g dxg dT dI lO e s o ∧ Same H0 H ∧ H0 le = none ∧ H0 dt = none ∧
  H le = some (.lst []) ∧ H dt = some (.dK []) ∧ (∀ k ∈ o, k ∈ s) ∧ (∀ k ∈ s, (tellsOf (G.its k)).length ≤ 1) ∧
  ∀ H' ts p, Same H0 H' → RnAt K H' r dx g la le dt → H' le = some (.lst (ts.map V.ref)) → EvsAt H' ts (evAll G o) → H' p = some (.tup [.str "done"]) → (∀ b u, H b = some u → b ≠ le → b ≠ dt → H' b = some u) → Q (.ref p) H'
def spRnExp (K : PySem.W.Frag) (G : Gm) : Sp := fun vs H Q _ => ∃ (r dx g la le dt dxg dT dI lO : Addr) (s o : List Nat), vs = [.ref r] ∧ RnAt K H r dx g la le dt ∧ GrAt K G H g dxg dT dI lO (nm 0) s o ∧ Closed G s ∧ 0 ∈ s ∧ ∀ H' p, Same H H' → H' p = some (.dK []) → Q (.ref p) H'
theorem evAll_len {G : Gm} {s : List Nat} (h : ∀ k ∈ s, (tellsOf (G.its k)).length ≤ 1) : ∀ {o : List Nat}, (∀ k ∈ o, k ∈ s) → (evAll G o).length ≤ o.length
  | [], _ => Nat.le_refl _
  | k :: o, ho => by
    have ih := evAll_len h (o := o) fun j hj => ho j (List.mem_cons_of_mem _ hj)
    have h1 := h k (ho k List.mem_cons_self)
    show (evsOf k (G.its k) ++ evAll G o).length ≤ o.length + 1
    rw [List.length_append]
    unfold evsOf
    rw [List.length_map]
    omega
theorem rd_forL0 {K : PySem.W.Frag} {b : Addr} {g : TG} {tb : TS} {D : Ends} {σ : L2.St} {H : Hp} (h : H b = some (.lst [])) (q : D.nx σ H) : ∃ W : Nat → Nat → L2.St → Hp → Prop, (∃ m, W 0 m σ H) ∧ ∀ i m σ H, W i m σ H →
      ((Itl K b).stop i H ∧ D.nx σ H) ∨ ((Itl K b).go i H ∧ ∃ N : L2.St → Hp → Prop, (∀ σ' H', N σ' H' → ∃ m', m' < m ∧ W (i + 1) m' σ' H') ∧ ∀ x H', (Itl K b).yld i H x H' → g x σ H' fun σ2 H2 => tb { D with nx := N, ct := N, bk := D.nx } σ2 H2) :=
  for_list (K := K) (a := b) (xs := []) (fun i σ' H' => σ' = σ ∧ H' = H) ⟨rfl, rfl⟩ (fun i σ' H' _ e => e.2 ▸ SqL.of h) (fun i x σ' H' hi _ => by cases hi) (fun σ' H' e => by rw [e.1, e.2]; exact q)
theorem strs_get {o : List Nat} {i : Nat} {x : V} (hi : (o.map fun k => V.str (nm k))[i]? = some x) : ∃ k, o[i]? = some k ∧ x = .str (nm k) := by
  rw [List.getElem?_map] at hi
  cases z : o[i]? with
  | none => rw [z] at hi; cases hi
  | some m => rw [z] at hi; exact ⟨m, rfl, (Option.some.inj hi).symm⟩
section
variable {P : Program} {w : World} {K : PySem.W.Frag} {mg : Str → Option Value} {base : Heap}
theorem sc_Run_whole : FnScope ["self", "name", "thrown"] ["self"] (defScope s_Run_whole) := ⟨rfl, rfl, rfl, by decide +kernel, rfl, by decide +kernel, by decide +kernel⟩
theorem ok_Run_whole (G : Gm) (hG : G.Ok) (T : Tx K mg) : Dok P w K mg base CX0 5 (He.ma K (He.ga K "Run") "whole") ["self"] (spRnWhole K G) := by
  refine Dok.mk0 (T.F_Run_whole) sc_Run_whole rfl (fun _ _ _ _ _ _ us hl => match us, hl with | [_], _ => rfl) (fun vs H Q E h => ?_) (fun cdv A outer s H vs Q E hr h => ?_)
  · obtain ⟨H0, r, dx, g, la, le, dt, dxg, dT, dI, lO, e, s, o, rfl, _⟩ := h; rfl
  · obtain ⟨H0, r, dx, g, la, le, dt, dxg, dT, dI, lO, e, s, o, rfl, hr0, hA, hs, hle0, hdt0, hle, hdt, hsub, hone, q⟩ := h
    obtain ⟨cR, n1, n2, n3, n4, n5, n6, n7⟩ := T.runs
    have hr1 : H r = some (.ins (cRun K) dx (rnF g la le dt)) := hr0
    obtain ⟨cG, m1, m2, m3, m4⟩ := T.graph
    have A1 := hA.same hs
    have gob := A1.ob
    refine ⟨_, (pss_cons (ps_for PassesOwn.never rfl (pi_list (pm0 (ok_Graph_order (K := K) T) T.cl_Graph T.me_Graph_order hr (pe_fld (pv 0) rfl))) (pg_name (i := 1) sc_Run_whole.nd rfl (Or.inl rfl)) (pss_one (ps_dput (hu_of hr) (pe_fld (pv 0) rfl) (pv 1) (pm (ok_Run_opened (K := K) T) T.cl_Run T.me_Run_opened hr (pv 0) (pa_cons (pm (ok_Graph_module_items (K := K) G hG T) T.cl_Graph T.me_Graph_module_items hr (pe_fld (pv 0) rfl) (pa_cons (pv 1) pa_nil)) (pa_cons (pe_lst pa_nil) (pa_cons (pv 1) pa_nil)))) rfl)))
        (pss_cons (ps_try_thru0 (pss_one (ps_for PassesOwn.never rfl (pi_list (pm0 (ok_Graph_order (K := K) T) T.cl_Graph T.me_Graph_order hr (pe_fld (pv 0) rfl))) (pg_name (i := 1) sc_Run_whole.nd rfl (Or.inl rfl)) (pss_one (ps_expr (pm (ok_Run_statements (K := K) T) T.cl_Run T.me_Run_statements hr (pv 0) (pa_cons (pm (ok_Graph_module_items (K := K) G hG T) T.cl_Graph T.me_Graph_module_items hr (pe_fld (pv 0) rfl) (pa_cons (pv 1) pa_nil)) (pa_cons (pe_dget (hu_of hr) (pe_fld (pv 0) rfl) (pv 1) (fun _ _ => rfl)) (pa_cons (pv 1) pa_nil)))))))))
        (pss_one (ps_ret (pe_tup (pa_cons pe_str pa_nil)))))), ?_⟩
    walk_at "sg"
    refine ⟨g, dxg, dT, dI, lO, G, e, s, o, rfl, A1, fun p hp => ?_⟩
    have s2 := Same.upd (o := .lst (o.map fun k => .str (nm k))) hp
    have p2 : (upd H p (.lst (o.map fun k => .str (nm k)))) p = some (.lst (o.map fun k => .str (nm k))) := upd_same
    have hpd : p ≠ dt := fun z => by rw [z, hdt] at hp; cases hp
    generalize upd H p (.lst (o.map fun k => .str (nm k))) = H2 at s2 p2 ⊢
    have r2 := s2 _ _ hr1
    have d2 := s2 _ _ hdt
    have hrd : r ≠ dt := fun z => by rw [z, hdt] at hr1; cases hr1
    have hrl : r ≠ le := fun z => by rw [z, hle] at hr1; cases hr1
    have hdl : le ≠ dt := fun z => by rw [z, hdt] at hle; cases hle
    have oln : o.length ≤ 40 := Nat.le_trans hA.ln.1 hA.ln.2
    walk_at "rg"
    refine for_list (K := K) (a := p) (xs := o.map fun k => V.str (nm k)) (fun i σ H' => ∃ (v : Option V) (kvs : List (Key × V)), σ = [some (.ref r), v, none] ∧ Kp dt H2 H' ∧ H' dt = some (.dK kvs) ∧ kvs.length ≤ i ∧ ∀ j k, j < i → o[j]? = some k → ∃ a, valV kvs (.inr (nm k)) = some (.ref a))
      ⟨none, [], rfl, Kp.refl _ _, d2, Nat.le_refl _, fun j k hj => absurd hj (Nat.not_lt_zero _)⟩ (fun i σ H' _ ⟨_, _, _, z, _⟩ => SqL.of (z _ _ p2 hpd)) ?_ ?_
    · rintro i x σ H' hi ⟨v, kvs, rfl, k3, d3, hkl, hkv⟩
      obtain ⟨k, hki, rfl⟩ := strs_get hi
      have hilt := (List.getElem?_eq_some_iff.mp hki).1
      have hks := hsub k (List.mem_of_getElem? hki)
      have r3 := k3 _ _ r2 hrd
      have s3 : Same H0 H' := fun b u z => k3 b u (s2 b u (hs b u z)) (ne_of_none z hdt0)
      have A3 := hA.same s3
      have gob3 := A3.ob
      walk_at "rg"
      refine ⟨g, dxg, dT, dI, lO, e, s, o, k, rfl, A3, hks, fun li as hli hIt => ?_⟩
      have s4 := Same.upd (o := .lst (as.map V.ref)) hli
      have l4 : (upd H' li (.lst (as.map V.ref))) li = some (.lst (as.map V.ref)) := upd_same
      generalize upd H' li (.lst (as.map V.ref)) = H4 at s4 l4 ⊢
      walk_at "rg"
      intro sc hsc
      have s5 := Same.upd (o := .lst []) hsc
      have c5 : (upd H4 sc (.lst [])) sc = some (.lst []) := upd_same
      generalize upd H4 sc (.lst []) = H5 at s5 c5 ⊢
      walk_at "rg"
      refine ⟨r, li, sc, .str (nm k), as, G.its k, rfl, s5 _ _ l4, (hIt.kt (KT.of s4)).kt (KT.of s5), c5, fun H6 t s6 ht => ?_⟩
      have s36 := (s4.trans s5).trans s6
      have r6 := s36 _ _ r3
      have d6 := s36 _ _ d3
      walk_at "rg"
      refine rd_dput d6 (by omega) ?_
      refine ⟨_, _, rfl, (k3.same s36).trans Kp.set, upd_same, Nat.le_trans (length_putK _ _ _) (by omega), fun j k' hj hk' => ?_⟩
      rw [valV_put]
      by_cases c : (Sum.inr (nm k') : Key) = .inr (nm k)
      · rw [if_pos c]
        exact ⟨_, rfl⟩
      · rw [if_neg c]
        by_cases c2 : j = i
        · rw [c2, hki] at hk'
          cases hk'
          exact absurd rfl c
        · exact hkv j k' (by omega) hk'
    · rintro σ H' ⟨v, kvs, rfl, k3, d3, hkl, hkv⟩
      have r3 := k3 _ _ r2 hrd
      have s3 : Same H0 H' := fun b u z => k3 b u (s2 b u (hs b u z)) (ne_of_none z hdt0)
      have A3 := hA.same s3
      have gob3 := A3.ob
      have le3 := k3 _ _ (s2 _ _ hle) hdl
      walk_at "rg"
      refine ⟨g, dxg, dT, dI, lO, G, e, s, o, rfl, A3, fun p2 hp2 => ?_⟩
      have s4 := Same.upd (o := .lst (o.map fun k => .str (nm k))) hp2
      have p4 : (upd H' p2 (.lst (o.map fun k => .str (nm k)))) p2 = some (.lst (o.map fun k => .str (nm k))) := upd_same
      have hpl : p2 ≠ le := fun z => by rw [z, le3] at hp2; cases hp2
      generalize upd H' p2 (.lst (o.map fun k => .str (nm k))) = H4 at s4 p4 ⊢
      have r4 := s4 _ _ r3
      have d4 := s4 _ _ d3
      have le4 := s4 _ _ le3
      walk_at "rg"
      refine for_list (K := K) (a := p2) (xs := o.map fun k => V.str (nm k)) (fun i σ H' => ∃ (v : Option V) (ts : List Addr), σ = [some (.ref r), v, none] ∧ Kp le H4 H' ∧ H' le = some (.lst (ts.map V.ref)) ∧ EvsAt H' ts (evAll G (o.take i)))
        ⟨v, [], rfl, Kp.refl _ _, le4, EvsAt.nil _⟩ (fun i σ H' _ ⟨_, _, _, z, _⟩ => SqL.of (z _ _ p4 hpl)) ?_ ?_
      · rintro i x σ H5 hi ⟨v, ts, rfl, k5, le5, ev5⟩
        obtain ⟨k, hki, rfl⟩ := strs_get hi
        have hks := hsub k (List.mem_of_getElem? hki)
        have hilt := (List.getElem?_eq_some_iff.mp hki).1
        have r5 := k5 _ _ r4 hrl
        have d5 := k5 _ _ d4 (Ne.symm hdl)
        have s5 : Same H0 H5 := fun b u z => k5 b u (s4 b u (s3 b u z)) (ne_of_none z hle0)
        have A5 := hA.same s5
        have gob5 := A5.ob
        obtain ⟨ta, hta⟩ := hkv i k (by rw [List.length_map]; exact hilt) hki
        walk_at "rg"
        refine ⟨g, dxg, dT, dI, lO, e, s, o, k, rfl, A5, hks, fun li as hli hIt => ?_⟩
        have s6 := Same.upd (o := .lst (as.map V.ref)) hli
        have l6 : (upd H5 li (.lst (as.map V.ref))) li = some (.lst (as.map V.ref)) := upd_same
        have hll : li ≠ le := fun z => by rw [z, le5] at hli; cases hli
        generalize upd H5 li (.lst (as.map V.ref)) = H6 at s6 l6 ⊢
        have r6 := s6 _ _ r5
        have d6 := s6 _ _ d5
        have le6 := s6 _ _ le5
        have hlk := hA.lt k hks
        have hts : (ts.map V.ref).length ≤ 900 := by
          rw [List.length_map, ev5.1]
          have := evAll_len (G := G) hone (o := o.take i) fun j hj => hsub j (List.mem_of_mem_take hj)
          rw [List.length_take] at this
          omega
        walk_at "rg"
        refine ⟨r, dx, g, la, le, dt, li, .ref ta, k, as, G.its k, _, rfl, r6, l6, hll, hIt.kt (KT.of s6), (hG.len k hlk).2, le6, hts, fun H7 us p k7 le7 ev7 _ => ?_⟩
        walk_at "rg"
        refine ⟨_, ts ++ us, rfl, (k5.same s6).trans k7, by rw [List.map_append]; exact le7, ?_⟩
        have e1 : evAll G (o.take (i + 1)) = evAll G (o.take i) ++ evsOf k (G.its k) := by
          rw [take_succ hki]
          unfold evAll
          rw [List.flatMap_append]
          show _ ++ (evsOf k (G.its k) ++ []) = _
          rw [List.append_nil]
        rw [e1]
        exact ((ev5.kt (KT.of s6)).kt fun c xs z => k7 _ _ z fun e => by rw [e, le6] at z; cases z).app ev7
      · rintro σ H5 ⟨v, ts, rfl, k5, le5, ev5⟩
        rw [List.length_map, List.take_length] at ev5
        walk_at "rg"
        intro p hp
        have s6 := Same.upd (o := .tup [.str "done"]) hp
        exact q _ ts p (fun b u z => s6 b u (k5 b u (s4 b u (s3 b u z)) (ne_of_none z hle0))) (s6 _ _ (k5 _ _ r4 hrl)) (s6 _ _ le5) (ev5.kt (KT.of s6)) upd_same (fun b u z n1 n2 => s6 b u (k5 b u (s4 b u (k3 b u (s2 b u z) n2)) n1))
theorem sc_Run_exports : FnScope ["self", "found", "wanted", "cell"] ["self"] (defScope s_Run_exports) := ⟨rfl, rfl, rfl, by decide +kernel, rfl, by decide +kernel, by decide +kernel⟩
theorem ok_Run_exports (G : Gm) (hG : G.Ok) (T : Tx K mg) : Dok P w K mg base CX0 44 (He.ma K (He.ga K "Run") "exports") ["self"] (spRnExp K G) := by
  refine Dok.mk0 (T.F_Run_exports) sc_Run_exports rfl (fun _ _ _ _ _ _ us hl => match us, hl with | [_], _ => rfl) (fun vs H Q E h => ?_) (fun cdv A outer s H vs Q E hr h => ?_)
  · obtain ⟨r, dx, g, la, le, dt, dxg, dT, dI, lO, s, o, rfl, _⟩ := h; rfl
  · obtain ⟨r, dx, g, la, le, dt, dxg, dT, dI, lO, s, o, rfl, hr0, hA, hcl, h0, q⟩ := h
    obtain ⟨cR, n1, n2, n3, n4, n5, n6, n7⟩ := T.runs
    obtain ⟨cG, m1, m2, m3, m4⟩ := T.graph
    have hr1 : H r = some (.ins (cRun K) dx (rnF g la le dt)) := hr0
    refine ⟨_, (pss_cons (ps_set (i := 1) sc_Run_exports.nd rfl (Or.inl rfl) pe_dnewK)
        (pss_cons (ps_for PassesOwn.never rfl (pi_list (pm (ok_Graph_exports (K := K) G hG T) T.cl_Graph T.me_Graph_exports hr (pe_fld (pv 0) rfl) (pa_cons (pe_fld (pe_fld (pv 0) rfl) rfl) pa_nil))) (pg_name (i := 2) sc_Run_exports.nd rfl (Or.inl rfl)) pss_never)
        (pss_one (ps_ret (pv 1))))), ?_⟩
    walk_at "sg"
    intro p hp
    have s2 := Same.upd (o := .dK []) hp
    have p2 : (upd H p (.dK [])) p = some (.dK []) := upd_same
    generalize upd H p (.dK []) = H2 at s2 p2 ⊢
    have r2 := s2 _ _ hr1
    have A2 := hA.same s2
    have gob := A2.ob
    walk_at "rg"
    refine ⟨g, dxg, dT, dI, lO, nm 0, s, o, 0, rfl, A2, hcl, h0, fun H3 l s3 hl hl3 => ?_⟩
    walk_at "rg"
    refine rd_forL0 hl3 ?_
    walk_at "rg"
    exact q H3 p (s2.trans s3) (s3 _ _ p2)
end
end K5
set_option maxHeartbeats 4000000




namespace K5
open PySem PySem.Spec PyProof.Rows L2
def spRun (K : PySem.W.Frag) (G : Gm) : Sp := fun vs H Q _ => ∃ (dm : Addr) (s o : List Nat), vs = [.ref dm, .str (nm 0), .ref (emptyAt K)] ∧ H dm = some (.dK G.kvs) ∧ G.Run s o ∧ 0 ∈ s ∧ (∀ k ∈ s, (tellsOf (G.its k)).length ≤ 1) ∧
  ∀ H' le ts pe px t, Same H H' → H' le = some (.lst (ts.map V.ref)) → EvsAt H' ts (evAll G o) → H' pe = some (.tup [.str "done"]) → H' px = some (.dK []) → H' t = some (.tup [.ref le, .ref pe, .ref px]) → Q (.ref t) H'
theorem Tx.t_empty {K : PySem.W.Frag} {mg : Str → Option Value} (T : Tx K mg) (H : Hp) : SqT K H (emptyAt K) [] := by
  have h := (He.ba (He.ba (He.ba (He.ba T.tab).2).2).2).1
  unfold tupAt at h
  split at h
  · rename_i c d its n sl lk
    obtain ⟨h1, h2⟩ := He.ba h
    obtain rfl : c = "tuple" := of_decide_eq_true h1
    have e : its = #[] := Array.isEmpty_iff.mp h2
    subst e
    exact .inr ⟨_, #[], n, lk, rfl, rfl, Nat.zero_le _, .nil⟩
  · cases h
section
variable {P : Program} {w : World} {K : PySem.W.Frag} {mg : Str → Option Value} {base : Heap}
theorem sc_run : FnScope ["modules", "entry", "answers", "one", "end", "answer"] ["modules", "entry", "answers"] (defScope s_run) := ⟨rfl, rfl, rfl, by decide +kernel, rfl, by decide +kernel, by decide +kernel⟩
theorem ok_run (PP : PF P) (G : Gm) (hG : G.Ok) (hp : 0 < G.n) (T : Tx K mg) : ∃ fd ds, FnOk P w K mg base CX0 60 (He.ga K "run") fd ["modules", "entry", "answers"] (spRun K G) ∧ Vals [.ref (emptyAt K)] ds ∧ Binds K fd ["modules", "entry", "answers"] ds ∧ PySem.W.keepIn K (.ref (He.ga K "run")) = true := by
  obtain ⟨fd, F⟩ := T.F_run
  have F : FunD K d_run.name d_run.qual d_run.params d_run.body d_run.scope [] [(("answers" : Str), .ref (emptyAt K))] (He.ga K "run") fd := F
  obtain ⟨ds, hv, hb⟩ := F.binds0 (ps := ["modules", "entry", "answers"]) 2 (by simp) rfl (fun D doc pm an cdv ct us ks hu hk => match us, ks, hu, hk with | [_, _], [_], _, _ => ⟨_, _, _, _, _, _, rfl, rfl, rfl⟩)
  refine ⟨fd, ds, F.ok sc_run (fun vs H Q E h => ?_) (fun cdv A outer s H vs Q E hr h => ?_), hv, hb, F.kp⟩
  · obtain ⟨dm, s, o, rfl, _⟩ := h; rfl
  suffices z : ∃ t, PSs (cxOf CX0 P w K mg base ["modules", "entry", "answers", "one", "end", "answer"] d_run.qual d_run.scope (He.ga K "run") cdv A outer s H E).nox d_run.body t ∧ t { nx := fun _ H' => Q .non H', rt := Q } (L2.start ["modules", "entry", "answers", "one", "end", "answer"] vs) H by
    obtain ⟨t, h1, q1⟩ := z
    exact ⟨t, h1.nox, q1⟩
  · obtain ⟨dm, s, o, rfl, hdm, hR, h0, h1, q⟩ := h
    obtain ⟨cR, n1, n2, n3, n4, n5, n6, n7⟩ := T.runs
    refine ⟨_, (pss_cons (ps_set (i := 3) sc_run.nd rfl (Or.inl rfl) (pk T.mk_Run (ok_Run_init (K := K) T) T.g_Run hr (pa_cons (pc (ok_checked (K := K) PP G hG hp T) T.g_checked hr (pa_cons (pv 0) (pa_cons (pv 1) pa_nil))) (pa_cons (pe_lc (own := [("answer", 5)]) (g := gName 5) rfl sc_run.nd (pi_tup (pv 2)) (blkOk_by (own := [("answer", 5)]) (N := ["modules", "entry", "answers", "one", "end", "answer"]) (sc := defScope s_run) (by decide +kernel)) (fun _ _ _ _ _ => (pg_name (i := 5) sc_run.nd rfl (Or.inl rfl))) (fun _ _ _ _ _ => pts_nil) (fun _ _ _ _ _ => (pe_op op_mod (pv 5) (C8.pe_gc rfl T.i_SIZE)))) pa_nil))))
        (pss_cons (ps_set (i := 4) sc_run.nd rfl (Or.inl rfl) (pm0 (ok_Run_whole (K := K) G hG T) T.cl_Run T.me_Run_whole hr (pv 3)))
        (pss_one (ps_ret (pe_tup (pa_cons (pe_fld (pv 3) rfl) (pa_cons (pv 4) (pa_cons (pm0 (ok_Run_exports (K := K) G hG T) T.cl_Run T.me_Run_exports hr (pv 3)) pa_nil)))))))), ?_⟩
    walk_at "sg"
    refine ⟨dm, s, o, rfl, hdm, hR, fun H1 g dxg dT dI lO s1 A1 => ?_⟩
    walk_at "rg"
    refine rd_lcT0 (T.t_empty _) fun la hla => ?_
    have s2 := Same.upd (o := .lst []) hla
    generalize upd H1 la (.lst []) = H2 at s2 ⊢
    have A2 := A1.same s2
    walk_at "rg"
    intro r dxr hr0 hdx hne
    have s3 : Same H2 (upd (upd H2 dxr (.own r)) r (.ins (cRun K) dxr [])) := fun b u e => by
      rw [upd_ne (ne_of_none e hr0), upd_ne (ne_of_none e hdx)]
      exact e
    refine ⟨r, dxr, g, la, rfl, upd_same, fun H4 le dt k4 r4 le4 dt4 hle hdt => ⟨rfl, ?_⟩⟩
    have s4 : Same H2 H4 := fun b u e => k4 b u (s3 b u e) (ne_of_none e hr0)
    have hle2 : H2 le = none := same_none s3 hle
    have hdt2 : H2 dt = none := same_none s3 hdt
    have r4' : H4 r = some (.ins (cRun K) dxr (rnF g la le dt)) := r4
    walk_at "rg"
    refine ⟨H2, r, dxr, g, la, le, dt, dxg, dT, dI, lO, nm 0, s, o, rfl, r4, A2, s4, hle2, hdt2, le4, dt4, hR.sub, h1, fun H5 ts pe s5 r5 le5 ev5 pe5 _ => ?_⟩
    have r5' : H5 r = some (.ins (cRun K) dxr (rnF g la le dt)) := r5
    have A5 := A2.same s5
    walk_at "rg"
    refine ⟨r, dxr, g, la, le, dt, dxg, dT, dI, lO, s, o, rfl, r5, A5, hR.cl, h0, fun H6 px s6 px6 => ?_⟩
    walk_at "rg"
    intro t ht
    have s7 := Same.upd (o := .tup [.ref le, .ref pe, .ref px]) ht
    exact q _ le ts pe px t ((((s1.trans s2).trans s5).trans s6).trans s7) (s7 _ _ (s6 _ _ le5)) ((ev5.kt (KT.of s6)).kt (KT.of s7)) (s7 _ _ (s6 _ _ pe5)) (s7 _ _ px6) upd_same
end
end K5
set_option maxHeartbeats 4000000
namespace K5
open PySem PySem.Spec PyProof.Rows L2
theorem len_app (u z : Str) : (u ++ z).length = u.length + z.length := by
  rw [← SX.S_tl u, ← SX.S_tl z, SX.S_cat, SX.S_len, SX.S_len, SX.S_len, List.length_append]
/-! xs[l % c].replace('y', g + 'z'): the tokens are carried -/
def tReplQ (ta tl : TE) (r1 rx : R2) (c : Int) (tg : TE) (y z : Str) : TE := fun σ H Q => ta σ H fun x H1 => tl σ H1 fun b H2 => r1 b (.int c) H2 fun b2 H3 => rx x b2 H3 fun v H4 => ∃ t, v = .str t ∧ tg σ H4 fun w H5 => ∃ u, w = .str u ∧
  0 < u.length ∧ u.length + z.length ≤ sizeLine ∧ (y == u ++ z) = false ∧ t.length + (t.length + 1) * (u ++ z).length ≤ 16777216 ∧ Q (.str (Txt.replace t y (u ++ z))) H5
section
variable {X : Cx} {a l g : Expr} {ta tl tg : TE} {r1 rx : R2} {c : Int} {y z : Str} {j k jc : Nat} {c0 c1 pc pm po pz apos pos : Pos}
theorem pe_replQ (ha : PE X a ta) (hl : PE X l tl) (h1 : OpR X (binaryOp .Mod) r1) (hx : IxR X rx) (hg : PE X g tg) (hz : 0 < z.length) (hs : PlainIx (.BinOp l .Mod (.Constant (.int c) jc pc) pm))
    (hst : starEach [.Constant (.str y) j c0, .BinOp g .Add (.Constant (.str z) k c1) pz] X.env = [(false, eval (.Constant (.str y) j c0) X.env), (false, eval (.BinOp g .Add (.Constant (.str z) k c1) pz) X.env)] := by rfl)
    (hbase : attributeBase (.Subscript a (.BinOp l .Mod (.Constant (.int c) jc pc) pm) po) "replace" X.env (eval (.Subscript a (.BinOp l .Mod (.Constant (.int c) jc pc) pm) po) X.env) = eval (.Subscript a (.BinOp l .Mod (.Constant (.int c) jc pc) pm) po) X.env := by rfl)
    (hline : (apos.endLine == pos.line) = true := by rfl) :
    PE X (.Call (.Attribute (.Subscript a (.BinOp l .Mod (.Constant (.int c) jc pc) pm) po) "replace" apos) [.Constant (.str y) j c0, .BinOp g .Add (.Constant (.str z) k c1) pz] [] pos) (tReplQ ta tl r1 rx c tg y z) := by
  refine ⟨fun pins s σ H Q I h => ?_⟩
  have first : wpAny (model X.prog X.w) X.A (eval (.Subscript a (.BinOp l .Mod (.Constant (.int c) jc pc) pm) po) X.env) (fun v s1 => 1 ≤ s1.toks ∧ EP X pins σ (fun v H4 => ∃ t, v = .str t ∧ tg σ H4 fun w H5 => ∃ u, w = .str u ∧
      0 < u.length ∧ u.length + z.length ≤ sizeLine ∧ (y == u ++ z) = false ∧ t.length + (t.length + 1) * (u ++ z).length ≤ 16777216 ∧ Q (.str (Txt.replace t y (u ++ z))) H5) v s1) X.xe s := by
    refine PyProof.Rows.Subscript_ (thn (ha.run pins s σ H _ I h) fun v s1 ⟨x, H1, I1, rx1, q1⟩ => wpAny_BinOp (thn (hl.run pins s1 σ H1 _ I1 q1) fun u s2 ⟨b, H2, I2, ry, q2⟩ => wpAny_Constant_int ?_))
    have hk : 1 ≤ ({ s2 with toks := s2.toks + 1 } : Shared).toks := Nat.succ_le_succ (Nat.zero_le _)
    refine wpAny_mono (wpAny_toks_of hk (h1 pins { s2 with toks := s2.toks + 1 } σ H2 b (.int c) u (.int c s2.toks) _ (I2.tok _) ry ⟨_, rfl⟩ q2)) (fun m s3 ⟨k3, b2, H3, I3, r3, q3⟩ => ?_) fun _ _ e => e.2
    exact wpAny_mono (wpAny_toks_of k3 (hx _ _ pins s3 σ H3 x b2 v m _ I3 rx1 r3 q3 (hs _ _))) (fun m s4 e => e) fun _ _ e => e.2
  refine PySem.Call_method2 hbase hst hline (thn first fun v s1 ⟨k1, v', H4, I4, r4, t, ev, q⟩ => ?_)
  subst ev
  obtain ⟨tx, ev⟩ := r4
  subst ev
  refine ⟨"str", _, PySem.F.plainAttrs_str, PySem.F.slot_str_replace, PySem.F.type_str_replace, typeIs_str _ _ _, (fun _ e => nomatch e), Calls.callWith_builtin rfl (Calls.evalArgs_plain (Calls.spliced_cons ?_))⟩
  refine Calls.Constant_str (Calls.spliced_cons ?_)
  refine wpAny_BinOp (wpAny_mono (wpAny_toks (hg.run pins { s1 with toks := s1.toks + 1 } σ H4 _ (I4.tok _) q)) (fun gv s2 ⟨k2, w, H5, I5, r5, u, ew, hu, hz2, hyz, hb, q5⟩ => ?_) fun _ _ e => e.2)
  subst ew
  obtain ⟨tu, ew⟩ := r5
  subst ew
  refine Calls.Constant_str (PySem.P.add_str ?_)
  have e1 : (u.length == 0) = false := beq_eq_false_iff_ne.mpr (Nat.ne_of_gt hu)
  have e2 : (z.length == 0) = false := beq_eq_false_iff_ne.mpr (Nat.ne_of_gt hz)
  rw [e1, e2]
  have k2 : s1.toks + 1 ≤ s2.toks := k2
  refine ⟨by
    rw [len_app]
    exact hz2, Calls.spliced_nil ?_⟩
  exact PySem.SC.replace (by show s1.toks ≠ 0; omega) (by show s2.toks + 1 ≠ 0; omega) (by show s1.toks ≠ s2.toks + 1; omega) hyz hb fun t' k => ⟨.str (Txt.replace t y (u ++ z)), H5, I5.tok _, ⟨t', rfl⟩, q5⟩
end
end K5
set_option maxHeartbeats 4000000
namespace K5
open PySem PySem.Spec PyProof.Rows L2
/-! the law's modules as signs and as items -/
def sL (j : Nat) : List Nat := (("s" : Str) ++ ns j).cps.toList
def formsL : List Str := ["import ", "import * as s from ", "export * from ", "import { } from ", "export { } from "]
def formL (f j : Nat) : Str := Txt.replace (formsL.getD f "") " s " (" s" ++ ns j ++ " ")
def pieceL (f j m : Nat) : List Nat := (formL f j).cps.toList ++ (34 :: (nmL m ++ [34, 59, 32]))
def tellL (k : Nat) : List Nat := (("tell " : Str) ++ ns k ++ ";").cps.toList
abbrev Edge := Nat × Nat
def textP : Nat → List Edge → List Nat
  | _, [] => []
  | j, e :: r => pieceL e.2 j e.1 ++ textP (j + 1) r
def textL (k : Nat) (x : List Edge) : List Nat := textP 0 x ++ tellL k
def itOf (f j m : Nat) : Itm := match f with
  | 0 => .need (nmL m)
  | 1 => .space (nmL m) (sL j)
  | 2 => .star (nmL m)
  | 3 => .imp (nmL m)
  | _ => .frm (nmL m)
def itsP : Nat → List Edge → List Itm
  | _, [] => []
  | j, e :: r => itOf e.2 j e.1 :: itsP (j + 1) r
def itsL (k : Nat) (x : List Edge) : List Itm := itsP 0 x ++ [.tell k]
theorem textP_snoc {e : Edge} : ∀ (x : List Edge) (j : Nat), textP j (x ++ [e]) = textP j x ++ pieceL e.2 (j + x.length) e.1
  | [], j => List.append_nil _
  | a :: x, j => by
    show pieceL a.2 j a.1 ++ textP (j + 1) (x ++ [e]) = pieceL a.2 j a.1 ++ textP (j + 1) x ++ _
    rw [textP_snoc x (j + 1), List.append_assoc, List.length_cons, Nat.add_right_comm, Nat.add_assoc j]
/-! tokens -/
theorem tw_app {p : Nat → Bool} {c : Nat} {r : List Nat} (hc : p c = false) : ∀ {u : List Nat}, (∀ x ∈ u, p x = true) → (u ++ c :: r).takeWhile p = u
  | [], _ => by
    show (c :: r).takeWhile p = []
    rw [List.takeWhile_cons, hc]
    rfl
  | x :: u, h => by
    show (x :: (u ++ c :: r)).takeWhile p = _
    rw [List.takeWhile_cons, h x List.mem_cons_self, if_pos rfl, tw_app hc fun y hy => h y (List.mem_cons_of_mem _ hy)]
theorem tok_quote {u r : List Nat} (h : ∀ x ∈ u, inNm x = true) (h0 : u ≠ []) (hl : u.length ≤ 20) : tokOf (34 :: (u ++ 34 :: r)) = some (tkS u, u.length + 2) := by
  have e : (u ++ 34 :: r).takeWhile inNm = u := tw_app rfl h
  rw [tok_str rfl rfl rfl, e, if_neg h0, if_neg (Nat.not_lt.mpr hl)]
  rw [if_pos (by rw [List.getElem?_append_right (Nat.le_refl _), Nat.sub_self]; rfl)]
theorem nm_ok : ∀ k : Fin 64, (nmL k).all inNm = true ∧ nmL k ≠ [] ∧ (nmL k).length ≤ 3 := by decide +kernel
theorem lex_tail {m : Nat} (hm : m < 64) {r : List Nat} {ts : List Tok} (h : Lex r ts) : Lex (34 :: (nmL m ++ [34, 59, 32]) ++ r) (tkS (nmL m) :: tkG 59 :: ts) := by
  obtain ⟨h1, h2, h3⟩ := nm_ok ⟨m, hm⟩
  have h4 : ∀ x ∈ nmL m, inNm x = true := fun x hx => List.all_eq_true.mp h1 x hx
  have e : (34 :: (nmL m ++ [34, 59, 32]) ++ r) = 34 :: (nmL m ++ 34 :: (59 :: 32 :: r)) := by
    show 34 :: (nmL m ++ [34, 59, 32] ++ r) = _
    rw [List.append_assoc]
    rfl
  rw [e]
  refine .tok (tok_quote h4 h2 (Nat.le_trans h3 (by decide))) ?_
  have e2 : (34 :: (nmL m ++ 34 :: (59 :: 32 :: r))).drop ((nmL m).length + 2) = 59 :: 32 :: r := by
    show (nmL m ++ 34 :: (59 :: 32 :: r)).drop ((nmL m).length + 1) = _
    rw [← List.drop_drop, List.drop_left]
    rfl
  rw [e2]
  exact .tok (t := tkG 59) (n := 1) rfl (.sp h)
theorem lex_w {w r : List Nat} {t : Tok} {ts : List Tok} {c : Nat} {w' : List Nat} (hw : w = c :: w') (h : tokOf (w ++ 32 :: r) = some (t, w.length)) (hr : Lex r ts) : Lex (w ++ 32 :: r) (t :: ts) := by
  subst hw
  refine .tok (c := c) (r := w' ++ 32 :: r) h ?_
  have e : (c :: (w' ++ 32 :: r)).drop (c :: w').length = 32 :: r := List.drop_left (l₁ := c :: w')
  rw [e]
  exact .sp hr
theorem kw_import {r : List Nat} : tokOf ([105, 109, 112, 111, 114, 116] ++ 32 :: r) = some (kw "import", 6) := by rfl
theorem kw_export {r : List Nat} : tokOf ([101, 120, 112, 111, 114, 116] ++ 32 :: r) = some (kw "export", 6) := by rfl
theorem kw_from {r : List Nat} : tokOf ([102, 114, 111, 109] ++ 32 :: r) = some (kw "from", 4) := by rfl
theorem kw_as {r : List Nat} : tokOf ([97, 115] ++ 32 :: r) = some (kw "as", 2) := by rfl
theorem kw_tell {r : List Nat} : tokOf ([116, 101, 108, 108] ++ 32 :: r) = some (kw "tell", 4) := by rfl
theorem form0 : ∀ j : Fin 3, (formL 0 j).cps.toList = [105, 109, 112, 111, 114, 116, 32] := by decide +kernel
theorem form1 : ∀ j : Fin 3, (formL 1 j).cps.toList = [105, 109, 112, 111, 114, 116, 32, 42, 32, 97, 115, 32] ++ (sL j ++ [32, 102, 114, 111, 109, 32]) := by decide +kernel
theorem form2 : ∀ j : Fin 3, (formL 2 j).cps.toList = [101, 120, 112, 111, 114, 116, 32, 42, 32, 102, 114, 111, 109, 32] := by decide +kernel
theorem form3 : ∀ j : Fin 3, (formL 3 j).cps.toList = [105, 109, 112, 111, 114, 116, 32, 123, 32, 125, 32, 102, 114, 111, 109, 32] := by decide +kernel
theorem form4 : ∀ j : Fin 3, (formL 4 j).cps.toList = [101, 120, 112, 111, 114, 116, 32, 123, 32, 125, 32, 102, 114, 111, 109, 32] := by decide +kernel
theorem sL_is : ∀ j : Fin 3, sL j = [115, 48 + j.val] := by decide +kernel
theorem tok_s (j : Nat) (hj : j < 3) {r : List Nat} : tokOf ([115, 48 + j] ++ 32 :: r) = some (tkN [115, 48 + j], 2) := by
  rcases j with _ | _ | _ | j
  · rfl
  · rfl
  · rfl
  · omega
theorem sign_sp {c : Nat} {r : List Nat} {ts : List Tok} (h : tokOf (c :: 32 :: r) = some (tkG c, 1)) (hr : Lex r ts) : Lex (c :: 32 :: r) (tkG c :: ts) := .tok h (.sp hr)
theorem lex_piece {f j m : Nat} (hf : f < 5) (hj : j < 3) (hm : m < 64) {r : List Nat} {ts : List Tok} (h : Lex r ts) : Lex (pieceL f j m ++ r) (itToks (itOf f j m) ++ ts) := by
  have ht := lex_tail hm h
  unfold pieceL
  rcases f with _ | _ | _ | _ | _ | f
  · rw [form0 ⟨j, hj⟩]
    exact lex_w (w := [105, 109, 112, 111, 114, 116]) rfl kw_import ht
  · rw [form1 ⟨j, hj⟩]
    show Lex (([105, 109, 112, 111, 114, 116, 32, 42, 32, 97, 115, 32] ++ (sL j ++ [32, 102, 114, 111, 109, 32])) ++ (34 :: (nmL m ++ [34, 59, 32])) ++ r) (kw "import" :: tkG 42 :: kw "as" :: tkN (sL j) :: kw "from" :: tkS (nmL m) :: tkG 59 :: ts)
    rw [show sL j = [115, 48 + j] from sL_is ⟨j, hj⟩]
    exact lex_w (w := [105, 109, 112, 111, 114, 116]) rfl kw_import (sign_sp rfl (lex_w (w := [97, 115]) rfl kw_as (lex_w (w := [115, 48 + j]) rfl (tok_s j hj) (lex_w (w := [102, 114, 111, 109]) rfl kw_from ht))))
  · rw [form2 ⟨j, hj⟩]
    exact lex_w (w := [101, 120, 112, 111, 114, 116]) rfl kw_export (sign_sp rfl (lex_w (w := [102, 114, 111, 109]) rfl kw_from ht))
  · rw [form3 ⟨j, hj⟩]
    exact lex_w (w := [105, 109, 112, 111, 114, 116]) rfl kw_import (sign_sp rfl (sign_sp rfl (lex_w (w := [102, 114, 111, 109]) rfl kw_from ht)))
  · rw [form4 ⟨j, hj⟩]
    exact lex_w (w := [101, 120, 112, 111, 114, 116]) rfl kw_export (sign_sp rfl (sign_sp rfl (lex_w (w := [102, 114, 111, 109]) rfl kw_from ht)))
  · omega
theorem tell_is : ∀ k : Fin 10, tellL k = [116, 101, 108, 108, 32, 48 + k.val, 59] := by decide +kernel
theorem tok_d {k : Nat} (hk : k < 10) : tokOf [48 + k, 59] = some (tkI k, 1) := by
  have h : ∀ k : Fin 10, isLet (48 + k.val) = false ∧ isDig (48 + k.val) = true := by decide
  obtain ⟨h1, h2⟩ := h ⟨k, hk⟩
  rw [tok_dig h1 h2]
  have e : (((48 + k : Nat) : Int) - 48) = k := by omega
  rw [e]
  rfl
theorem lex_tell {k : Nat} (hk : k < 10) : Lex (tellL k) [kw "tell", tkI k, tkG 59] := by
  rw [show tellL k = [116, 101, 108, 108, 32, 48 + k, 59] from tell_is ⟨k, hk⟩]
  exact lex_w (w := [116, 101, 108, 108]) rfl kw_tell (.tok (tok_d hk) (.tok (t := tkG 59) (n := 1) rfl .nil))
/-- edges that the law makes -/
def EdOk (n : Nat) (x : List Edge) : Prop := x.length ≤ 3 ∧ ∀ e ∈ x, e.1 < n ∧ e.2 < 5
theorem lex_text {n k : Nat} (hn : n ≤ 64) (hk : k < 10) : ∀ (x : List Edge) (j : Nat), j + x.length ≤ 3 → (∀ e ∈ x, e.1 < n ∧ e.2 < 5) → Lex (textP j x ++ tellL k) ((itsP j x ++ [Itm.tell (k : Int)]).flatMap itToks)
  | [], j, _, _ => lex_tell hk
  | e :: x, j, hj, hx => by
    have ih := lex_text hn hk x (j + 1) (by rw [List.length_cons] at hj; omega) fun y hy => hx y (List.mem_cons_of_mem _ hy)
    obtain ⟨h1, h2⟩ := hx e List.mem_cons_self
    have q := lex_piece (j := j) h2 (by rw [List.length_cons] at hj; omega) (Nat.lt_of_lt_of_le h1 hn) ih
    have e1 : textP j (e :: x) ++ tellL k = pieceL e.2 j e.1 ++ (textP (j + 1) x ++ tellL k) := List.append_assoc _ _ _
    rw [e1]
    exact q
theorem piece_len {f j m : Nat} (hf : f < 5) (hj : j < 3) (hm : m < 64) : (pieceL f j m).length ≤ 60 := by
  have h : ∀ (f : Fin 5) (j : Fin 3), (formL f j).cps.toList.length ≤ 30 := by decide +kernel
  have h1 := h ⟨f, hf⟩ ⟨j, hj⟩
  have h2 := (nm_ok ⟨m, hm⟩).2.2
  unfold pieceL
  rw [List.length_append, List.length_cons, List.length_append]
  show (formL f j).cps.toList.length + ((nmL m).length + 3 + 1) ≤ 60
  have h1 : (formL f j).cps.toList.length ≤ 30 := h1
  have h2 : (nmL m).length ≤ 3 := h2
  omega
theorem textP_len {n : Nat} (hn : n ≤ 64) : ∀ (x : List Edge) (j : Nat), j + x.length ≤ 3 → (∀ e ∈ x, e.1 < n ∧ e.2 < 5) → (textP j x).length ≤ 60 * x.length
  | [], j, _, _ => Nat.le_refl _
  | e :: x, j, hj, hx => by
    have ih := textP_len hn x (j + 1) (by rw [List.length_cons] at hj; omega) fun y hy => hx y (List.mem_cons_of_mem _ hy)
    obtain ⟨h1, h2⟩ := hx e List.mem_cons_self
    have q := piece_len (j := j) h2 (by rw [List.length_cons] at hj; omega) (Nat.lt_of_lt_of_le h1 hn)
    show (pieceL e.2 j e.1 ++ textP (j + 1) x).length ≤ 60 * (x.length + 1)
    rw [List.length_append]
    omega
theorem its_len : ∀ (x : List Edge) (j : Nat), (itsP j x).length = x.length
  | [], _ => rfl
  | e :: x, j => congrArg Nat.succ (its_len x (j + 1))
theorem its_needs : ∀ (x : List Edge) (j : Nat), needsOf (itsP j x) = x.map fun e => nmL e.1
  | [], _ => rfl
  | e :: x, j => by
    have ih := its_needs x (j + 1)
    show needOf (itOf e.2 j e.1) ++ needsOf (itsP (j + 1) x) = nmL e.1 :: x.map fun e => nmL e.1
    rw [ih]
    have h : needOf (itOf e.2 j e.1) = [nmL e.1] := by
      unfold itOf
      split <;> rfl
    rw [h]
    rfl
theorem its_tells : ∀ (x : List Edge) (j : Nat), tellsOf (itsP j x) = []
  | [], _ => rfl
  | e :: x, j => by
    show tellOf (itOf e.2 j e.1) ++ tellsOf (itsP (j + 1) x) = []
    rw [its_tells x (j + 1)]
    unfold itOf
    split <;> rfl
theorem sL_inj {i j : Nat} (hi : i < 3) (hj : j < 3) (h : sL i = sL j) : i = j := by
  rw [show sL i = [115, 48 + i] from sL_is ⟨i, hi⟩, show sL j = [115, 48 + j] from sL_is ⟨j, hj⟩] at h
  have := (List.cons.inj (List.cons.inj h).2).1
  omega
theorem its_spaces : ∀ (x : List Edge) (j : Nat), j + x.length ≤ 3 → (spacesOf (itsP j x)).Nodup ∧ ∀ z ∈ spacesOf (itsP j x), ∃ i, j ≤ i ∧ i < 3 ∧ z = sL i
  | [], _, _ => ⟨List.nodup_nil, fun z hz => absurd hz List.not_mem_nil⟩
  | e :: x, j, hj => by
    rw [List.length_cons] at hj
    obtain ⟨h1, h2⟩ := its_spaces x (j + 1) (by omega)
    have e1 : spacesOf (itsP j (e :: x)) = spaceOf (itOf e.2 j e.1) ++ spacesOf (itsP (j + 1) x) := rfl
    rw [e1]
    have h3 : spaceOf (itOf e.2 j e.1) = [] ∨ spaceOf (itOf e.2 j e.1) = [sL j] := by
      unfold itOf
      split
      · exact .inl rfl
      · exact .inr rfl
      · exact .inl rfl
      · exact .inl rfl
      · exact .inl rfl
    rcases h3 with h3 | h3
    · rw [h3]
      exact ⟨h1, fun z hz => let ⟨i, a, b, c⟩ := h2 z hz; ⟨i, by omega, b, c⟩⟩
    · rw [h3]
      refine ⟨List.nodup_cons.mpr ⟨fun hz => ?_, h1⟩, fun z hz => ?_⟩
      · obtain ⟨i, a, b, c⟩ := h2 _ hz
        have := sL_inj (by omega) b c
        omega
      · rcases List.mem_cons.mp hz with rfl | hz
        · exact ⟨j, Nat.le_refl _, by omega, rfl⟩
        · obtain ⟨i, a, b, c⟩ := h2 _ hz
          exact ⟨i, by omega, b, c⟩
/-! the graph of the law's modules -/
def kvL (n : Nat) (L : List (List Edge)) : List (Key × V) := (List.range n).map fun k => (.inr (nm k), .str (S (textL k (L.getD k []))))
def gmL (L : List (List Edge)) : Gm := ⟨L.length, fun k => decide (k < L.length), fun k => (L.getD k []).map (·.1), fun k => itsL k (L.getD k []), fun k => textL k (L.getD k []), kvL L.length L⟩
theorem valV_kv {f : Nat → V} {n k : Nat} (hn : n ≤ 64) (hk : k < n) : valV ((List.range n).map fun k => ((.inr (nm k) : Key), f k)) (.inr (nm k)) = some (f k) := by
  induction n with
  | zero => omega
  | succ n ih =>
    rw [List.range_succ, List.map_append]
    have none' : ∀ m, m ≤ n → valV ((List.range m).map fun k => ((.inr (nm k) : Key), f k)) (.inr (nm n)) = none := by
      intro m
      induction m with
      | zero => intro _; rfl
      | succ m ihm =>
        intro hm
        rw [List.range_succ, List.map_append]
        show valV (_ ++ [(Sum.inr (nm m), f m)]) (.inr (nm n)) = none
        by_cases c : valV ((List.range m).map fun k => ((.inr (nm k) : Key), f k)) (.inr (nm m)) = none
        · rw [valV_snoc _ _ _ _ c, if_neg fun z => by
            have := nm_inj (by omega) (by omega) (Sum.inr.inj z)
            omega]
          exact ihm (by omega)
        · exfalso
          apply c
          have : ∀ (l : List Nat), (∀ i ∈ l, i < m) → valV (l.map fun k => ((.inr (nm k) : Key), f k)) (.inr (nm m)) = none := by
            intro l
            induction l with
            | nil => intro _; rfl
            | cons i l ihl =>
              intro hl
              show valV ((Sum.inr (nm i), f i) :: _) _ = none
              rw [valV_neg fun z => by
                have h1 := nm_inj (by have := hl i List.mem_cons_self; omega) (by omega) (Sum.inr.inj z)
                have h2 := hl i List.mem_cons_self
                omega]
              exact ihl fun i hi => hl i (List.mem_cons_of_mem _ hi)
          exact this _ fun i hi => List.mem_range.mp hi
    show valV (_ ++ [(Sum.inr (nm n), f n)]) (.inr (nm k)) = some (f k)
    rw [valV_snoc _ _ _ _ (none' n (Nat.le_refl _))]
    by_cases c : k = n
    · subst c
      rw [if_pos rfl]
    · rw [if_neg fun z => c (nm_inj (by omega) (by omega) (Sum.inr.inj z))]
      exact ih (by omega) (by omega)
def LOk (L : List (List Edge)) : Prop := 0 < L.length ∧ L.length ≤ 9 ∧ ∀ x ∈ L, EdOk L.length x
theorem getD_mem {α : Type} {L : List α} {k : Nat} {d : α} (h : k < L.length) : L.getD k d ∈ L := by
  rw [List.getD_eq_getElem?_getD, List.getElem?_eq_getElem h]
  exact List.getElem_mem h
theorem gmL_ok {L : List (List Edge)} (h : LOk L) : (gmL L).Ok := by
  obtain ⟨h0, h9, hx⟩ := h
  have hm : ∀ k, k < L.length → EdOk L.length (L.getD k []) := fun k hk => hx _ (getD_mem hk)
  have tl : ∀ k : Fin 10, (tellL k).length ≤ 7 := by decide +kernel
  refine ⟨by show L.length ≤ 64; omega, fun k hk m hm' => ?_, fun k hk => ?_, fun k hk => ?_, fun k hk _ => ?_, fun k hk => ?_⟩
  · obtain ⟨e, he, rfl⟩ := List.mem_map.mp hm'
    exact ((hm k hk).2 e he).1
  · have hk' : k < L.length := hk
    show valV (kvL L.length L) (.inr (nm k)) = if decide (k < L.length) = true then _ else _
    rw [decide_eq_true hk', if_pos rfl]
    exact valV_kv (by omega) hk'
  · have hk' : k < L.length := hk
    obtain ⟨a, b⟩ := hm k hk'
    have t1 := textP_len (n := L.length) (by omega) (L.getD k []) 0 (by omega) b
    have t2 := tl ⟨k, by omega⟩
    have t2 : (tellL k).length ≤ 7 := t2
    refine ⟨?_, ?_⟩
    · show (textP 0 (L.getD k []) ++ tellL k).length ≤ 20000
      rw [List.length_append]
      omega
    · show (itsP 0 (L.getD k []) ++ [Itm.tell (k : Int)]).length ≤ 100
      rw [List.length_append, its_len]
      show _ + 1 ≤ 100
      omega
  · have hk' : k < L.length := hk
    obtain ⟨a, b⟩ := hm k hk'
    exact lex_text (n := L.length) (k := k) (by omega) (by omega) (L.getD k []) 0 (by omega) b
  · show needsOf (itsP 0 (L.getD k []) ++ [Itm.tell (k : Int)]) = ((L.getD k []).map (·.1)).map nmL
    unfold needsOf
    rw [List.flatMap_append]
    show needsOf (itsP 0 (L.getD k [])) ++ [] = _
    rw [its_needs, List.append_nil, List.map_map]
    rfl
end K5
set_option maxHeartbeats 4000000




namespace K5
open PySem PySem.Spec PyProof.Rows L2
/-! the law's own defs -/
theorem sql_same {K : PySem.W.Frag} {H H' : Hp} {a : Addr} {xs : List V} (h : SqL K H a xs) (e : Same H H') : SqL K H' a xs := e.seq h
theorem rd_lenQ {K : PySem.W.Frag} {H : Hp} {Q : VK} {p : Addr} {xs : List V} (h : SqL K H p xs) (q : Q (.int (xs.length : Int)) H) : rLenSeq K [.ref p] H Q := ⟨p, xs, rfl, .inl h, q⟩
theorem rd_ixQ {K : PySem.W.Frag} {H : Hp} {Q : VK} {p : Addr} {xs : List V} {v : V} {j : Nat} (h : SqL K H p xs) (e : xs[j]? = some v) (q : Q v H) : rIxL K (.ref p) (.int (j : Int)) H Q := ⟨p, xs, j, v, rfl, rfl, h, atI_nat e, q⟩
theorem rd_rng1 {σ : L2.St} {H : Hp} {ta : TA} {R : It → Hp → Prop} (h : ta σ H fun vs H1 => ∃ j : Int, vs = [.int j] ∧ -(2 ^ 62) ≤ j ∧ j < 2 ^ 62 ∧ R (Itr 0 j.toNat) H1) : iRng1 ta σ H R := h
theorem rd_rngI {i : Int} {PR : Int → Prop} (h1 : 0 ≤ i) (h2 : i ≤ 100000) (h : PR i) : ∃ j : Int, [V.int i] = [.int j] ∧ -(2 ^ 62) ≤ j ∧ j < 2 ^ 62 ∧ PR j :=
  ⟨i, rfl, by
    have : (0 : Int) ≤ 2 ^ 62 := by decide
    omega, by
    have : (100000 : Int) < 2 ^ 62 := by decide
    omega, h⟩
section
variable {σ : L2.St} {H : Hp} {Q : VK} {QS : L2.St → Hp → Prop} {v : V} {a0 a1 a2 a3 a4 a5 a6 a7 a8 a9 a10 a11 : Option V} {ta tl tg : TE} {r1 rx : R2} {c : Int} {y z : Str}
theorem rd_v10 (h : Q v H) : tVar 10 (a0 :: a1 :: a2 :: a3 :: a4 :: a5 :: a6 :: a7 :: a8 :: a9 :: some v :: σ) H Q := ⟨_, rfl, h⟩
theorem rd_v11 (h : Q v H) : tVar 11 (a0 :: a1 :: a2 :: a3 :: a4 :: a5 :: a6 :: a7 :: a8 :: a9 :: a10 :: some v :: σ) H Q := ⟨_, rfl, h⟩
theorem rd_g10 (h : QS (a0 :: a1 :: a2 :: a3 :: a4 :: a5 :: a6 :: a7 :: a8 :: a9 :: some v :: σ) H) : gName 10 v (a0 :: a1 :: a2 :: a3 :: a4 :: a5 :: a6 :: a7 :: a8 :: a9 :: a10 :: σ) H QS := h
theorem rd_g11 (h : QS (a0 :: a1 :: a2 :: a3 :: a4 :: a5 :: a6 :: a7 :: a8 :: a9 :: a10 :: some v :: σ) H) : gName 11 v (a0 :: a1 :: a2 :: a3 :: a4 :: a5 :: a6 :: a7 :: a8 :: a9 :: a10 :: a11 :: σ) H QS := h
theorem rd_replQU (h : ta σ H fun x H1 => tl σ H1 fun b H2 => r1 b (.int c) H2 fun b2 H3 => rx x b2 H3 fun v H4 => ∃ t, v = .str t ∧ tg σ H4 fun w H5 => ∃ u, w = .str u ∧
  0 < u.length ∧ u.length + z.length ≤ sizeLine ∧ (y == u ++ z) = false ∧ t.length + (t.length + 1) * (u ++ z).length ≤ 16777216 ∧ Q (.str (Txt.replace t y (u ++ z))) H5) : tReplQ ta tl r1 rx c tg y z σ H Q := h
end
theorem str_ext {a b : Str} (h : a.cps.toList = b.cps.toList) : a = b := by rw [← SX.S_tl a, ← SX.S_tl b, h]
theorem tl_cat (a b : Str) : (a ++ b).cps.toList = a.cps.toList ++ b.cps.toList := by
  have h := SX.S_cat a.cps.toList b.cps.toList
  rw [SX.S_tl, SX.S_tl] at h
  rw [h]
theorem str_piece (l : List Nat) (f j m : Nat) : S l ++ formL f j ++ "\"n" ++ ns m ++ "\"; " = S (l ++ pieceL f j m) := by
  refine str_ext ?_
  rw [tl_cat, tl_cat, tl_cat, tl_cat]
  show l ++ (formL f j).cps.toList ++ [34, 110] ++ (ns m).cps.toList ++ [34, 59, 32] = l ++ ((formL f j).cps.toList ++ (34 :: ((("n" : Str) ++ ns m).cps.toList ++ [34, 59, 32])))
  rw [tl_cat]
  show l ++ (formL f j).cps.toList ++ [34, 110] ++ (ns m).cps.toList ++ [34, 59, 32] = l ++ ((formL f j).cps.toList ++ ([34, 110] ++ (ns m).cps.toList ++ [34, 59, 32]))
  simp only [List.append_assoc]
theorem str_tell (l : List Nat) (k : Nat) : S l ++ "tell " ++ ns k ++ ";" = S (l ++ tellL k) := by
  refine str_ext ?_
  rw [tl_cat, tl_cat, tl_cat]
  show _ = l ++ (("tell " : Str) ++ ns k ++ ";").cps.toList
  rw [tl_cat, tl_cat]
  simp only [List.append_assoc]
theorem ns_len : ∀ k : Fin 64, (ns k).length ≤ 3 := by decide +kernel
theorem formL_len {f j : Nat} (hf : f < 5) (hj : j < 3) : (formL f j).length ≤ 30 := by
  have h : ∀ (f : Fin 5) (j : Fin 3), (formL f j).length ≤ 30 := by decide +kernel
  exact h ⟨f, hf⟩ ⟨j, hj⟩
theorem cut_take (xs : List V) (t : Nat) : cutV xs none (some (t : Int)) = xs.take t := by
  unfold cutV
  rw [HT.sIx_nat]
  show (xs.drop 0).take (min t xs.length - 0) = xs.take t
  rw [List.drop_zero, Nat.sub_zero]
  by_cases c : t ≤ xs.length
  · rw [Nat.min_eq_left c]
  · rw [Nat.min_eq_right (by omega), List.take_length, List.take_of_length_le (by omega)]
def spCell (K : PySem.W.Frag) : Sp := fun vs H Q _ => ∃ (a : Addr) (xs : List Int) (k : Nat), vs = [.ref a, .int (k : Int)] ∧ SqL K H a (xs.map V.int) ∧ ∀ i : Int, Q (.int i) H
def spNums : Sp := fun vs H Q _ => ∃ c : Int, vs = [.int c, .int 4] ∧ ∀ H' l (xs : List Int), Same H H' → H l = none → H' l = some (.lst (xs.map V.int)) → xs.length = 4 → (∀ x ∈ xs, 0 ≤ x ∧ x < 1048576) → Q (.ref l) H'
section
variable {P : Program} {w : World} {K : PySem.W.Frag} {mg : Str → Option Value} {base : Heap}
theorem sc_law_cell : FnScope ["_law_script", "_law_k"] ["_law_script", "_law_k"] (defScope s_law_cell) := ⟨rfl, rfl, rfl, by decide +kernel, rfl, by decide +kernel, by decide +kernel⟩
theorem ok_law_cell (T : Tx K mg) : Dok P w K mg base CX0 1 (He.ga K "_law_cell") ["_law_script", "_law_k"] (spCell K) := by
  refine Dok.mk0 (T.F_law_cell) sc_law_cell rfl (fun _ _ _ _ _ _ us hl => match us, hl with | [_, _], _ => rfl) (fun vs H Q E h => ?_) (fun cdv A outer s H vs Q E hr h => ?_)
  · obtain ⟨a, xs, k, rfl, _⟩ := h; rfl
  · obtain ⟨a, xs, k, rfl, ha, q⟩ := h
    refine ⟨_, (pss_cons (ps_if (pt_cmpR op_lt (pv 1) (pe_callB cl_lenSeq (by rfl) T.n_len (by decide +kernel) (pa_cons (pv 0) pa_nil)) (nomark _)) (pss_one (ps_ret (pe_callTy cl_intI (by rfl) T.n_int (by decide +kernel) (pa_cons (pe_ix ix_list (pv 0) (pv 1) (fun _ _ => rfl)) pa_nil)))) pss_nil)
        (pss_one (ps_ret pe_int))), ?_⟩
    walk_at "sg"
    refine rd_lenQ ha ?_
    walk_at "rg"
    refine rd_two (fun e => ?_) (fun e => ?_)
    · have hk : k < xs.length := by
        have := of_decide_eq_true e
        rw [List.length_map] at this
        omega
      walk_at "rg"
      refine rd_ixQ (v := .int xs[k]) ha (by rw [List.getElem?_map, List.getElem?_eq_getElem hk]; rfl) ?_
      walk_at "rg"
      exact q _
    · walk_at "rg"
      exact q _
theorem sc_law_numbers : FnScope ["_law_cell_here", "_law_many", "_law_found", "_law_rest", "_law_k"] ["_law_cell_here", "_law_many"] (defScope s_law_numbers) := ⟨rfl, rfl, rfl, by decide +kernel, rfl, by decide +kernel, by decide +kernel⟩
theorem ok_law_numbers (T : Tx K mg) : Dok P w K mg base CX0 1 (He.ga K "_law_numbers") ["_law_cell_here", "_law_many"] (spNums) := by
  refine Dok.mk0 (T.F_law_numbers) sc_law_numbers rfl (fun _ _ _ _ _ _ us hl => match us, hl with | [_, _], _ => rfl) (fun vs H Q E h => ?_) (fun cdv A outer s H vs Q E hr h => ?_)
  · obtain ⟨c, rfl, _⟩ := h; rfl
  · obtain ⟨c, rfl, q⟩ := h
    refine ⟨_, (pss_cons (ps_set (i := 2) sc_law_numbers.nd rfl (Or.inl rfl) (pe_lst pa_nil))
        (pss_cons (ps_set (i := 3) sc_law_numbers.nd rfl (Or.inl rfl) (pe_callB cl_absI (by rfl) T.n_abs (by decide +kernel) (pa_cons (pv 0) pa_nil)))
        (pss_cons (ps_if (pt_cmpR op_ge (pv 3) pe_int (nomark _)) (pss_cons (ps_for PassesOwn.never rfl (pi_range1 rfl T.n_range (pa_cons (pv 1) pa_nil)) (pg_name (i := 4) sc_law_numbers.nd rfl (Or.inl rfl)) (pss_cons (ps_expr (pe_bm PySem.F.plainAttrs_list PySem.F.slot_list_append PySem.F.type_list_append mt_append (pv 2) (pa_cons (pe_op op_mod (pe_callTy cl_intI (by rfl) T.n_int (by decide +kernel) (pa_cons (pv 3) pa_nil)) pe_int) pa_nil)))
        (pss_one (ps_set (i := 3) sc_law_numbers.nd rfl (Or.inl rfl) (pe_op op_fdiv (pv 3) pe_int)))))
        (pss_one (ps_ret (pv 2)))) pss_nil)
        (pss_cons (ps_for PassesOwn.never rfl (pi_range1 rfl T.n_range (pa_cons (pv 1) pa_nil)) (pg_name (i := 4) sc_law_numbers.nd rfl (Or.inl rfl)) (pss_cons (ps_set (i := 3) sc_law_numbers.nd rfl (Or.inl rfl) (pe_op op_mod (pe_callTy cl_intI (by rfl) T.n_int (by decide +kernel) (pa_cons (pe_op op_add (pe_op op_add (pe_op op_mul (pv 3) pe_int) (pe_op op_mul (pv 4) pe_int)) pe_int) pa_nil)) pe_int))
        (pss_one (ps_expr (pe_bm PySem.F.plainAttrs_list PySem.F.slot_list_append PySem.F.type_list_append mt_append (pv 2) (pa_cons (pe_op op_mod (pe_op op_mod (pe_callTy cl_intI (by rfl) T.n_int (by decide +kernel) (pa_cons (pe_op op_mul (pv 3) pe_int) pa_nil)) pe_int) pe_int) pa_nil))))))
        (pss_one (ps_ret (pv 2))))))), ?_⟩
    walk_at "sg"
    intro l hl
    have l1 : (upd H l (.lst [])) l = some (.lst []) := upd_same
    have s1 := Same.upd (o := .lst []) hl
    generalize upd H l (.lst []) = H1 at s1 l1 ⊢
    walk_at "rg"
    refine rd_two (fun e => ?_) (fun e => ?_)
    · walk_at "rg"
      refine rd_rng1 ?_
      walk_at "rg"
      refine rd_rngI (by decide) (by decide) ?_
      refine for_range (lo := 0) (n := 4) (fun i σ H' => ∃ (xs : List Int) (r : Int) (v : Option V), σ = [some (.int c), some (.int 4), some (.ref l), some (.int r), v] ∧ Same H H' ∧ H' l = some (.lst (xs.map V.int)) ∧ xs.length = i ∧ ∀ x ∈ xs, 0 ≤ x ∧ x < 1048576) ⟨[], _, none, rfl, s1, l1, rfl, fun x hx => absurd hx List.not_mem_nil⟩ ?_ ?_
      · rintro i σ H' hi ⟨xs, r, v, rfl, s2, l2, hxl, hx⟩
        walk_at "rg"
        refine rd_I (by decide) ?_
        walk_at "rg"
        refine rd_append l2 (by rw [List.length_map]; omega) ?_
        walk_at "rg"
        refine rd_I ⟨by decide, by decide⟩ ?_
        walk_at "rg"
        refine ⟨xs ++ [r % 1048576], _, _, rfl, same_new s2 hl, by rw [upd_same, List.map_append]; rfl, by rw [List.length_append, hxl]; rfl, fun x hx2 => ?_⟩
        rcases List.mem_append.mp hx2 with h | h
        · exact hx x h
        · rw [List.mem_singleton.mp h]
          omega
      · rintro σ H' ⟨xs, r, v, rfl, s2, l2, hxl, hx⟩
        walk_at "rg"
        exact q H' l xs s2 hl l2 hxl hx
    · walk_at "rg"
      refine rd_rng1 ?_
      walk_at "rg"
      refine rd_rngI (by decide) (by decide) ?_
      refine for_range (lo := 0) (n := 4) (fun i σ H' => ∃ (xs : List Int) (r : Int) (v : Option V), σ = [some (.int c), some (.int 4), some (.ref l), some (.int r), v] ∧ Same H H' ∧ H' l = some (.lst (xs.map V.int)) ∧ xs.length = i ∧ ∀ x ∈ xs, 0 ≤ x ∧ x < 1048576) ⟨[], _, none, rfl, s1, l1, rfl, fun x hx => absurd hx List.not_mem_nil⟩ ?_ ?_
      · rintro i σ H' hi ⟨xs, r, v, rfl, s2, l2, hxl, hx⟩
        walk_at "rg"
        refine rd_I (.inr ⟨by decide, by decide⟩) ?_
        walk_at "rg"
        refine rd_I (.inr ⟨by decide, by decide⟩) ?_
        walk_at "rg"
        refine rd_I (by decide) ?_
        walk_at "rg"
        refine rd_I (.inr ⟨by decide, by decide⟩) ?_
        walk_at "rg"
        refine rd_I (by decide) ?_
        walk_at "rg"
        refine rd_I (by decide) ?_
        walk_at "rg"
        refine rd_append l2 (by rw [List.length_map]; omega) ?_
        walk_at "rg"
        refine ⟨xs ++ [_], _, _, rfl, same_new s2 hl, by rw [upd_same, List.map_append]; rfl, by rw [List.length_append, hxl]; rfl, fun x hx2 => ?_⟩
        rcases List.mem_append.mp hx2 with h | h
        · exact hx x h
        · rw [List.mem_singleton.mp h]
          exact ⟨Int.emod_nonneg _ (by decide), Int.emod_lt_of_pos _ (by decide)⟩
      · rintro σ H' ⟨xs, r, v, rfl, s2, l2, hxl, hx⟩
        walk_at "rg"
        exact q H' l xs s2 hl l2 hxl hx
end
end K5
set_option maxHeartbeats 4000000




local macro_rules | `(tactic| walk_at "rl1") => `(tactic| first
  | walk_at "rg1"
  | (with_reducible refine K5.rd_v10 ?_)
  | (with_reducible refine K5.rd_v11 ?_)
  | (with_reducible refine K5.rd_g10 ?_)
  | (with_reducible refine K5.rd_g11 ?_)
  | (with_reducible refine K5.rd_rng1 ?_)
  | (with_reducible refine K5.rd_replQU ?_))
local macro_rules | `(tactic| walk_at "rl") => `(tactic| repeat walk_at "rl1")
local macro_rules | `(tactic| walk_at "sl") => `(tactic| (simp only [K5.start_c, K5.start_o, K5.start_n]; walk_at "rl"))

namespace K5
open PySem PySem.Spec PyProof.Rows L2
/-- the inner lists of needs -/
def NeedsAt (H : Hp) (ln : Addr) (L : List (List Edge)) : Prop := ∃ as : List Addr, H ln = some (.lst (as.map V.ref)) ∧ as.length = L.length ∧ ∀ (k : Nat) (x : List Edge), L[k]? = some x → ∃ a, as[k]? = some a ∧ a ≠ ln ∧ H a = some (.lst (x.map fun e => .int (e.1 : Int)))
def spTexts (K : PySem.W.Frag) : Sp := fun vs H Q _ => ∃ (a : Addr) (xs : List Int) (n : Nat), vs = [.ref a, .int (n : Int)] ∧ SqL K H a (xs.map V.int) ∧ 0 < n ∧ n ≤ 9 ∧
  ∀ H' r ln dm L, Same H H' → H' r = some (.lst [.ref ln, .ref dm]) → L.length = n → (∀ x ∈ L, EdOk n x) → NeedsAt H' ln L → H' dm = some (.dK (kvL n L)) → Q (.ref r) H'
theorem kv_none {f : Nat → V} {n : Nat} (hn : n < 64) : ∀ {l : List Nat}, (∀ i ∈ l, i < n) → valV (l.map fun k => ((.inr (nm k) : Key), f k)) (.inr (nm n)) = none
  | [], _ => rfl
  | i :: l, hl => by
    show valV ((Sum.inr (nm i), f i) :: _) _ = none
    rw [valV_neg fun z => by
      have h2 := hl i List.mem_cons_self
      have h1 := nm_inj (by omega) (by omega) (Sum.inr.inj z)
      omega]
    exact kv_none hn fun i hi => hl i (List.mem_cons_of_mem _ hi)
theorem getD_app {α : Type} {L : List α} {x d : α} {k : Nat} (h : k < L.length) : (L ++ [x]).getD k d = L.getD k d := by
  rw [List.getD_eq_getElem?_getD, List.getD_eq_getElem?_getD, List.getElem?_append_left h]
theorem getD_last {α : Type} {L : List α} {x d : α} : (L ++ [x]).getD L.length d = x := by
  rw [List.getD_eq_getElem?_getD, List.getElem?_append_right (Nat.le_refl _), Nat.sub_self]
  rfl
theorem kvL_snoc {L : List (List Edge)} {x : List Edge} : kvL L.length L ++ [(.inr (nm L.length), .str (S (textL L.length x)))] = kvL (L.length + 1) (L ++ [x]) := by
  unfold kvL
  rw [List.range_succ, List.map_append]
  congr 1
  · exact List.map_congr_left fun k hk => by rw [getD_app (List.mem_range.mp hk)]
  · show [(_, _)] = [(_, _)]
    rw [getD_last]
section
variable {P : Program} {w : World} {K : PySem.W.Frag} {mg : Str → Option Value} {base : Heap}
theorem sc_law_texts : FnScope ["_law_script", "_law_count", "_law_needs", "_law_modules", "_law_k", "_law_numbers_here", "_law_mine", "_law_forms", "_law_text", "_law_j", "_law_form", "_law_number"] ["_law_script", "_law_count"] (defScope s_law_texts) := ⟨rfl, rfl, rfl, by decide +kernel, rfl, by decide +kernel, by decide +kernel⟩
theorem ok_law_texts (T : Tx K mg) : Dok P w K mg base CX0 2 (He.ga K "_law_texts") ["_law_script", "_law_count"] (spTexts K) := by
  refine Dok.mk0 (T.F_law_texts) sc_law_texts rfl (fun _ _ _ _ _ _ us hl => match us, hl with | [_, _], _ => rfl) (fun vs H Q E h => ?_) (fun cdv A outer s H vs Q E hr h => ?_)
  · obtain ⟨a, xs, n, rfl, _⟩ := h; rfl
  · obtain ⟨a, xs, n, rfl, ha, hn0, hn9, q⟩ := h
    refine ⟨_, (pss_cons (ps_set (i := 2) sc_law_texts.nd rfl (Or.inl rfl) (pe_lst pa_nil))
        (pss_cons (ps_set (i := 3) sc_law_texts.nd rfl (Or.inl rfl) pe_dnewK)
        (pss_cons (ps_for PassesOwn.never rfl (pi_range1 rfl T.n_range (pa_cons (pv 1) pa_nil)) (pg_name (i := 4) sc_law_texts.nd rfl (Or.inl rfl)) (pss_cons (ps_set (i := 5) sc_law_texts.nd rfl (Or.inl rfl) (pc (ok_law_numbers (K := K) T) T.g_law_numbers hr (pa_cons (pc (ok_law_cell (K := K) T) T.g_law_cell hr (pa_cons (pv 0) (pa_cons (pe_op op_add (pv 4) pe_int) pa_nil))) (pa_cons pe_int pa_nil))))
        (pss_cons (ps_setLc (i := 6) (own := [("_law_number", 11)]) (g := gName 11) rfl sc_law_texts.nd rfl rfl (sw_true rfl rfl rfl (by decide +kernel)) (pi_list (pe_slice sl_list (pv 5) po_none (po_some (pe_op op_mod (pe_callTy cl_intI (by rfl) T.n_int (by decide +kernel) (pa_cons (pe_ix ix_list (pv 5) pe_int (fun _ _ => rfl)) pa_nil)) pe_int)))) (blkOk_by (own := [("_law_number", 11)]) (N := ["_law_script", "_law_count", "_law_needs", "_law_modules", "_law_k", "_law_numbers_here", "_law_mine", "_law_forms", "_law_text", "_law_j", "_law_form", "_law_number"]) (sc := defScope s_law_texts) (by decide +kernel)) (fun _ _ _ _ _ => (pg_name (i := 11) sc_law_texts.nd rfl (Or.inl rfl))) (fun _ _ _ _ _ => pts_nil) (fun _ _ _ _ _ => (pe_op op_mod (pe_callTy cl_intI (by rfl) T.n_int (by decide +kernel) (pa_cons (pe_op op_fdiv (pv 11) pe_int) pa_nil)) (pv 1))))
        (pss_cons (ps_expr (pe_bm PySem.F.plainAttrs_list PySem.F.slot_list_append PySem.F.type_list_append mt_append (pv 2) (pa_cons (pv 6) pa_nil)))
        (pss_cons (ps_set (i := 7) sc_law_texts.nd rfl (Or.inl rfl) (pe_lst (pa_cons pe_str (pa_cons pe_str (pa_cons pe_str (pa_cons pe_str (pa_cons pe_str pa_nil)))))))
        (pss_cons (ps_set (i := 8) sc_law_texts.nd rfl (Or.inl rfl) pe_str)
        (pss_cons (ps_for PassesOwn.never rfl (pi_range1 rfl T.n_range (pa_cons (pe_callB cl_lenSeq (by rfl) T.n_len (by decide +kernel) (pa_cons (pv 6) pa_nil)) pa_nil)) (pg_name (i := 9) sc_law_texts.nd rfl (Or.inl rfl)) (pss_cons (ps_set (i := 10) sc_law_texts.nd rfl (Or.inl rfl) (pe_replQ (pv 7) (pe_callTy cl_intI (by rfl) T.n_int (by decide +kernel) (pa_cons (pe_op op_fdiv (pe_ix ix_list (pv 5) (pv 9) (fun _ _ => rfl)) pe_int) pa_nil)) op_mod ix_list (pe_op op_addStr pe_str (pe_callTy cl_strI (by rfl) T.n_str (by decide +kernel) (pa_cons (pv 9) pa_nil))) (by decide) (fun _ _ => rfl)))
        (pss_one (ps_set (i := 8) sc_law_texts.nd rfl (Or.inl rfl) (pe_op op_addStr (pe_op op_addStr (pe_op op_addStr (pe_op op_addStr (pv 8) (pv 10)) pe_str) (pe_callTy cl_strI (by rfl) T.n_str (by decide +kernel) (pa_cons (pe_ix ix_list (pv 6) (pv 9) (fun _ _ => rfl)) pa_nil))) pe_str)))))
        (pss_one (ps_dput (hu_of hr) (pv 3) (pe_op op_addStr pe_str (pe_callTy cl_strI (by rfl) T.n_str (by decide +kernel) (pa_cons (pv 4) pa_nil))) (pe_op op_addStr (pe_op op_addStr (pe_op op_addStr (pv 8) pe_str) (pe_callTy cl_strI (by rfl) T.n_str (by decide +kernel) (pa_cons (pv 4) pa_nil))) pe_str) rfl)))))))))
        (pss_one (ps_ret (pe_lst (pa_cons (pv 2) (pa_cons (pv 3) pa_nil)))))))), ?_⟩
    walk_at "sl"
    intro ln hln
    have s1 := Same.upd (o := .lst []) hln
    have l1 : (upd H ln (.lst [])) ln = some (.lst []) := upd_same
    generalize upd H ln (.lst []) = H1 at s1 l1 ⊢
    walk_at "rl"
    intro dm hdm
    have s2 := s1.trans (Same.upd (o := .dK []) hdm)
    have l2 := Same.upd (o := .dK []) hdm _ _ l1
    have d2 : (upd H1 dm (.dK [])) dm = some (.dK []) := upd_same
    have hdm0 : H dm = none := same_none s1 hdm
    have hld : ln ≠ dm := fun z => by rw [← z, l1] at hdm; cases hdm
    generalize upd H1 dm (.dK []) = H2 at s2 l2 d2 ⊢
    walk_at "rl"
    refine rd_rngI (by omega) (by omega) ?_
    refine for_range (lo := 0) (n := n) (fun i σ H' => ∃ (L : List (List Edge)) (v1 v2 v3 v4 v5 v6 v7 : Option V), σ = [some (.ref a), some (.int (n : Int)), some (.ref ln), some (.ref dm), v1, v2, v3, v4, v5, v6, v7, none] ∧ Same H H' ∧ NeedsAt H' ln L ∧ H' dm = some (.dK (kvL L.length L)) ∧ L.length = i ∧ ∀ x ∈ L, EdOk n x)
      ⟨[], none, none, none, none, none, none, none, rfl, s2, ⟨[], l2, rfl, fun k x h => by cases h⟩, d2, rfl, fun x hx => absurd hx List.not_mem_nil⟩ ?_ ?_
    · rintro i σ H3 hi ⟨L, v1, v2, v3, v4, v5, v6, v7, rfl, s3, ⟨as, n3, hasl, hnd⟩, d3, hLi, hL⟩
      simp only [Int.zero_add]
      walk_at "rl"
      refine ⟨a, xs, i + 1, rfl, sql_same ha s3, fun c => ?_⟩
      walk_at "rl"
      refine ⟨c, rfl, fun H4 lk ns4 s4 hlk lk4 hl4 hb4 => ?_⟩
      obtain ⟨y0, y1, y2, y3, rfl⟩ : ∃ y0 y1 y2 y3, ns4 = [y0, y1, y2, y3] := by
        match ns4, hl4 with
        | [y0, y1, y2, y3], _ => exact ⟨y0, y1, y2, y3, rfl⟩
      walk_at "rl"
      refine rd_ixLi (v := .int y0) 0 lk4 rfl rfl ?_
      walk_at "rl"
      refine rd_I (by decide) ?_
      walk_at "rl"
      obtain ⟨t, ht, ht4⟩ : ∃ t : Nat, y0 % 4 = (t : Int) ∧ t ≤ 3 := ⟨(y0 % 4).toNat, by omega, by omega⟩
      rw [ht]
      refine ⟨lk, _, rfl, SqL.of lk4, fun p hp => ?_⟩
      rw [cut_take, ← List.map_take]
      obtain ⟨zs, hzs⟩ : ∃ zs, zs = [y0, y1, y2, y3].take t := ⟨_, rfl⟩
      have hzl : zs.length = t := by
        rw [hzs, List.length_take]
        show min t 4 = t
        omega
      have hzb : ∀ z ∈ zs, 0 ≤ z ∧ z < 1048576 := fun z hz => hb4 z (List.mem_of_mem_take (hzs ▸ hz))
      rw [← hzs]
      have s5 := s4.trans (Same.upd (o := .lst (zs.map V.int)) hp)
      have p5 : (upd H4 p (.lst (zs.map V.int))) p = some (.lst (zs.map V.int)) := upd_same
      have lk5 := Same.upd (o := .lst (zs.map V.int)) hp _ _ lk4
      generalize upd H4 p (.lst (zs.map V.int)) = H5 at s5 p5 lk5 ⊢
      refine rd_itL p5 ?_
      refine rd_lcL p5 (fun i => (zs.take i).map fun z => .int ((z / 8) % (n : Int))) rfl (fun i => by rw [List.length_map, List.length_take]; omega) (fun j x H6 Pn P0 hj s6 hP h0 => ?_) (fun D H6 hD s6 hF => ?_)
      · rw [List.getElem?_map] at hj
        obtain ⟨z, hz, rfl⟩ : ∃ z, zs[j]? = some z ∧ x = .int z := by
          cases e : zs[j]? with
          | none => rw [e] at hj; cases hj
          | some z => rw [e] at hj; exact ⟨z, rfl, (Option.some.inj hj).symm⟩
        simp only [wipe, List.map, List.set_cons_succ, List.set_cons_zero]
        walk_at "rl"
        refine ⟨rfl, ?_⟩
        walk_at "rl"
        refine rd_I ⟨by decide, by decide⟩ ?_
        walk_at "rl"
        refine rd_I (show (0 : Int) < n by omega) ?_
        exact hP _ _ (fun _ _ e => e) (by rw [take_succ hz, List.map_append]; rfl)
      · rw [List.length_map, List.take_length] at hF
        have hn6 : (n : Int) ≠ 0 := by omega
        obtain ⟨ms, hms⟩ : ∃ ms : List Nat, ms = zs.map fun z => ((z / 8) % (n : Int)).toNat := ⟨_, rfl⟩
        have hml : ms.length = t := by rw [hms, List.length_map]; exact hzl
        have hmn : ∀ m ∈ ms, m < n := fun m hm => by
          rw [hms] at hm
          obtain ⟨z, _, rfl⟩ := List.mem_map.mp hm
          have h1 := Int.emod_nonneg (z / 8) hn6
          have h2 := Int.emod_lt_of_pos (z / 8) (show (0 : Int) < n by omega)
          omega
        have hF2 : H6 D = some (.lst (ms.map fun m : Nat => V.int (m : Int))) := by
          rw [hF, hms, List.map_map]
          congr 2
          refine List.map_congr_left fun z _ => ?_
          have h1 := Int.emod_nonneg (z / 8) hn6
          show V.int (z / 8 % (n : Int)) = V.int (((z / 8) % (n : Int)).toNat : Int)
          rw [Int.toNat_of_nonneg h1]
        have s36 := s5.trans s6
        have n6 := s36 _ _ n3
        have d6 := s36 _ _ d3
        have lk6 := s6 _ _ lk5
        have hDn : D ≠ ln := fun z => by rw [z, s5 _ _ n3] at hD; cases hD
        have hlkn : lk ≠ ln := fun z => by rw [z, n3] at hlk; cases hlk
        have hln36 : ∀ (k : Nat) (x : List Edge), L[k]? = some x → ∃ a, as[k]? = some a ∧ a ≠ ln ∧ H6 a = some (.lst (x.map fun e => .int (e.1 : Int))) := fun k x h => let ⟨a, h1, h2, h3⟩ := hnd k x h; ⟨a, h1, h2, s36 _ _ h3⟩
        have hs6 := s3.trans s36
        clear hF hD s6 s5 p5 lk5 s4 lk4 s36
        walk_at "rl"
        refine rd_append n6 (by rw [List.length_map, hasl]; omega) ?_
        have hs7 : Same H (upd H6 ln (.lst (as.map V.ref ++ [.ref D]))) := same_new hs6 hln
        have n7 : (upd H6 ln (.lst (as.map V.ref ++ [.ref D]))) ln = some (.lst ((as ++ [D]).map V.ref)) := by rw [upd_same, List.map_append]; rfl
        have D7 : (upd H6 ln (.lst (as.map V.ref ++ [.ref D]))) D = some (.lst (ms.map fun m : Nat => V.int (m : Int))) := by rw [upd_ne hDn]; exact hF2
        have lk7 : (upd H6 ln (.lst (as.map V.ref ++ [.ref D]))) lk = some (.lst ([y0, y1, y2, y3].map V.int)) := by rw [upd_ne hlkn]; exact lk6
        have d7 : (upd H6 ln (.lst (as.map V.ref ++ [.ref D]))) dm = some (.dK (kvL L.length L)) := by rw [upd_ne (Ne.symm hld)]; exact d6
        have hln7 : ∀ (k : Nat) (x : List Edge), L[k]? = some x → ∃ a, as[k]? = some a ∧ a ≠ ln ∧ (upd H6 ln (.lst (as.map V.ref ++ [.ref D]))) a = some (.lst (x.map fun e => .int (e.1 : Int))) := fun k x h => let ⟨a, h1, h2, h3⟩ := hln36 k x h; ⟨a, h1, h2, by rw [upd_ne h2]; exact h3⟩
        generalize upd H6 ln (.lst (as.map V.ref ++ [.ref D])) = H7 at hs7 n7 D7 lk7 d7 hln7 ⊢
        walk_at "rl"
        intro lf hlf
        have s8 := Same.upd (o := .lst [.str "import ", .str "import * as s from ", .str "export * from ", .str "import { } from ", .str "export { } from "]) hlf
        have f8 : (upd H7 lf (.lst [.str "import ", .str "import * as s from ", .str "export * from ", .str "import { } from ", .str "export { } from "])) lf = some (.lst (formsL.map V.str)) := upd_same
        generalize upd H7 lf (.lst [.str "import ", .str "import * as s from ", .str "export * from ", .str "import { } from ", .str "export { } from "]) = H8 at s8 f8 ⊢
        have n8 := s8 _ _ n7
        have D8 := s8 _ _ D7
        have lk8 := s8 _ _ lk7
        have d8 := s8 _ _ d7
        walk_at "rl"
        have hmt : (ms.map fun m : Nat => V.int (m : Int)).length = t := by
          rw [List.length_map]
          exact hml
        rw [hmt]
        refine rd_rngI (by omega) (by omega) ?_
        refine for_range (lo := 0) (n := t) (fun j σ H' => ∃ (x : List Edge) (v6 v7 : Option V), σ = [some (.ref a), some (.int (n : Int)), some (.ref ln), some (.ref dm), some (.int (i : Int)), some (.ref lk), some (.ref D), some (.ref lf), some (.str (S (textP 0 x))), v6, v7, none] ∧ H' = H8 ∧ x.length = j ∧ x.map (·.1) = ms.take j ∧ ∀ e ∈ x, e.2 < 5)
          ⟨[], _, _, rfl, rfl, rfl, rfl, fun x hx => absurd hx List.not_mem_nil⟩ ?_ ?_
        · rintro j σ H' hj ⟨x, v8, v9, rfl, rfl, hxl, hxm, hxf⟩
          obtain ⟨m, hm⟩ : ∃ m, ms[j]? = some m := ⟨_, List.getElem?_eq_getElem (by rw [hml]; exact hj)⟩
          have hmn2 := hmn m (List.mem_of_getElem? hm)
          obtain ⟨yj, hyj⟩ : ∃ y, [y0, y1, y2, y3][j]? = some y := ⟨_, List.getElem?_eq_getElem (show j < 4 by omega)⟩
          have hyb := hb4 yj (List.mem_of_getElem? hyj)
          obtain ⟨f, hf, hf5⟩ : ∃ f : Nat, (yj / 1000) % 5 = (f : Int) ∧ f < 5 := ⟨((yj / 1000) % 5).toNat, by omega, by omega⟩
          have hfm : (formsL.map V.str)[f]? = some (.str (formsL.getD f "")) := by
            rw [List.getElem?_map, List.getD_eq_getElem?_getD, List.getElem?_eq_getElem (show f < formsL.length from hf5)]
            rfl
          have lx : (textP 0 x).length ≤ 180 := by
            have h1 := textP_len (n := n) (by omega) x 0 (by omega) fun e he => ⟨?_, hxf e he⟩
            · omega
            · have : e.1 ∈ ms.take j := hxm ▸ List.mem_map_of_mem he
              exact hmn _ (List.mem_of_mem_take this)
          have lf := formL_len (f := f) (j := j) hf5 (by omega)
          have lnj : (ns j).length ≤ 3 := ns_len ⟨j, by omega⟩
          have lnm : (ns m).length ≤ 3 := ns_len ⟨m, by omega⟩
          have lS : (S (textP 0 x)).length ≤ 180 := by rw [SX.S_len]; exact lx
          have lform : (formsL.getD f "").length ≤ 30 := by
            have : ∀ f : Fin 5, (formsL.getD f "").length ≤ 30 := by decide +kernel
            exact this ⟨f, hf5⟩
          simp only [Int.zero_add]
          walk_at "rl"
          refine rd_ixLi (v := .int yj) j lk8 rfl (by rw [List.getElem?_map, hyj]; rfl) ?_
          walk_at "rl"
          refine rd_I ⟨by decide, by decide⟩ ?_
          walk_at "rl"
          refine rd_I (by decide) ?_
          rw [hf]
          refine rd_ixLi f f8 rfl hfm ?_
          refine ⟨_, rfl, ?_⟩
          walk_at "rl"
          refine ⟨(j : Int), rfl, ?_, ?_⟩
          · show j.log2 < 1920
            have : j.log2 ≤ j := Nat.log2_le_self j
            omega
          refine rd_addStr (small (by show (" s" : Str).length + (ns j).length ≤ 100000; have : (" s" : Str).length = 2 := rfl; omega)) ?_
          refine ⟨" s" ++ ns j, rfl, ?_, small (by rw [len_app]; have h1 : (" s" : Str).length = 2 := rfl; have h2 : (" " : Str).length = 1 := rfl; omega), ?_, ?_, ?_⟩
          · rw [len_app]
            have h1 : (" s" : Str).length = 2 := rfl
            omega
          · have : ∀ j : Fin 3, ((" s " : Str) == " s" ++ ns j ++ " ") = false := by decide +kernel
            exact this ⟨j, by omega⟩
          · rw [len_app, len_app]
            have h1 : (" s" : Str).length = 2 := rfl
            have h2 : (" " : Str).length = 1 := rfl
            have h3 : ((formsL.getD f "").length + 1) * ((" s" : Str).length + (ns j).length + (" " : Str).length) ≤ 31 * 6 := Nat.mul_le_mul (by omega) (by omega)
            omega
          walk_at "rl"
          have lform2 : (Txt.replace (formsL.getD f "") " s " (" s" ++ ns j ++ " ")).length ≤ 30 := lf
          refine rd_addStr (small (by omega)) ?_
          walk_at "rl"
          refine rd_addStr (small (by rw [len_app]; have h2 : ("\"n" : Str).length = 2 := rfl; omega)) ?_
          walk_at "rl"
          refine rd_ixLi (v := .int (m : Int)) j D8 rfl (by rw [List.getElem?_map, hm]; rfl) ?_
          walk_at "rl"
          refine ⟨(m : Int), rfl, ?_, ?_⟩
          · show m.log2 < 1920
            have : m.log2 ≤ m := Nat.log2_le_self m
            omega
          refine rd_addStr (small (by show _ + (ns m).length ≤ 100000; rw [len_app, len_app]; have h2 : ("\"n" : Str).length = 2 := rfl; omega)) ?_
          walk_at "rl"
          refine rd_addStr (small (by show (_ ++ ns m).length + _ ≤ 100000; rw [len_app, len_app, len_app]; have h2 : ("\"n" : Str).length = 2 := rfl; have h3 : ("\"; " : Str).length = 3 := rfl; omega)) ?_
          walk_at "rl"
          have e1 : S (textP 0 (x ++ [(m, f)])) = S (textP 0 x) ++ formL f j ++ "\"n" ++ ns m ++ "\"; " := by
            rw [str_piece, textP_snoc, Nat.zero_add, hxl]
          refine ⟨x ++ [(m, f)], some (.int (j : Int)), some (.str (formL f j)), by rw [e1]; rfl, rfl, by rw [List.length_append, hxl]; rfl, by rw [List.map_append, hxm, take_succ hm]; rfl, fun e he => (List.mem_append.mp he).elim (hxf e) fun z => by rw [List.mem_singleton.mp z]; exact hf5⟩
        · rintro σ H' ⟨x, v8, v9, rfl, rfl, hxl, hxm, hxf⟩
          have hxn : ∀ e ∈ x, e.1 < n ∧ e.2 < 5 := fun e he => ⟨by
            have : e.1 ∈ ms.take t := hxm ▸ List.mem_map_of_mem he
            exact hmn _ (List.mem_of_mem_take this), hxf e he⟩
          have lx : (textP 0 x).length ≤ 180 := by
            have h1 := textP_len (n := n) (by omega) x 0 (by omega) hxn
            omega
          have lS : (S (textP 0 x)).length ≤ 180 := by rw [SX.S_len]; exact lx
          have lni : (ns i).length ≤ 3 := ns_len ⟨i, by omega⟩
          walk_at "rl"
          refine rd_addStr (small (by have h2 : ("tell " : Str).length = 5 := rfl; omega)) ?_
          walk_at "rl"
          refine ⟨(i : Int), rfl, ?_, ?_⟩
          · show i.log2 < 1920
            have : i.log2 ≤ i := Nat.log2_le_self i
            omega
          refine rd_addStr (small (by show _ + (ns i).length ≤ 100000; rw [len_app]; have h2 : ("tell " : Str).length = 5 := rfl; omega)) ?_
          walk_at "rl"
          refine rd_addStr (small (by show (_ ++ ns i).length + _ ≤ 100000; rw [len_app, len_app]; have h2 : ("tell " : Str).length = 5 := rfl; have h3 : (";" : Str).length = 1 := rfl; omega)) ?_
          walk_at "rl"
          refine ⟨(i : Int), rfl, ?_, ?_⟩
          · show i.log2 < 1920
            have : i.log2 ≤ i := Nat.log2_le_self i
            omega
          refine rd_addStr (small (by show _ + (ns i).length ≤ 100000; have h2 : ("n" : Str).length = 1 := rfl; omega)) ?_
          have hkvn : valV (kvL L.length L) (.inr (nm i)) = none := by
            rw [← hLi]
            exact kv_none (by omega) fun k hk => List.mem_range.mp hk
          refine rd_dput (z := nm i) d8 (by unfold kvL; rw [List.length_map, List.length_range]; omega) ?_
          rw [putK_new _ hkvn]
          have hval : (V.str (S (textP 0 x) ++ "tell " ++ Str.ofString (toString (i : Int)) ++ ";")) = .str (S (textL i x)) := congrArg V.str (str_tell _ i)
          rw [hval]
          have hkv : kvL L.length L ++ [((.inr (nm i) : Key), V.str (S (textL i x)))] = kvL (L ++ [x]).length (L ++ [x]) := by
            have := kvL_snoc (L := L) (x := x)
            rw [hLi] at this ⊢
            rw [this, List.length_append, hLi]
            rfl
          rw [hkv]
          have hlf8 : H dm = none := hdm0
          refine ⟨L ++ [x], _, _, _, _, _, _, _, rfl, same_new (hs7.trans s8) hdm0, ⟨as ++ [D], by rw [upd_ne hld]; exact n8, by rw [List.length_append, List.length_append, hasl]; rfl, fun k x' hk' => ?_⟩, upd_same, by rw [List.length_append, hLi]; rfl, fun x' hx' => ?_⟩
          · have nd : ∀ {b : Addr} {ys : List V}, H' b = some (.lst ys) → (upd H' dm (.dK (kvL (L ++ [x]).length (L ++ [x])))) b = some (.lst ys) := fun {b ys} z => by
              rw [upd_ne fun e => by rw [e, d8] at z; cases z]
              exact z
            by_cases c : k < L.length
            · rw [List.getElem?_append_left c] at hk'
              obtain ⟨b, h1, h2, h3⟩ := hln7 k x' hk'
              exact ⟨b, by rw [List.getElem?_append_left (by rw [hasl]; exact c)]; exact h1, h2, nd (s8 _ _ h3)⟩
            · rw [List.getElem?_append_right (Nat.le_of_not_lt c)] at hk'
              have hz : k - L.length = 0 := by
                have := (List.getElem?_eq_some_iff.mp hk').1
                simpa using this
              rw [hz] at hk'
              cases hk'
              refine ⟨D, by rw [List.getElem?_append_right (by rw [hasl]; exact Nat.le_of_not_lt c), hasl, hz]; rfl, hDn, nd ?_⟩
              rw [D8]
              congr 2
              have h1 : x.map (·.1) = ms := by rw [hxm, ← hml, List.take_length]
              rw [← h1, List.map_map]
              rfl
          · rcases List.mem_append.mp hx' with h | h
            · exact hL x' h
            · rw [List.mem_singleton.mp h]
              exact ⟨by omega, hxn⟩
    · rintro σ H3 ⟨L, v1, v2, v3, v4, v5, v6, v7, rfl, s3, hN, d3, hLi, hL⟩
      walk_at "rl"
      intro r hr
      have s4 := Same.upd (o := .lst [.ref ln, .ref dm]) hr
      obtain ⟨as, n3, hasl, hnd⟩ := hN
      rw [hLi] at d3
      exact q _ r ln dm L (s3.trans s4) upd_same hLi hL ⟨as, s4 _ _ n3, hasl, fun k x h => let ⟨a, h1, h2, h3⟩ := hnd k x h; ⟨a, h1, h2, s4 _ _ h3⟩⟩ (s4 _ _ d3)
end
end K5
set_option maxHeartbeats 4000000
namespace K5
open PySem PySem.Spec PyProof.Rows L2
/-! the walk over the graph: plain laws -/
theorem nodup_len : ∀ (n : Nat) (l : List Nat), l.Nodup → (∀ x ∈ l, x < n) → l.length ≤ n
  | 0, [], _, _ => Nat.le_refl _
  | 0, x :: l, _, h => absurd (h x List.mem_cons_self) (Nat.not_lt_zero _)
  | n + 1, l, hn, h => by
    by_cases c : n ∈ l
    · have h1 := nodup_len n (l.erase n) (hn.erase n) fun x hx => by
        have h2 := (hn.mem_erase_iff).mp hx
        have h3 := h x h2.2
        have h4 := h2.1
        omega
      rw [List.length_erase_of_mem c] at h1
      omega
    · exact Nat.le_succ_of_le (nodup_len n l hn fun x hx => by
        have h1 := h x hx
        have h2 : x ≠ n := fun z => c (z ▸ hx)
        omega)
/-- what a walk from s, o to s', o' has done -/
structure Wk (nd : Nat → List Nat) (n : Nat) (s o s' o' : List Nat) : Prop where
  sub : ∀ x ∈ s, x ∈ s'
  nod : s'.Nodup
  lt : ∀ x ∈ s', x < n
  len : s.length ≤ s'.length
  mem : ∀ x, x ∈ o' ↔ x ∈ o ∨ (x ∈ s' ∧ x ∉ s)
  cl : ∀ x ∈ s', x ∉ s → ∀ m ∈ nd x, m ∈ s'
theorem Wk.refl {nd : Nat → List Nat} {n : Nat} {s o : List Nat} (h : s.Nodup) (hl : ∀ x ∈ s, x < n) : Wk nd n s o s o :=
  ⟨fun _ h => h, h, hl, Nat.le_refl _, fun x => ⟨.inl, fun z => z.elim id fun q => absurd q.1 q.2⟩, fun x h1 h2 => absurd h1 h2⟩
theorem Wk.trans {nd : Nat → List Nat} {n : Nat} {s o s1 o1 s2 o2 : List Nat} (a : Wk nd n s o s1 o1) (b : Wk nd n s1 o1 s2 o2) : Wk nd n s o s2 o2 := by
  refine ⟨fun x h => b.sub x (a.sub x h), b.nod, b.lt, Nat.le_trans a.len b.len, fun x => ?_, fun x h1 h2 m hm => ?_⟩
  · rw [b.mem, a.mem]
    constructor
    · rintro ((h | ⟨h1, h2⟩) | ⟨h1, h2⟩)
      · exact .inl h
      · exact .inr ⟨b.sub x h1, h2⟩
      · exact .inr ⟨h1, fun z => h2 (a.sub x z)⟩
    · rintro (h | ⟨h1, h2⟩)
      · exact .inl (.inl h)
      · by_cases c : x ∈ s1
        · exact .inl (.inr ⟨c, h2⟩)
        · exact .inr ⟨h1, c⟩
  · by_cases c : x ∈ s1
    · exact b.sub m (a.cl x c h2 m hm)
    · exact b.cl x h1 c m hm
theorem nodup_snoc {s : List Nat} {k : Nat} (h : s.Nodup) (hk : k ∉ s) : (s ++ [k]).Nodup := by
  refine List.nodup_append.mpr ⟨h, List.nodup_cons.mpr ⟨List.not_mem_nil, List.nodup_nil⟩, fun a ha b hb z => ?_⟩
  rw [List.mem_singleton.mp hb] at z
  exact hk (z ▸ ha)
/-- a list of modules is walked, if each of them is -/
theorem rchL_ok {nd : Nat → List Nat} {n : Nat} {f : Nat → List Nat → List Nat → Res} {t : Nat} (hf : ∀ k s o, k < n → s.Nodup → (∀ x ∈ s, x < n) → t ≤ s.length → ∃ s' o', f k s o = .ok s' o' ∧ Wk nd n s o s' o' ∧ k ∈ s') :
    ∀ (ks : List Nat) (s o : List Nat), (∀ k ∈ ks, k < n) → s.Nodup → (∀ x ∈ s, x < n) → t ≤ s.length → ∃ s' o', rchL f ks s o = .ok s' o' ∧ Wk nd n s o s' o' ∧ ∀ k ∈ ks, k ∈ s'
  | [], s, o, _, h1, h2, _ => ⟨s, o, rfl, Wk.refl h1 h2, fun k h => absurd h List.not_mem_nil⟩
  | k :: ks, s, o, h0, h1, h2, h3 => by
    obtain ⟨s1, o1, e1, w1, m1⟩ := hf k s o (h0 k List.mem_cons_self) h1 h2 h3
    obtain ⟨s2, o2, e2, w2, m2⟩ := rchL_ok hf ks s1 o1 (fun j hj => h0 j (List.mem_cons_of_mem _ hj)) w1.nod w1.lt (Nat.le_trans h3 w1.len)
    refine ⟨s2, o2, ?_, w1.trans w2, fun j hj => (List.mem_cons.mp hj).elim (fun z => z ▸ w2.sub k m1) (m2 j)⟩
    show (match f k s o with
      | .ok s' o' => rchL f ks s' o'
      | r => r) = _
    rw [e1]
    exact e2
/-- few modules, all there: the walk comes to its end -/
theorem rch_ok {G : Gm} {n : Nat} (hn : n ≤ 39) (hlt : ∀ k, k < n → ∀ m ∈ G.nd k, m < n) (hh : ∀ k, k < n → G.has k = true) :
    ∀ (d k : Nat) (s o : List Nat), k < n → s.Nodup → (∀ x ∈ s, x < n) → n < d + s.length → ∃ s' o', rch G d k s o = .ok s' o' ∧ Wk G.nd n s o s' o' ∧ k ∈ s'
  | 0, k, s, o, hk, h1, h2, h3 => by
    have := nodup_len n s h1 h2
    omega
  | d + 1, k, s, o, hk, h1, h2, h3 => by
    rw [rch_s]
    by_cases c : k ∈ s
    · rw [if_pos c]
      exact ⟨s, o, rfl, Wk.refl h1 h2, c⟩
    have hsl := nodup_len n s h1 h2
    rw [if_neg c, if_neg (by rw [hh k hk]; exact Bool.noConfusion), if_neg (by omega)]
    have h2' : ∀ x ∈ s ++ [k], x < n := fun x hx => (List.mem_append.mp hx).elim (h2 x) fun z => List.mem_singleton.mp z ▸ hk
    obtain ⟨s1, o1, e1, w1, m1⟩ := rchL_ok (nd := G.nd) (n := n) (f := rch G d) (t := n + 1 - d) (fun j s o hj a b e => rch_ok hn hlt hh d j s o hj a b (by omega)) (G.nd k) (s ++ [k]) o (hlt k hk) (nodup_snoc h1 c) h2' (by rw [List.length_append]; show n + 1 - d ≤ s.length + 1; omega)
    rw [e1]
    have k1 : k ∈ s1 := w1.sub k (List.mem_append_right _ (List.mem_singleton.mpr rfl))
    refine ⟨s1, o1 ++ [k], rfl, ⟨fun x hx => w1.sub x (List.mem_append_left _ hx), w1.nod, w1.lt, Nat.le_trans (by rw [List.length_append]; omega) w1.len, fun x => ?_, fun x hx hns m hm => ?_⟩, k1⟩
    · rw [List.mem_append, List.mem_singleton, w1.mem]
      constructor
      · rintro ((h | ⟨h, q⟩) | h)
        · exact .inl h
        · exact .inr ⟨h, fun z => q (List.mem_append_left _ z)⟩
        · rw [h]
          exact .inr ⟨k1, c⟩
      · rintro (h | ⟨h, q⟩)
        · exact .inl (.inl h)
        · by_cases e : x = k
          · exact .inr e
          · exact .inl (.inr ⟨h, fun z => (List.mem_append.mp z).elim q fun y => e (List.mem_singleton.mp y)⟩)
    · by_cases e : x = k
      · rw [e] at hm
        exact m1 m hm
      · exact w1.cl x hx (fun z => (List.mem_append.mp z).elim hns fun y => e (List.mem_singleton.mp y)) m hm
theorem rchL_40 {f : Nat → List Nat → List Nat → Res} (hf : ∀ j a b a' b', a.length ≤ 40 → f j a b = .ok a' b' → a'.length ≤ 40) : ∀ (ks a b a' b' : List Nat), a.length ≤ 40 → rchL f ks a b = .ok a' b' → a'.length ≤ 40
  | [], a, b, a', b', ha, e => by
    cases e
    exact ha
  | j :: ks, a, b, a', b', ha, e => by
    have e' : (match f j a b with
      | .ok s' o' => rchL f ks s' o'
      | r => r) = .ok a' b' := e
    cases q : f j a b with
    | ok a1 b1 =>
      rw [q] at e'
      exact rchL_40 hf ks a1 b1 a' b' (hf _ _ _ _ _ ha q) e'
    | lost i => rw [q] at e'; cases e'
    | over => rw [q] at e'; cases e'
    | out => rw [q] at e'; cases e'
theorem rch_40 {G : Gm} : ∀ (d k : Nat) (s o s' o' : List Nat), s.length ≤ 40 → rch G d k s o = .ok s' o' → s'.length ≤ 40
  | 0, k, s, o, s', o', _, h => by cases h
  | d + 1, k, s, o, s', o', hs, h => by
    rw [rch_s] at h
    split at h
    · cases h
      exact hs
    split at h
    · cases h
    split at h
    · cases h
    cases q : rchL (rch G d) (G.nd k) (s ++ [k]) o with
    | ok a b =>
      rw [q] at h
      cases h
      exact rchL_40 (rch_40 d) _ _ _ _ _ (by rw [List.length_append]; show s.length + 1 ≤ 40; omega) q
    | lost j => rw [q] at h; cases h
    | over => rw [q] at h; cases h
    | out => rw [q] at h; cases h
/-! a module is taken away -/
theorem rchL_sub {f : Nat → List Nat → List Nat → Res} (hf : ∀ k s o s' o', f k s o = .ok s' o' → ∀ x ∈ s, x ∈ s') : ∀ (ks s o s' o' : List Nat), rchL f ks s o = .ok s' o' → ∀ x ∈ s, x ∈ s'
  | [], s, o, s', o', h, x, hx => by
    cases h
    exact hx
  | k :: ks, s, o, s', o', h, x, hx => by
    have h' : (match f k s o with
      | .ok s' o' => rchL f ks s' o'
      | r => r) = .ok s' o' := h
    cases q : f k s o with
    | ok a b =>
      rw [q] at h'
      exact rchL_sub hf ks a b s' o' h' x (hf _ _ _ _ _ q x hx)
    | lost i => rw [q] at h'; cases h'
    | over => rw [q] at h'; cases h'
    | out => rw [q] at h'; cases h'
theorem rch_sub {G : Gm} : ∀ (d k : Nat) (s o s' o' : List Nat), rch G d k s o = .ok s' o' → ∀ x ∈ s, x ∈ s'
  | 0, k, s, o, s', o', h, x, hx => by cases h
  | d + 1, k, s, o, s', o', h, x, hx => by
    rw [rch_s] at h
    split at h
    · cases h
      exact hx
    split at h
    · cases h
    split at h
    · cases h
    cases q : rchL (rch G d) (G.nd k) (s ++ [k]) o with
    | ok a b =>
      rw [q] at h
      cases h
      exact rchL_sub (rch_sub d) _ _ _ _ _ q x (List.mem_append_left _ hx)
    | lost j => rw [q] at h; cases h
    | over => rw [q] at h; cases h
    | out => rw [q] at h; cases h
theorem rchL_lost {f g : Nat → List Nat → List Nat → Res} {l : Nat} (hs : ∀ k s o s' o', f k s o = .ok s' o' → ∀ x ∈ s, x ∈ s')
    (hf : ∀ k s o s' o', l ∉ s → f k s o = .ok s' o' → (l ∉ s' ∧ g k s o = .ok s' o') ∨ (l ∈ s' ∧ g k s o = .lost l)) :
    ∀ (ks s o s' o' : List Nat), l ∉ s → rchL f ks s o = .ok s' o' → (l ∉ s' ∧ rchL g ks s o = .ok s' o') ∨ (l ∈ s' ∧ rchL g ks s o = .lost l)
  | [], s, o, s', o', hl, h => by
    cases h
    exact .inl ⟨hl, rfl⟩
  | k :: ks, s, o, s', o', hl, h => by
    have h' : (match f k s o with
      | .ok s' o' => rchL f ks s' o'
      | r => r) = .ok s' o' := h
    cases q : f k s o with
    | ok a b =>
      rw [q] at h'
      rcases hf k s o a b hl q with ⟨h1, h2⟩ | ⟨h1, h2⟩
      · rcases rchL_lost hs hf ks a b s' o' h1 h' with ⟨h3, h4⟩ | ⟨h3, h4⟩
        · refine .inl ⟨h3, ?_⟩
          show (match g k s o with
            | .ok s' o' => rchL g ks s' o'
            | r => r) = _
          rw [h2]
          exact h4
        · refine .inr ⟨h3, ?_⟩
          show (match g k s o with
            | .ok s' o' => rchL g ks s' o'
            | r => r) = _
          rw [h2]
          exact h4
      · refine .inr ⟨rchL_sub hs ks a b s' o' h' l h1, ?_⟩
        show (match g k s o with
          | .ok s' o' => rchL g ks s' o'
          | r => r) = _
        rw [h2]
    | lost i => rw [q] at h'; cases h'
    | over => rw [q] at h'; cases h'
    | out => rw [q] at h'; cases h'
/-- the same walk without a module -/
theorem rch_lost {G G' : Gm} {l : Nat} (hn : ∀ k, G'.nd k = G.nd k) (hh : ∀ k, k ≠ l → G.has k = true → G'.has k = true) (hl : G'.has l = false) :
    ∀ (d k : Nat) (s o s' o' : List Nat), l ∉ s → rch G d k s o = .ok s' o' → (l ∉ s' ∧ rch G' d k s o = .ok s' o') ∨ (l ∈ s' ∧ rch G' d k s o = .lost l)
  | 0, k, s, o, s', o', _, h => by cases h
  | d + 1, k, s, o, s', o', hs, h => by
    rw [rch_s] at h ⊢
    by_cases c : k ∈ s
    · rw [if_pos c] at h ⊢
      cases h
      exact .inl ⟨hs, rfl⟩
    rw [if_neg c] at h ⊢
    by_cases c2 : G.has k = false
    · rw [if_pos c2] at h
      cases h
    rw [if_neg c2] at h
    by_cases c3 : 40 ≤ s.length
    · rw [if_pos c3] at h
      cases h
    rw [if_neg c3] at h
    cases q : rchL (rch G d) (G.nd k) (s ++ [k]) o with
    | ok a b =>
      rw [q] at h
      cases h
      by_cases e : k = l
      · rw [e, if_pos hl]
        refine .inr ⟨?_, rfl⟩
        exact rchL_sub (rch_sub d) _ _ _ _ _ q l (List.mem_append_right _ (by rw [e]; exact List.mem_singleton.mpr rfl))
      · have hk : G'.has k = true := hh k e (by
          cases z : G.has k with
          | true => rfl
          | false => exact absurd z c2)
        rw [if_neg (by rw [hk]; exact Bool.noConfusion), if_neg c3, hn k]
        have hs2 : l ∉ s ++ [k] := fun z => (List.mem_append.mp z).elim hs fun y => e (List.mem_singleton.mp y).symm
        rcases rchL_lost (f := rch G d) (g := rch G' d) (rch_sub d) (rch_lost hn hh hl d) (G.nd k) (s ++ [k]) o _ _ hs2 q with ⟨h1, h2⟩ | ⟨h1, h2⟩
        · rw [h2]
          exact .inl ⟨h1, rfl⟩
        · rw [h2]
          exact .inr ⟨h1, rfl⟩
    | lost j => rw [q] at h; cases h
    | over => rw [q] at h; cases h
    | out => rw [q] at h; cases h
/-! graphs of such modules -/
def gmX (n : Nat) (hs : Nat → Bool) (x : Nat → List Edge) (t : Nat → Nat) : Gm := ⟨n, hs, fun k => (x k).map (·.1), fun k => itsP 0 (x k) ++ [Itm.tell (t k : Int)], fun k => textP 0 (x k) ++ tellL (t k),
  ((List.range n).filter hs).map fun k => (.inr (nm k), .str (S (textP 0 (x k) ++ tellL (t k))))⟩
theorem valV_fl {f : Nat → V} {n k : Nat} (hn : n ≤ 64) (hk : k < n) : ∀ {l : List Nat}, (∀ i ∈ l, i < n) → valV (l.map fun k => ((.inr (nm k) : Key), f k)) (.inr (nm k)) = if k ∈ l then some (f k) else none
  | [], _ => rfl
  | i :: l, h => by
    have hi := h i List.mem_cons_self
    have ih := valV_fl (f := f) hn hk (l := l) fun j hj => h j (List.mem_cons_of_mem _ hj)
    by_cases e : i = k
    · subst e
      rw [if_pos List.mem_cons_self]
      exact valV_pos rfl
    · have e1 : ¬ ((Sum.inr (nm i), f i) : Key × V).1 = .inr (nm k) := fun z => e (nm_inj (by omega) (by omega) (Sum.inr.inj z))
      show valV ((Sum.inr (nm i), f i) :: l.map fun k => ((.inr (nm k) : Key), f k)) (.inr (nm k)) = _
      rw [valV_neg e1, ih]
      by_cases c : k ∈ l
      · rw [if_pos c, if_pos (List.mem_cons_of_mem _ c)]
      · rw [if_neg c, if_neg fun z => (List.mem_cons.mp z).elim (fun q => e q.symm) c]
theorem gmX_ok {n : Nat} {hs : Nat → Bool} {x : Nat → List Edge} {t : Nat → Nat} (hn : n ≤ 64) (hx : ∀ k, k < n → (x k).length ≤ 3 ∧ ∀ e ∈ x k, e.1 < n ∧ e.2 < 5) (ht : ∀ k, k < n → t k < 10) : (gmX n hs x t).Ok := by
  have tl : ∀ k : Fin 10, (tellL k).length ≤ 7 := by decide +kernel
  refine ⟨hn, fun k hk m hm' => ?_, fun k hk => ?_, fun k hk => ?_, fun k hk _ => ?_, fun k hk => ?_⟩
  · obtain ⟨e, he, rfl⟩ := List.mem_map.mp hm'
    exact ((hx k hk).2 e he).1
  · have hk' : k < n := hk
    show valV (((List.range n).filter hs).map fun k => ((.inr (nm k) : Key), .str (S (textP 0 (x k) ++ tellL (t k))))) (.inr (nm k)) = if hs k = true then _ else _
    rw [valV_fl (f := fun k => .str (S (textP 0 (x k) ++ tellL (t k)))) hn hk' fun i hi => List.mem_range.mp (List.mem_filter.mp hi).1]
    by_cases c : hs k = true
    · rw [if_pos c, if_pos (List.mem_filter.mpr ⟨List.mem_range.mpr hk', c⟩)]
      rfl
    · rw [if_neg c, if_neg fun z => c (List.mem_filter.mp z).2]
  · have hk' : k < n := hk
    obtain ⟨a, b⟩ := hx k hk'
    have t1 := textP_len (n := n) hn (x k) 0 (by omega) b
    have t2 := tl ⟨t k, ht k hk'⟩
    have t2 : (tellL (t k)).length ≤ 7 := t2
    refine ⟨?_, ?_⟩
    · show (textP 0 (x k) ++ tellL (t k)).length ≤ 20000
      rw [List.length_append]
      omega
    · show (itsP 0 (x k) ++ [Itm.tell (t k : Int)]).length ≤ 100
      rw [List.length_append, its_len]
      show _ + 1 ≤ 100
      omega
  · have hk' : k < n := hk
    obtain ⟨a, b⟩ := hx k hk'
    exact lex_text (n := n) (k := t k) hn (ht k hk') (x k) 0 (by omega) b
  · show needsOf (itsP 0 (x k) ++ [Itm.tell (t k : Int)]) = ((x k).map (·.1)).map nmL
    unfold needsOf
    rw [List.flatMap_append]
    show needsOf (itsP 0 (x k)) ++ [] = _
    rw [its_needs, List.append_nil, List.map_map]
    rfl
/-! many modules in a chain -/
def chX (m k : Nat) : List Edge := if k < m then [(k + 1, 0)] else []
def chT (m k : Nat) : Nat := if k < m then 1 else 2
def gmC (m : Nat) : Gm := gmX (m + 1) (fun _ => true) (chX m) (chT m)
theorem gmC_ok {m : Nat} (hm : m ≤ 60) : (gmC m).Ok := by
  refine gmX_ok (by omega) (fun k hk => ?_) (fun k hk => ?_)
  · unfold chX
    by_cases c : k < m
    · rw [if_pos c]
      refine ⟨Nat.le_of_ble_eq_true rfl, fun e he => ?_⟩
      rw [List.mem_singleton.mp he]
      exact ⟨by show k + 1 < m + 1; omega, by show 0 < 5; decide⟩
    · rw [if_neg c]
      exact ⟨Nat.zero_le _, fun e he => absurd he List.not_mem_nil⟩
  · unfold chT
    split <;> decide
theorem ch_nd (m k : Nat) : (gmC m).nd k = if k < m then [k + 1] else [] := by
  show (chX m k).map (·.1) = _
  unfold chX
  split <;> rfl
/-- the numbers from m down, so many -/
def down : Nat → Nat → List Nat
  | _, 0 => []
  | m, c + 1 => m :: down (m - 1) c
theorem down_snoc : ∀ (c m : Nat), down m (c + 1) = down m c ++ [m - c]
  | 0, m => rfl
  | c + 1, m => by
    show m :: down (m - 1) (c + 1) = m :: (down (m - 1) c ++ [m - (c + 1)])
    rw [down_snoc c (m - 1), Nat.sub_sub, Nat.add_comm 1 c]
theorem down_is : ∀ (c m : Nat), down m c = (List.range c).map fun i => m - i
  | 0, m => rfl
  | c + 1, m => by
    rw [down_snoc, down_is c m, List.range_succ, List.map_append]
    rfl
theorem ch_few {m : Nat} (hm : m < 40) : ∀ (c d k : Nat) (o : List Nat), m = k + c → c < d → rch (gmC m) d k (List.range k) o = .ok (List.range (m + 1)) (o ++ down m (c + 1))
  | c, 0, k, o, _, h => absurd h (Nat.not_lt_zero _)
  | 0, d + 1, k, o, e, _ => by
    have e : m = k := e
    subst e
    rw [rch_s, if_neg (fun z => Nat.lt_irrefl _ (List.mem_range.mp z)), if_neg Bool.noConfusion, if_neg (by rw [List.length_range]; omega), ch_nd, if_neg (Nat.lt_irrefl _)]
    show Res.ok (List.range m ++ [m]) (o ++ [m]) = _
    rw [List.range_succ]
    rfl
  | c + 1, d + 1, k, o, e, h => by
    rw [rch_s, if_neg (fun z => Nat.lt_irrefl _ (List.mem_range.mp z)), if_neg Bool.noConfusion, if_neg (by rw [List.length_range]; omega), ch_nd, if_pos (by omega), ← List.range_succ]
    have ih := ch_few hm c d (k + 1) o (by omega) (by omega)
    have e1 : rchL (rch (gmC m) d) [k + 1] (List.range (k + 1)) o = .ok (List.range (m + 1)) (o ++ down m (c + 1)) := by
      show (match rch (gmC m) d (k + 1) (List.range (k + 1)) o with
        | .ok s' o' => rchL (rch (gmC m) d) [] s' o'
        | r => r) = _
      rw [ih]
      rfl
    rw [e1]
    show Res.ok _ (o ++ down m (c + 1) ++ [k]) = _
    rw [List.append_assoc, down_snoc (c + 1) m]
    have e2 : m - (c + 1) = k := by omega
    rw [e2]
theorem ch_many {m : Nat} (hm : 40 ≤ m) : ∀ (c d k : Nat) (o : List Nat), 40 = k + c → c < d → rch (gmC m) d k (List.range k) o = .over
  | c, 0, k, o, _, h => absurd h (Nat.not_lt_zero _)
  | 0, d + 1, k, o, e, _ => by
    have e : 40 = k := e
    subst e
    rw [rch_s, if_neg (fun z => Nat.lt_irrefl _ (List.mem_range.mp z)), if_neg Bool.noConfusion, if_pos (by rw [List.length_range]; exact Nat.le_refl _)]
  | c + 1, d + 1, k, o, e, h => by
    rw [rch_s, if_neg (fun z => Nat.lt_irrefl _ (List.mem_range.mp z)), if_neg Bool.noConfusion, if_neg (by rw [List.length_range]; omega), ch_nd, if_pos (by omega), ← List.range_succ]
    have ih := ch_many hm c d (k + 1) o (by omega) (by omega)
    have e1 : rchL (rch (gmC m) d) [k + 1] (List.range (k + 1)) o = .over := by
      show (match rch (gmC m) d (k + 1) (List.range (k + 1)) o with
        | .ok s' o' => rchL (rch (gmC m) d) [] s' o'
        | r => r) = _
      rw [ih]
    rw [e1]
end K5
set_option maxHeartbeats 4000000





namespace K5
open PySem PySem.Spec PyProof.Rows L2
/-! the law's own walk -/
def intsN (l : List Nat) : List V := l.map fun k : Nat => .int (k : Int)
theorem inV_int {k : Nat} : ∀ {l : List Nat}, inV (.int (k : Int)) (intsN l) = decide (k ∈ l)
  | [] => rfl
  | j :: l => by
    have ih := inV_int (k := k) (l := l)
    show (eqV (.int (j : Int)) (.int (k : Int)) || inV (.int (k : Int)) (intsN l)) = _
    rw [ih]
    have e : eqV (.int (j : Int)) (.int (k : Int)) = decide (j = k) := by
      show ((j : Int) == (k : Int)) = _
      by_cases c : j = k
      · rw [c, decide_eq_true rfl]
        exact beq_self_eq_true _
      · rw [decide_eq_false c]
        exact beq_eq_false_iff_ne.mpr fun z => c (Int.ofNat.inj z)
    rw [e]
    by_cases c : j = k
    · rw [decide_eq_true c, decide_eq_true (show k ∈ j :: l from c ▸ List.mem_cons_self)]
      rfl
    · rw [decide_eq_false c, Bool.false_or]
      by_cases c2 : k ∈ l
      · rw [decide_eq_true c2, decide_eq_true (show k ∈ j :: l from List.mem_cons_of_mem _ c2)]
      · rw [decide_eq_false c2, decide_eq_false (show ¬ k ∈ j :: l from fun z => (List.mem_cons.mp z).elim (fun q => c q.symm) c2)]
theorem intsN_flat (l : List Nat) : (intsN l).all flatV = true := by
  unfold intsN
  rw [List.all_map]
  exact List.all_eq_true.mpr fun _ _ => rfl
theorem intsN_snoc (l : List Nat) (k : Nat) : intsN l ++ [.int (k : Int)] = intsN (l ++ [k]) := by
  unfold intsN
  rw [List.map_append]
  rfl
theorem intsN_len (l : List Nat) : (intsN l).length = l.length := List.length_map ..
def spWalk (L : List (List Edge)) (d : Nat) : Sp := fun vs H Q _ => ∃ (H0 : Hp) (ln ls lf : Addr) (k : Nat) (s o s' o' : List Nat), vs = [.ref ln, .int (k : Int), .ref ls, .ref lf] ∧ NeedsAt H0 ln L ∧ Same H0 H ∧ H0 ls = none ∧ H0 lf = none ∧ ls ≠ lf ∧
  H ls = some (.lst (intsN s)) ∧ H lf = some (.lst (intsN o)) ∧ k < L.length ∧ s.length ≤ 40 ∧ o.length ≤ s.length ∧ rch (gmL L) d k s o = .ok s' o' ∧
  ∀ H', Same H0 H' → H' ls = some (.lst (intsN s')) → H' lf = some (.lst (intsN o')) → Q .non H'
section
variable {P : Program} {w : World} {K : PySem.W.Frag} {mg : Str → Option Value} {base : Heap}
theorem sc_law_walk : FnScope ["_law_needs", "_law_k", "_law_seen", "_law_found", "_law_other"] ["_law_needs", "_law_k", "_law_seen", "_law_found"] (defScope s_law_walk) := ⟨rfl, rfl, rfl, by decide +kernel, rfl, by decide +kernel, by decide +kernel⟩
theorem ok_law_walk (L : List (List Edge)) (hL : LOk L) (d : Nat) (IH : Dok P w K mg base CX0 (d + 1) (He.ga K "_law_walk") ["_law_needs", "_law_k", "_law_seen", "_law_found"] (spWalk L d)) (T : Tx K mg) : Dok P w K mg base CX0 (d+2) (He.ga K "_law_walk") ["_law_needs", "_law_k", "_law_seen", "_law_found"] (spWalk L (d + 1)) := by
  refine Dok.mk0 (T.F_law_walk) sc_law_walk rfl (fun _ _ _ _ _ _ us hl => match us, hl with | [_, _, _, _], _ => rfl) (fun vs H Q E h => ?_) (fun cdv A outer s H vs Q E hr h => ?_)
  · obtain ⟨H0, ln, ls, lf, k, s, o, s', o', rfl, _⟩ := h; rfl
  · obtain ⟨H0, ln, ls, lf, k, s, o, s', o', rfl, hN, hs, hls0, hlf0, hne, hls, hlf, hk, hs40, hos, hm, q⟩ := h
    refine ⟨_, (pss_cons (ps_if (pt_cmpR op_in_seq (pv 1) (pv 2) (by rfl)) (pss_one ps_retN) pss_nil)
        (pss_cons (ps_expr (pe_bm PySem.F.plainAttrs_list PySem.F.slot_list_append PySem.F.type_list_append mt_append (pv 2) (pa_cons (pv 1) pa_nil)))
        (pss_cons (ps_for PassesOwn.never rfl (pi_list (pe_ix ix_list (pv 0) (pv 1) (fun _ _ => rfl))) (pg_name (i := 4) sc_law_walk.nd rfl (Or.inl rfl)) (pss_one (ps_expr (pc IH T.g_law_walk hr (pa_cons (pv 0) (pa_cons (pv 4) (pa_cons (pv 2) (pa_cons (pv 3) pa_nil)))) (hk := Nat.le_refl _)))))
        (pss_one (ps_expr (pe_bm PySem.F.plainAttrs_list PySem.F.slot_list_append PySem.F.type_list_append mt_append (pv 3) (pa_cons (pv 1) pa_nil))))))), ?_⟩
    walk_at "sl"
    refine rd_inL hls rfl (intsN_flat _) ?_
    walk_at "rl"
    rw [inV_int]
    rw [rch_s] at hm
    by_cases c : k ∈ s
    · rw [if_pos c] at hm
      cases hm
      refine rd_isT (decide_eq_true c) ?_
      walk_at "rl"
      exact q H hs hls hlf
    rw [if_neg c] at hm
    have hh : (gmL L).has k = true := decide_eq_true hk
    rw [if_neg (by rw [hh]; exact Bool.noConfusion)] at hm
    by_cases c3 : 40 ≤ s.length
    · rw [if_pos c3] at hm
      cases hm
    rw [if_neg c3] at hm
    refine rd_isF (decide_eq_false c) ?_
    walk_at "rl"
    refine rd_append hls (by rw [intsN_len]; omega) ?_
    rw [intsN_snoc]
    have hs2 : Same H0 (upd H ls (.lst (intsN (s ++ [k])))) := same_new hs hls0
    have hf2 : (upd H ls (.lst (intsN (s ++ [k])))) lf = some (.lst (intsN o)) := by rw [upd_ne (Ne.symm hne)]; exact hlf
    have hl2 : (upd H ls (.lst (intsN (s ++ [k])))) ls = some (.lst (intsN (s ++ [k]))) := upd_same
    generalize upd H ls (.lst (intsN (s ++ [k]))) = H2 at hs2 hf2 hl2 ⊢
    clear hls hlf hs
    obtain ⟨as, n0, hasl, hnd⟩ := id hN
    obtain ⟨x, hx⟩ : ∃ x, L[k]? = some x := ⟨_, List.getElem?_eq_getElem hk⟩
    obtain ⟨a, ha, hal, hax⟩ := hnd k x hx
    have n2 := hs2 _ _ n0
    have a2 := hs2 _ _ hax
    have hnx : (gmL L).nd k = x.map (·.1) := by
      show (L.getD k []).map _ = _
      rw [List.getD_eq_getElem?_getD, hx]
      rfl
    have hxl : ∀ e ∈ x, e.1 < L.length := fun e he => ((hL.2.2 x (List.mem_of_getElem? hx)).2 e he).1
    walk_at "rl"
    refine rd_ixL n2 (by rw [List.getElem?_map, ha]; rfl) ?_
    refine rd_itL a2 ?_
    refine for_list (K := K) (a := a) (xs := x.map fun e => V.int (e.1 : Int)) (fun i σ H' => ∃ (s1 o1 : List Nat) (v : Option V), σ = [some (.ref ln), some (.int (k : Int)), some (.ref ls), some (.ref lf), v] ∧ Same H0 H' ∧ H' ls = some (.lst (intsN s1)) ∧ H' lf = some (.lst (intsN o1)) ∧
        rchL (rch (gmL L) d) (((gmL L).nd k).take i) (s ++ [k]) o = .ok s1 o1) ⟨s ++ [k], o, none, rfl, hs2, hl2, hf2, rfl⟩ (fun i σ H' _ ⟨_, _, _, _, z, _⟩ => SqL.of (z _ _ hax)) ?_ ?_
    · rintro i v σ H' hi ⟨s1, o1, v1, rfl, hs3, hl3, hf3, hr1⟩
      rw [List.getElem?_map] at hi
      obtain ⟨e, hei, rfl⟩ : ∃ e, x[i]? = some e ∧ v = .int (e.1 : Int) := by
        cases z : x[i]? with
        | none => rw [z] at hi; cases hi
        | some e => rw [z] at hi; exact ⟨e, rfl, (Option.some.inj hi).symm⟩
      have hmi : ((gmL L).nd k)[i]? = some e.1 := by rw [hnx, List.getElem?_map, hei]; rfl
      have hen := hxl e (List.mem_of_getElem? hei)
      have hr2 := rchL_more hmi hr1
      have z := rchL_split (f := rch (gmL L) d) ((gmL L).nd k) (i + 1) (s ++ [k]) o
      rw [hr2] at z
      obtain ⟨s2, o2, h2⟩ : ∃ s2 o2, rch (gmL L) d e.1 s1 o1 = .ok s2 o2 := by
        cases y : rch (gmL L) d e.1 s1 o1 with
        | ok s2 o2 => exact ⟨s2, o2, rfl⟩
        | lost j =>
          rw [y] at z
          rw [show rchL (rch (gmL L) d) ((gmL L).nd k) (s ++ [k]) o = .lost j from z] at hm
          cases hm
        | over =>
          rw [y] at z
          rw [show rchL (rch (gmL L) d) ((gmL L).nd k) (s ++ [k]) o = .over from z] at hm
          cases hm
        | out =>
          rw [y] at z
          rw [show rchL (rch (gmL L) d) ((gmL L).nd k) (s ++ [k]) o = .out from z] at hm
          cases hm
      have l1 := rchL_len (fun j a b a' b' => rch_len d j a b a' b') _ _ _ _ _ hr1
      have l2 := rchL_40 (fun j a b a' b' => rch_40 d j a b a' b') _ _ _ _ _ (show (s ++ [k]).length ≤ 40 by rw [List.length_append]; show s.length + 1 ≤ 40; omega) hr1
      rw [List.length_append] at l1
      have l1 : o1.length + (s.length + 1) = s1.length + o.length := l1
      walk_at "rl"
      refine ⟨H0, ln, ls, lf, e.1, s1, o1, s2, o2, rfl, hN, hs3, hls0, hlf0, hne, hl3, hf3, hen, l2, by omega, h2, fun H4 hs4 l4 f4 => ?_⟩
      walk_at "rl"
      exact ⟨s2, o2, _, rfl, hs4, l4, f4, hr2.trans h2⟩
    · rintro σ H' ⟨s1, o1, v1, rfl, hs3, hl3, hf3, hr1⟩
      have e1 : ((gmL L).nd k).take (x.map fun e => V.int (e.1 : Int)).length = (gmL L).nd k := by
        rw [hnx]
        exact List.take_of_length_le (by rw [List.length_map, List.length_map]; exact Nat.le_refl _)
      rw [e1] at hr1
      rw [hr1] at hm
      obtain ⟨rfl, rfl⟩ := Res.ok.inj hm
      have l1 := rchL_len (fun j a b a' b' => rch_len d j a b a' b') _ _ _ _ _ hr1
      have l2 := rchL_40 (fun j a b a' b' => rch_40 d j a b a' b') _ _ _ _ _ (show (s ++ [k]).length ≤ 40 by rw [List.length_append]; show s.length + 1 ≤ 40; omega) hr1
      rw [List.length_append] at l1
      have l1 : o1.length + (s.length + 1) = s1.length + o.length := l1
      walk_at "rl"
      refine rd_append hf3 (by rw [intsN_len]; omega) ?_
      rw [intsN_snoc]
      exact q _ (same_new hs3 hlf0) (by rw [upd_ne hne]; exact hl3) upd_same
theorem walk_all (T : Tx K mg) (L : List (List Edge)) (hL : LOk L) : ∀ d : Nat, Dok P w K mg base CX0 (d + 1) (He.ga K "_law_walk") ["_law_needs", "_law_k", "_law_seen", "_law_found"] (spWalk L d)
  | 0 => by
    refine Dok.mk0 (T.F_law_walk) sc_law_walk rfl (fun _ _ _ _ _ _ us hl => match us, hl with | [_, _, _, _], _ => rfl) (fun vs H Q E h => ?_) (fun cdv A outer s H vs Q E hr h => ?_)
    · obtain ⟨H0, ln, ls, lf, k, s, o, s', o', rfl, _⟩ := h
      rfl
    · obtain ⟨H0, ln, ls, lf, k, s, o, s', o', rfl, hN, hs, hls0, hlf0, hne, hls, hlf, hk, hs40, hos, hm, q⟩ := h
      cases hm
  | d + 1 => ok_law_walk L hL d (walk_all T L hL d) T
end
end K5
set_option maxHeartbeats 4000000





namespace K5
open PySem PySem.Spec PyProof.Rows L2
/-! many modules in a chain -/
theorem nm_zero : ("n0" : Str) = nm 0 := by decide +kernel
theorem ch_text : ∀ k : Fin 64, ("import \"n" : Str) ++ ns k ++ "\"; tell 1;" = S (textP 0 [(k.val, 0)] ++ tellL 1) := by decide +kernel
theorem ch_last : ("tell 2;" : Str) = S (tellL 2) := by decide +kernel
theorem strOk_nm : ∀ k : Fin 64, PySem.PyData.strOk (nm k) = true := by decide +kernel
/-- the data of lists of names, of numbers -/
def datS (o : List Nat) : PyData := .list (o.map fun k => .str (nm k))
def datI (o : List Nat) : PyData := .list (o.map fun k : Nat => .int (k : Int))
theorem dp_strs {K : PySem.W.Frag} {H : Hp} {a : Addr} {o : List Nat} (h : SqL K H a (o.map fun k => .str (nm k))) : Dp K H (.ref a) (datS o) := by
  refine .lst h ?_
  clear h
  induction o with
  | nil => exact .nil
  | cons k o ih => exact .cons (.str _) ih
theorem dp_ints {K : PySem.W.Frag} {H : Hp} {a : Addr} {o : List Nat} (h : SqL K H a (intsN o)) : Dp K H (.ref a) (datI o) := by
  refine .lst h ?_
  clear h
  induction o with
  | nil => exact .nil
  | cons k o ih => exact .cons (.int _) ih
theorem lay_strs : ∀ {o : List Nat}, (∀ k ∈ o, k < 64) → PyData.canLayAll0 (o.map fun k => PyData.str (nm k)) = true ∧ PyData.depthAll (o.map fun k => PyData.str (nm k)) = 0
  | [], _ => ⟨rfl, rfl⟩
  | k :: o, h => by
    obtain ⟨h1, h2⟩ := lay_strs (o := o) fun j hj => h j (List.mem_cons_of_mem _ hj)
    have h3 : PyData.strOk (nm k) = true := strOk_nm ⟨k, h k List.mem_cons_self⟩
    refine ⟨?_, ?_⟩
    · show PyData.canLayAll0 (PyData.str (nm k) :: o.map fun k => PyData.str (nm k)) = true
      rw [PyData.canLayAll0, h1, PyData.canLay0, h3]
      rfl
    · show PyData.depthAll (PyData.str (nm k) :: o.map fun k => PyData.str (nm k)) = 0
      rw [PyData.depthAll, h2, PyData.depth]
      rfl
theorem lay_ints : ∀ (o : List Nat), PyData.canLayAll0 (o.map fun k : Nat => PyData.int (k : Int)) = true ∧ PyData.depthAll (o.map fun k : Nat => PyData.int (k : Int)) = 0
  | [] => ⟨rfl, rfl⟩
  | k :: o => by
    obtain ⟨h1, h2⟩ := lay_ints o
    refine ⟨?_, ?_⟩
    · show PyData.canLayAll0 (PyData.int (k : Int) :: o.map fun k : Nat => PyData.int (k : Int)) = true
      rw [PyData.canLayAll0, h1, PyData.canLay0]
      rfl
    · show PyData.depthAll (PyData.int (k : Int) :: o.map fun k : Nat => PyData.int (k : Int)) = 0
      rw [PyData.depthAll, h2, PyData.depth]
      rfl
theorem can_strs {o : List Nat} (h : ∀ k ∈ o, k < 64) : (datS o).canLay0 = true := by
  unfold datS
  rw [PyData.canLay0]
  exact (lay_strs h).1
theorem can_ints (o : List Nat) : (datI o).canLay0 = true := by
  unfold datI
  rw [PyData.canLay0]
  exact (lay_ints o).1
theorem sh_strs {o : List Nat} (h : ∀ k ∈ o, k < 64) : SeqAt.shaped (datS o) = true := by
  unfold SeqAt.shaped
  rw [can_strs h, Bool.true_and]
  refine decide_eq_true ?_
  unfold datS
  rw [PyData.depth, (lay_strs h).2]
  decide
theorem sh_ints (o : List Nat) : SeqAt.shaped (datI o) = true := by
  unfold SeqAt.shaped
  rw [can_ints, Bool.true_and]
  refine decide_eq_true ?_
  unfold datI
  rw [PyData.depth, (lay_ints o).2]
  decide
theorem rd_eqStrs {K : PySem.W.Frag} {H : Hp} {Q : VK} {a b : Addr} {o : List Nat} (h : ∀ k ∈ o, k < 64) (ha : SqL K H a (o.map fun k => .str (nm k))) (hb : SqL K H b (o.map fun k => .str (nm k))) (q : Q (.bl true) H) : rEqD K (.ref a) (.ref b) H Q :=
  ⟨datS o, datS o, dp_strs ha, dp_strs hb, sh_strs h, sh_strs h, by rw [SeqAt.eqv_refl _ (can_strs h)]; exact q⟩
theorem rd_neStrs {K : PySem.W.Frag} {H : Hp} {Q : VK} {a b : Addr} {o : List Nat} (h : ∀ k ∈ o, k < 64) (ha : SqL K H a (o.map fun k => .str (nm k))) (hb : SqL K H b (o.map fun k => .str (nm k))) (q : Q (.bl false) H) : rNeD K (.ref a) (.ref b) H Q :=
  ⟨datS o, datS o, dp_strs ha, dp_strs hb, sh_strs h, sh_strs h, by rw [SeqAt.eqv_refl _ (can_strs h)]; exact q⟩
theorem rd_neInts {K : PySem.W.Frag} {H : Hp} {Q : VK} {a b : Addr} {o : List Nat} (ha : SqL K H a (intsN o)) (hb : SqL K H b (intsN o)) (q : Q (.bl false) H) : rNeD K (.ref a) (.ref b) H Q :=
  ⟨datI o, datI o, dp_ints ha, dp_ints hb, sh_ints o, sh_ints o, by rw [SeqAt.eqv_refl _ (can_ints o)]; exact q⟩
theorem rd_makeS {C : Addr} {sp : Sp} {E : L2.St → XK} {t : TA} {σ : L2.St} {H : Hp} {Q : VK} (h : t σ H fun vs H1 => ∀ x dx, H1 x = none → H1 dx = none → dx ≠ x → sp (.ref x :: vs) (upd (upd H1 dx (.own x)) x (.ins C dx [])) (fun v H2 => v = .non ∧ Q (.ref x) H2) (E σ)) : tMakeS C sp E t σ H Q := h
theorem rd_xf {a C : Addr} {cls : Value} {d : Option Addr} {f : Str} {te : TE} {σ : L2.St} {H : Hp} {Q : VK} (h : te σ H fun x H1 => x = .ref a ∧ cls = .ref C ∧ ∃ (dd : Addr) (fs : List (Str × V)) (v : V), d = some dd ∧ H1 dd = some (.xd fs) ∧ fs.lookup f = some v ∧ Q v H1) : tXf a cls d C f te σ H Q := h
def kvC (m i : Nat) : List (Key × V) := (List.range i).map fun k => (.inr (nm k), .str (S (textP 0 (chX m k) ++ tellL (chT m k))))
theorem kvC_snoc (m i : Nat) : kvC m i ++ [(.inr (nm i), .str (S (textP 0 (chX m i) ++ tellL (chT m i))))] = kvC m (i + 1) := by
  unfold kvC
  rw [List.range_succ, List.map_append]
  rfl
theorem kvC_len (m i : Nat) : (kvC m i).length = i := by
  unfold kvC
  rw [List.length_map, List.length_range]
theorem kvC_all (m : Nat) : kvC m (m + 1) = (gmC m).kvs := by
  show _ = ((List.range (m + 1)).filter fun _ => true).map _
  rw [List.filter_eq_self.mpr fun _ _ => rfl]
  rfl
section
variable {σ : L2.St} {H : Hp} {Q : VK} {QS : L2.St → Hp → Prop} {v : V} {a0 a1 a2 a3 a4 a5 a6 a7 a8 a9 a10 a11 a12 a13 a14 : Option V}
theorem rd_v12 (h : Q v H) : tVar 12 (a0 :: a1 :: a2 :: a3 :: a4 :: a5 :: a6 :: a7 :: a8 :: a9 :: a10 :: a11 :: some v :: σ) H Q := ⟨_, rfl, h⟩
theorem rd_v13 (h : Q v H) : tVar 13 (a0 :: a1 :: a2 :: a3 :: a4 :: a5 :: a6 :: a7 :: a8 :: a9 :: a10 :: a11 :: a12 :: some v :: σ) H Q := ⟨_, rfl, h⟩
theorem rd_v14 (h : Q v H) : tVar 14 (a0 :: a1 :: a2 :: a3 :: a4 :: a5 :: a6 :: a7 :: a8 :: a9 :: a10 :: a11 :: a12 :: a13 :: some v :: σ) H Q := ⟨_, rfl, h⟩
theorem rd_g12 (h : QS (a0 :: a1 :: a2 :: a3 :: a4 :: a5 :: a6 :: a7 :: a8 :: a9 :: a10 :: a11 :: some v :: σ) H) : gName 12 v (a0 :: a1 :: a2 :: a3 :: a4 :: a5 :: a6 :: a7 :: a8 :: a9 :: a10 :: a11 :: a12 :: σ) H QS := h
theorem rd_g13 (h : QS (a0 :: a1 :: a2 :: a3 :: a4 :: a5 :: a6 :: a7 :: a8 :: a9 :: a10 :: a11 :: a12 :: some v :: σ) H) : gName 13 v (a0 :: a1 :: a2 :: a3 :: a4 :: a5 :: a6 :: a7 :: a8 :: a9 :: a10 :: a11 :: a12 :: a13 :: σ) H QS := h
theorem rd_g14 (h : QS (a0 :: a1 :: a2 :: a3 :: a4 :: a5 :: a6 :: a7 :: a8 :: a9 :: a10 :: a11 :: a12 :: a13 :: some v :: σ) H) : gName 14 v (a0 :: a1 :: a2 :: a3 :: a4 :: a5 :: a6 :: a7 :: a8 :: a9 :: a10 :: a11 :: a12 :: a13 :: a14 :: σ) H QS := h
end
def spLong : Sp := fun vs H Q _ => ∃ m : Nat, vs = [.int (m : Int)] ∧ m ≤ 42 ∧ ∀ H', Same H H' → Q (.bl true) H'
section
variable {P : Program} {w : World} {K : PySem.W.Frag} {mg : Str → Option Value} {base : Heap}
theorem sc_law_long : FnScope ["_law_many", "_law_modules", "_law_k", "_law_graph", "e"] ["_law_many"] (defScope s_law_long) := ⟨rfl, rfl, rfl, by decide +kernel, rfl, by decide +kernel, by decide +kernel⟩
theorem ok_law_long (PP : PF P) (T : Tx K mg) : Dok P w K mg base CX0 59 (He.ga K "_law_long") ["_law_many"] (spLong) := by
  refine Dok.mk0 (T.F_law_long) sc_law_long rfl (fun _ _ _ _ _ _ us hl => match us, hl with | [_], _ => rfl) (fun vs H Q E h => ?_) (fun cdv A outer s H vs Q E hr h => ?_)
  · obtain ⟨m, rfl, _⟩ := h; rfl
  · obtain ⟨m, rfl, hm, q⟩ := h
    have XO := (exf_of T.x_Oversized).1
    obtain ⟨cG, m1, m2, m3, m4⟩ := T.graph
    have hG := gmC_ok (m := m) (by omega)
    have FG := ok_Graph_init (P := P) (w := w) (base := base) PP (gmC m) hG (Nat.zero_lt_succ m) 42 T
    refine ⟨_, (pss_cons (ps_set (i := 1) sc_law_long.nd rfl (Or.inl rfl) pe_dnewK)
        (pss_cons (ps_for PassesOwn.never rfl (pi_range1 rfl T.n_range (pa_cons (pv 0) pa_nil)) (pg_name (i := 2) sc_law_long.nd rfl (Or.inl rfl)) (pss_one (ps_dput (hu_of hr) (pv 1) (pe_op op_addStr pe_str (pe_callTy cl_strI (by rfl) T.n_str (by decide +kernel) (pa_cons (pv 2) pa_nil))) (pe_op op_addStr (pe_op op_addStr pe_str (pe_callTy cl_strI (by rfl) T.n_str (by decide +kernel) (pa_cons (pe_op op_add (pv 2) pe_int) pa_nil))) pe_str) rfl)))
        (pss_cons (ps_dput (hu_of hr) (pv 1) (pe_op op_addStr pe_str (pe_callTy cl_strI (by rfl) T.n_str (by decide +kernel) (pa_cons (pv 0) pa_nil))) pe_str rfl)
        (pss_cons (ps_try_as (i := 4) rfl rfl sc_law_long.nd rfl rfl ⟨rfl, by decide, .inl T.g_Oversized⟩ takes0 (fun W pn xe tk _ => pss_one (ps_set (i := 3) sc_law_long.nd rfl (Or.inl rfl) (pkS (fun σ => passAt tk σ) T.mk_Graph FG T.g_Graph hr (pa_cons (pv 1) (pa_cons pe_str pa_nil))))) (fun a oe cls d pn hz hf => pss_one (ps_ret (pe_and (pe_cmpR op_gt (pe_op op_add (pv 0) pe_int) pe_int (nomark _)) (pe_one (pe_cmpR op_eq (pe_xf XO.xf XO.hno hz hf (pv 4)) pe_str (nomark _)))))))
        (pss_one (ps_ret (pe_and (pe_cmpR op_le (pe_op op_add (pv 0) pe_int) pe_int (nomark _)) (pe_one (pe_cmpR (op_eqD hr.units) (pm0 (ok_Graph_order (K := K) T) T.cl_Graph T.me_Graph_order hr (pv 3)) (pe_lc (own := [("_law_k", 2)]) (g := gName 2) rfl sc_law_long.nd (pi_range1 rfl T.n_range (pa_cons (pe_op op_add (pv 0) pe_int) pa_nil)) (blkOk_by (own := [("_law_k", 2)]) (N := ["_law_many", "_law_modules", "_law_k", "_law_graph", "e"]) (sc := defScope s_law_long) (by decide +kernel)) (fun _ _ _ _ _ => (pg_name (i := 2) sc_law_long.nd rfl (Or.inl rfl))) (fun _ _ _ _ _ => pts_nil) (fun _ _ _ _ _ => (pe_op op_addStr pe_str (pe_callTy cl_strI (by rfl) T.n_str (by decide +kernel) (pa_cons (pe_op op_sub (pv 0) (pv 2)) pa_nil))))) (nomark _)))))))))), ?_⟩
    walk_at "sl"
    intro dm hdm
    have s1 := Same.upd (o := .dK []) hdm
    have d1 : (upd H dm (.dK [])) dm = some (.dK (kvC m 0)) := upd_same
    generalize upd H dm (.dK []) = H1 at s1 d1 ⊢
    walk_at "rl"
    refine rd_rngI (by omega) (by omega) ?_
    refine for_range (lo := 0) (n := m) (fun i σ H' => ∃ v : Option V, σ = [some (.int (m : Int)), some (.ref dm), v, none, none] ∧ Same H H' ∧ H' dm = some (.dK (kvC m i))) ⟨none, rfl, s1, d1⟩ ?_ ?_
    · rintro i σ H' hi ⟨v, rfl, s2, d2⟩
      simp only [Int.zero_add]
      have ln1 : (ns (i + 1)).length ≤ 3 := ns_len ⟨i + 1, by omega⟩
      have ln0 : (ns i).length ≤ 3 := ns_len ⟨i, by omega⟩
      walk_at "rl"
      refine ⟨((i + 1 : Nat) : Int), rfl, ?_, ?_⟩
      · show (i + 1).log2 < 1920
        have : (i + 1).log2 ≤ i + 1 := Nat.log2_le_self _
        omega
      refine rd_addStr (small (by show _ + (ns (i + 1)).length ≤ 100000; have h2 : ("import \"n" : Str).length = 9 := rfl; omega)) ?_
      walk_at "rl"
      refine rd_addStr (small (by show (_ ++ ns (i + 1)).length + _ ≤ 100000; rw [len_app]; have h2 : ("import \"n" : Str).length = 9 := rfl; have h3 : ("\"; tell 1;" : Str).length = 10 := rfl; omega)) ?_
      walk_at "rl"
      refine ⟨(i : Int), rfl, ?_, ?_⟩
      · show i.log2 < 1920
        have : i.log2 ≤ i := Nat.log2_le_self i
        omega
      refine rd_addStr (small (by show _ + (ns i).length ≤ 100000; have h2 : ("n" : Str).length = 1 := rfl; omega)) ?_
      refine rd_dput (z := nm i) d2 (by rw [kvC_len]; omega) ?_
      have hn : valV (kvC m i) (.inr (nm i)) = none := kv_none (by omega) fun k hk => List.mem_range.mp hk
      rw [putK_new _ hn]
      have hv : (V.str ("import \"n" ++ Str.ofString (toString ((i + 1 : Nat) : Int)) ++ "\"; tell 1;")) = .str (S (textP 0 (chX m i) ++ tellL (chT m i))) := by
        have h1 : chX m i = [(i + 1, 0)] := if_pos hi
        have h2 : chT m i = 1 := if_pos hi
        rw [h1, h2]
        exact congrArg V.str (ch_text ⟨i + 1, by omega⟩)
      rw [hv, kvC_snoc]
      exact ⟨_, rfl, same_new s2 hdm, upd_same⟩
    · rintro σ H' ⟨v, rfl, s2, d2⟩
      have ln0 : (ns m).length ≤ 3 := ns_len ⟨m, by omega⟩
      walk_at "rl"
      refine ⟨(m : Int), rfl, ?_, ?_⟩
      · show m.log2 < 1920
        have : m.log2 ≤ m := Nat.log2_le_self m
        omega
      refine rd_addStr (small (by show _ + (ns m).length ≤ 100000; have h2 : ("n" : Str).length = 1 := rfl; omega)) ?_
      refine rd_dput (z := nm m) d2 (by rw [kvC_len]; omega) ?_
      have hn : valV (kvC m m) (.inr (nm m)) = none := kv_none (by omega) fun k hk => List.mem_range.mp hk
      rw [putK_new _ hn]
      have hv : (V.str "tell 2;") = .str (S (textP 0 (chX m m) ++ tellL (chT m m))) := by
        have h1 : chX m m = [] := if_neg (Nat.lt_irrefl m)
        have h2 : chT m m = 2 := if_neg (Nat.lt_irrefl m)
        rw [h1, h2]
        exact congrArg V.str ch_last
      rw [hv, kvC_snoc, kvC_all]
      have s3 : Same H (upd H' dm (.dK (gmC m).kvs)) := same_new s2 hdm
      have d3 : (upd H' dm (.dK (gmC m).kvs)) dm = some (.dK (gmC m).kvs) := upd_same
      generalize upd H' dm (.dK (gmC m).kvs) = H3 at s3 d3 ⊢
      walk_at "rl"
      refine rd_makeS ?_
      walk_at "rl"
      intro g dx hg hdx hne
      have s4 : Same H3 (upd (upd H3 dx (.own g)) g (.ins (cGraph K) dx [])) := fun b u e => by
        rw [upd_ne (ne_of_none e hg), upd_ne (ne_of_none e hdx)]
        exact e
      refine ⟨g, dx, dm, by rw [nm_zero], upd_same, s4 _ _ d3, ?_⟩
      by_cases c : m < 40
      · have e := ch_few c m 42 0 [] (by omega) (by omega)
        rw [show rch (gmC m) 42 0 [] [] = .ok (List.range (m + 1)) ([] ++ down m (m + 1)) from e, List.nil_append]
        intro H5 dT dI lO k5 A5
        refine ⟨rfl, ?_⟩
        have s5 : Same H H5 := fun b u e => k5 b u (s4 b u (s3 b u e)) (ne_of_none (s3 b u e) hg)
        have gob := A5.ob
        walk_at "rl"
        refine rd_isT (decide_eq_true (by omega)) ?_
        walk_at "rl"
        refine ⟨g, dx, dT, dI, lO, gmC m, nm 0, List.range (m + 1), down m (m + 1), rfl, A5, fun p hp => ?_⟩
        have s6 := Same.upd (o := .lst ((down m (m + 1)).map fun k => .str (nm k))) hp
        have p6 : (upd H5 p (.lst ((down m (m + 1)).map fun k => .str (nm k)))) p = some (.lst ((down m (m + 1)).map fun k => .str (nm k))) := upd_same
        generalize upd H5 p (.lst ((down m (m + 1)).map fun k => .str (nm k))) = H6 at s6 p6 ⊢
        walk_at "rl"
        refine rd_rngI (by omega) (by omega) ?_
        rw [show ((m : Int) + 1).toNat = m + 1 by omega]
        have hdl : (List.range (m + 1)).length = m + 1 := List.length_range
        refine rd_lcR (fun i => ((List.range (m + 1)).map fun t => V.str (nm (m - t))).take i) rfl (fun i => ?_) (fun i H7 Pn P0 hi s7 hP h0 => ?_) (fun D H7 hD s7 hF => ?_)
        · rw [List.length_take, List.length_map, hdl]
          omega
        · simp only [wipe, List.map, List.set_cons_succ, List.set_cons_zero]
          walk_at "rl"
          refine ⟨rfl, ?_⟩
          walk_at "rl"
          rw [show ((m : Int) - (0 + (i : Int))) = ((m - i : Nat) : Int) by omega]
          have lni : (ns (m - i)).length ≤ 3 := ns_len ⟨m - i, by omega⟩
          refine ⟨((m - i : Nat) : Int), rfl, ?_, ?_⟩
          · show (m - i).log2 < 1920
            have : (m - i).log2 ≤ m - i := Nat.log2_le_self _
            omega
          refine rd_addStr (small (by show _ + (ns (m - i)).length ≤ 100000; have h2 : ("n" : Str).length = 1 := rfl; omega)) ?_
          exact hP _ _ (fun _ _ e => e) (take_succ (by rw [List.getElem?_map, List.getElem?_range hi]; rfl))
        · rw [List.take_of_length_le (by rw [List.length_map, hdl]; exact Nat.le_refl _)] at hF
          have hd : (down m (m + 1)).map (fun k => V.str (nm k)) = (List.range (m + 1)).map fun t => V.str (nm (m - t)) := by
            rw [down_is, List.map_map]
            rfl
          rw [← hd] at hF
          refine rd_eqStrs (fun k hk => ?_) (SqL.of (s7 _ _ p6)) (SqL.of hF) ?_
          · rw [down_is] at hk
            obtain ⟨t, _, rfl⟩ := List.mem_map.mp hk
            omega
          · exact q _ ((s5.trans s6).trans s7)
      · have e := ch_many (Nat.le_of_not_lt c) 40 42 0 [] (by omega) (by omega)
        rw [show rch (gmC m) 42 0 [] [] = .over from e]
        intro H5 x k5 hx
        have s5 : Same H H5 := fun b u e => k5 b u (s4 b u (s3 b u e)) (ne_of_none (s3 b u e) hg)
        refine ⟨true, XO.exm, fun _ a ha => ?_, fun z => by cases z⟩
        simp only [List.set_cons_succ, List.set_cons_zero]
        walk_at "rl"
        refine rd_isT (decide_eq_true (by omega)) ?_
        refine rd_op ?_
        refine rd_xf ?_
        walk_at "rl"
        refine ⟨rfl, rfl, x, _, _, rfl, hx, rfl, ?_⟩
        walk_at "rl"
        rw [decide_eq_true rfl]
        exact q H5 s5
end
end K5
set_option maxHeartbeats 4000000





local macro_rules | `(tactic| walk_at "re1") => `(tactic| first
  | walk_at "rl1"
  | (with_reducible refine K5.rd_v12 ?_)
  | (with_reducible refine K5.rd_v13 ?_)
  | (with_reducible refine K5.rd_v14 ?_)
  | (with_reducible refine K5.rd_g12 ?_)
  | (with_reducible refine K5.rd_g13 ?_)
  | (with_reducible refine K5.rd_g14 ?_))
local macro_rules | `(tactic| walk_at "re") => `(tactic| repeat walk_at "re1")
local macro_rules | `(tactic| walk_at "se") => `(tactic| (simp only [K5.start_c, K5.start_o, K5.start_n]; walk_at "re"))

namespace K5
open PySem PySem.Spec PyProof.Rows L2
/-! the law -/
/-- the promise is chosen where the expression begins -/
def tEx {ι : Type} (p : ι → Prop) (t : ι → TE) : TE := fun σ H Q => ∃ i, p i ∧ t i σ H Q
theorem pe_ex {X : Cx} {e : Expr} {ι : Type} {p : ι → Prop} {t : ι → TE} (h : ∀ i, p i → PE X e (t i)) : PE X e (tEx p t) := ⟨fun pins s σ H Q I ⟨i, hi, q⟩ => (h i hi).run pins s σ H Q I q⟩
section
variable {X : Cx} {CX : CXT} {j k : Nat} {f C : Addr} {ps : List Str} {sp : Sp} {x m : Str} {p pos apos : Pos} {e o : Expr} {es : List Expr} {ta : TE} {t : TA} {E : XK} {dv : List V}
theorem pkX (hx : Passes CX X E) (M : Mk X.K C f) (c : Dok X.prog X.w X.K X.mg X.base CX k f ps sp) (hm : X.mg x = some (.ref C)) (hr : Room j X.A) (ha : PA X (e :: es) t) (hk : k + 1 ≤ j := by decide) (hg : Gl X x := by rfl)
    (hdb : (x == ("__debug__" : Str)) = false := by decide) (he : starEach (e :: es) X.env = (false, eval e X.env) :: starEach es X.env := by rfl) (hpl : (backTo pos (starEach es X.env)).any (·.1) = false := by rfl) :
    PE X (.Call (.Name x p) (e :: es) [] pos) (tMake C sp [] E t) := by
  obtain ⟨fd, F, b⟩ := c.ex
  exact pe_make M F (hr.mono hk) hg hm b .nil hx ha hdb he hpl
theorem pcR (c : ∃ fd ds, FnOk X.prog X.w X.K X.mg X.base CX0 k f fd ps sp ∧ Vals dv ds ∧ Binds X.K fd ps ds ∧ PySem.W.keepIn X.K (.ref f) = true) (hm : X.mg x = some (.ref f)) (hr : Room j X.A) (ha : PA X (e :: es) t) (hk : k ≤ j := by decide) (hg : Gl X x := by rfl)
    (hdb : (x == ("__debug__" : Str)) = false := by decide) (he : starEach (e :: es) X.env = (false, eval e X.env) :: starEach es X.env := by rfl) (hpl : (backTo pos (starEach es X.env)).any (·.1) = false := by rfl) :
    PE X (.Call (.Name x p) (e :: es) [] pos) (tCall sp dv E0 t) := by
  obtain ⟨fd, ds, F, v, b, kp⟩ := c
  exact pe_call F (hr.mono hk) hg hm kp b v pass0 ha hdb he hpl
end
section
variable {σ : L2.St} {H : Hp} {Q : VK} {QS : L2.St → Hp → Prop} {K : PySem.W.Frag} {p : Addr} {xs : List V} {n : Nat} {sp : Sp} {dv : List V} {E : XK} {tr : TA}
theorem rd_ex {ι : Type} {p : ι → Prop} {t : ι → TE} (i : ι) (hp : p i) (h : t i σ H Q) : tEx p t σ H Q := ⟨i, hp, h⟩
theorem rd_gunl {t : List V → L2.St → Hp → (L2.St → Hp → Prop) → Prop} (e : H p = some (.lst xs)) (hn : xs.length = n) (h : t xs σ H QS) : gUnl K n t (.ref p) σ H QS := ⟨p, xs, rfl, SqL.of e, hn, h⟩
theorem rd_callD (h : tr σ H fun vs H1 => sp (vs ++ dv) H1 Q E) : tCall sp dv E tr σ H Q := h
end
/-! the law's graph -/
theorem its_tell1 (L : List (List Edge)) (k : Nat) : tellsOf ((gmL L).its k) = [(k : Int)] := by
  show tellsOf (itsP 0 (L.getD k []) ++ [Itm.tell (k : Int)]) = _
  unfold tellsOf
  rw [List.flatMap_append]
  show tellsOf (itsP 0 (L.getD k [])) ++ [(k : Int)] = _
  rw [its_tells, List.nil_append]
theorem ev_gmL (L : List (List Edge)) : ∀ o : List Nat, evAll (gmL L) o = o.map fun k : Nat => ((k, (k : Int)) : Ev)
  | [] => rfl
  | k :: o => by
    show evsOf k ((gmL L).its k) ++ evAll (gmL L) o = _
    rw [ev_gmL L o]
    unfold evsOf
    rw [its_tell1]
    rfl
theorem sp_gmL {L : List (List Edge)} (hL : LOk L) {k : Nat} (hk : k < L.length) : (spacesOf ((gmL L).its k)).Nodup := by
  show (spacesOf (itsP 0 (L.getD k []) ++ [Itm.tell (k : Int)])).Nodup
  unfold spacesOf
  rw [List.flatMap_append]
  show (spacesOf (itsP 0 (L.getD k [])) ++ []).Nodup
  rw [List.append_nil]
  exact (its_spaces (L.getD k []) 0 (by have := (hL.2.2 _ (getD_mem (d := []) hk)).1; omega)).1
/-- the walk of the law's graph -/
theorem run_gmL {L : List (List Edge)} (hL : LOk L) : ∃ s o, rch (gmL L) 42 0 [] [] = .ok s o ∧ (gmL L).Run s o ∧ 0 ∈ s ∧ 0 ∈ o ∧ (∀ k ∈ s, k < L.length) ∧ ∀ k ∈ o, k ∈ s := by
  obtain ⟨h0, h9, hx⟩ := id hL
  obtain ⟨s, o, e, wk, hm⟩ := rch_ok (G := gmL L) (n := L.length) (by omega) (gmL_ok hL).lt (fun k hk => decide_eq_true hk) 42 0 [] [] h0 List.nodup_nil (fun x hx => absurd hx List.not_mem_nil) (by show L.length < 42 + 0; omega)
  have hsub : ∀ k ∈ o, k ∈ s := fun k hk => ((wk.mem k).mp hk).elim (fun z => absurd z List.not_mem_nil) fun z => z.1
  refine ⟨s, o, e, ⟨e, h0, fun j hj m hm' => wk.cl j hj List.not_mem_nil m hm', hsub, fun k hk => sp_gmL hL (wk.lt k hk)⟩, hm, (wk.mem 0).mpr (.inr ⟨hm, List.not_mem_nil⟩), wk.lt, hsub⟩
/-- .. without one of its modules -/
def gmLess (L : List (List Edge)) (l : Nat) : Gm := gmX L.length (fun k => decide (k ≠ l)) (fun k => L.getD k []) (fun k => k)
theorem gmLess_ok {L : List (List Edge)} (hL : LOk L) (l : Nat) : (gmLess L l).Ok :=
  gmX_ok (by have := hL.2.1; omega) (fun k hk => hL.2.2 _ (getD_mem hk)) (fun k hk => by have := hL.2.1; omega)
theorem rch_less {L : List (List Edge)} {l : Nat} {s o : List Nat} (e : rch (gmL L) 42 0 [] [] = .ok s o) (hl : l ∈ s) : rch (gmLess L l) 42 0 [] [] = .lost l := by
  rcases rch_lost (G := gmL L) (G' := gmLess L l) (l := l) (fun _ => rfl) (fun k hk _ => decide_eq_true hk) (decide_eq_false fun z => z rfl) 42 0 [] [] s o List.not_mem_nil e with ⟨h, _⟩ | ⟨_, h⟩
  · exact absurd hl h
  · exact h
def kvF (L : List (List Edge)) (l i : Nat) : List (Key × V) := ((List.range i).filter fun k => decide (k ≠ l)).map fun k => (.inr (nm k), .str (S (textL k (L.getD k []))))
theorem kvF_len (L : List (List Edge)) (l i : Nat) : (kvF L l i).length ≤ i := by
  unfold kvF
  rw [List.length_map]
  exact Nat.le_trans (List.length_filter_le _ _) (by rw [List.length_range]; exact Nat.le_refl _)
theorem kvF_same (L : List (List Edge)) (i : Nat) : kvF L i (i + 1) = kvF L i i := by
  unfold kvF
  rw [List.range_succ, List.filter_append, List.filter_cons_of_neg (by simp), List.filter_nil, List.append_nil]
theorem kvF_snoc (L : List (List Edge)) {l i : Nat} (h : i ≠ l) : kvF L l i ++ [(.inr (nm i), .str (S (textL i (L.getD i []))))] = kvF L l (i + 1) := by
  unfold kvF
  rw [List.range_succ, List.filter_append, List.filter_cons_of_pos (by simp [h]), List.filter_nil, List.map_append]
  rfl
theorem kvF_new (L : List (List Edge)) (l : Nat) {i : Nat} (hi : i < 64) : valV (kvF L l i) (.inr (nm i)) = none := kv_none hi fun k hk => List.mem_range.mp (List.mem_filter.mp hk).1
theorem kvF_all (L : List (List Edge)) (l : Nat) : kvF L l L.length = (gmLess L l).kvs := rfl
theorem strsN_map (o : List Nat) : strsN o = o.map fun k => V.str (nm k) := rfl
theorem getE_ints {o : List Nat} {i : Nat} {x : V} (h : (intsN o)[i]? = some x) : ∃ k, o[i]? = some k ∧ x = .int (k : Int) := by
  unfold intsN at h
  rw [List.getElem?_map] at h
  cases z : o[i]? with
  | none => rw [z] at h; cases h
  | some k => rw [z] at h; exact ⟨k, rfl, (Option.some.inj h).symm⟩
theorem ev_get {L : List (List Edge)} {o : List Nat} {ts : List Addr} {H : Hp} (h : EvsAt H ts (evAll (gmL L) o)) {i : Nat} {x : V} (hi : (ts.map V.ref)[i]? = some x) :
    ∃ (k : Nat) (a b : Addr) (j : Int), o[i]? = some k ∧ x = .ref a ∧ H a = some (.tup [.str "tell", .int (k : Int), .ref b]) ∧ H b = some (.tup [.str (nm k), .int j]) := by
  rw [ev_gmL] at h
  rw [List.getElem?_map] at hi
  cases z : ts[i]? with
  | none => rw [z] at hi; cases hi
  | some a =>
    rw [z] at hi
    have hlt : i < o.length := by
      have h1 := (List.getElem?_eq_some_iff.mp z).1
      rw [h.1, List.length_map] at h1
      exact h1
    obtain ⟨a', h1, b, j, h2, h3⟩ := h.2 i (o[i], (o[i] : Int)) (by rw [List.getElem?_map, List.getElem?_eq_getElem hlt]; rfl)
    rw [z] at h1
    cases h1
    exact ⟨o[i], a, b, j, List.getElem?_eq_getElem hlt, (Option.some.inj hi).symm, h2, h3⟩
theorem ev_len {L : List (List Edge)} {o : List Nat} {ts : List Addr} {H : Hp} (h : EvsAt H ts (evAll (gmL L) o)) : ts.length = o.length := by
  rw [ev_gmL] at h
  have h1 := h.1
  rw [List.length_map] at h1
  exact h1
theorem sh_done : SeqAt.shaped (.tuple [.str "done"]) = true ∧ PyData.eqv (.tuple [.str "done"]) (.tuple [.str "done"]) = true := by decide +kernel
theorem rd_neDone {K : PySem.W.Frag} {H : Hp} {Q : VK} {a b : Addr} (ha : H a = some (.tup [.str "done"])) (hb : H b = some (.tup [.str "done"])) (q : Q (.bl false) H) : rNeD K (.ref a) (.ref b) H Q :=
  ⟨_, _, .tup (SqT.of ha) (.cons (.str _) .nil), .tup (SqT.of hb) (.cons (.str _) .nil), sh_done.1, sh_done.1, by rw [sh_done.2]; exact q⟩
theorem rd_iKeys {td : TE} {σ : L2.St} {H : Hp} {R : It → Hp → Prop} (h : td σ H fun x H1 => ∃ d o, x = .ref d ∧ ((∃ kvs, H1 d = some (.frz o (.dK kvs)) ∧ R (Itk d o kvs) H1) ∨ ∃ kvs, H1 d = some (.frz o (.dT kvs)) ∧ R (Itkt d o kvs) H1)) : iKeys td σ H R := h
theorem kvL_get {L : List (List Edge)} {i : Nat} {k : Key} {v : V} (h : (kvL L.length L)[i]? = some (k, v)) : i < L.length ∧ k = .inr (nm i) ∧ v = .str (S (textL i (L.getD i []))) := by
  unfold kvL at h
  rw [List.getElem?_map] at h
  cases z : (List.range L.length)[i]? with
  | none => rw [z] at h; cases h
  | some j =>
    have hlt := (List.getElem?_eq_some_iff.mp z).1
    rw [List.length_range] at hlt
    rw [List.getElem?_range hlt] at z
    cases z
    rw [List.getElem?_range hlt] at h
    cases h
    exact ⟨hlt, rfl, rfl⟩
/-- a graph that can be walked -/
def GOk (G : Gm) : Prop := G.Ok ∧ 0 < G.n
def spLaw (K : PySem.W.Frag) : Sp := fun vs H Q _ => ∃ (a : Addr) (xs : List Int), vs = [.ref a] ∧ SqL K H a (xs.map V.int) ∧ ∀ H', Q (.bl true) H'
section
variable {P : Program} {w : World} {K : PySem.W.Frag} {mg : Str → Option Value} {base : Heap}
theorem sc_law : FnScope ["_law_script", "_law_count", "_law_needs", "_law_modules", "_law_found", "_law_graph", "_law_events", "_law_end", "_law_exports", "_law_lost", "_law_less", "_law_name", "e", "_law_k", "_law_event"] ["_law_script"] (defScope s_law) := ⟨rfl, rfl, rfl, by decide +kernel, rfl, by decide +kernel, by decide +kernel⟩
theorem ok_law (PP : PF P) (T : Tx K mg) {fd : FuncData} (F : FunD K d_law.name d_law.qual d_law.params d_law.body d_law.scope (d_law.dvs K) (d_law.kws K) (He.ga K "law") fd) : FnOk P w K mg base CX0 61 (He.ga K "law") fd ["_law_script"] (spLaw K) := by
  have F : FunD K d_law.name d_law.qual d_law.params d_law.body d_law.scope [] [] (He.ga K "law") fd := F
  refine F.ok sc_law (fun vs H Q E h => ?_) (fun cdv A outer s H vs Q E hr h => ?_)
  · obtain ⟨a, xs, rfl, _⟩ := h; rfl
  suffices z : ∃ t, PSs (cxOf CX0 P w K mg base ["_law_script", "_law_count", "_law_needs", "_law_modules", "_law_found", "_law_graph", "_law_events", "_law_end", "_law_exports", "_law_lost", "_law_less", "_law_name", "e", "_law_k", "_law_event"] d_law.qual d_law.scope (He.ga K "law") cdv A outer s H E).nox d_law.body t ∧ t { nx := fun _ H' => Q .non H', rt := Q } (L2.start ["_law_script", "_law_count", "_law_needs", "_law_modules", "_law_found", "_law_graph", "_law_events", "_law_end", "_law_exports", "_law_lost", "_law_less", "_law_name", "e", "_law_k", "_law_event"] vs) H by
    obtain ⟨t, h1, q1⟩ := z
    exact ⟨t, h1.nox, q1⟩
  · obtain ⟨a, xs, rfl, ha, q⟩ := h
    have XN := (exf_of T.x_NoModule).1
    obtain ⟨cG, m1, m2, m3, m4⟩ := T.graph
    refine ⟨_, (pss_cons (ps_set (i := 1) sc_law.nd rfl (Or.inl rfl) (pe_op op_add pe_int (pe_op op_mod (pe_callB cl_absI (by rfl) T.n_abs (by decide +kernel) (pa_cons (pc (ok_law_cell (K := K) T) T.g_law_cell hr (pa_cons (pv 0) (pa_cons pe_int pa_nil))) pa_nil)) pe_int)))
        (pss_cons (ps_asg (pc (ok_law_texts (K := K) T) T.g_law_texts hr (pa_cons (pv 0) (pa_cons (pv 1) pa_nil))) (pg_unl rfl (pgs_cons (pg_name (i := 2) sc_law.nd rfl (Or.inl rfl)) (pgs_cons (pg_name (i := 3) sc_law.nd rfl (Or.inl rfl)) pgs_nil))))
        (pss_cons (ps_set (i := 4) sc_law.nd rfl (Or.inl rfl) (pe_lst pa_nil))
        (pss_cons (ps_expr (pe_ex (p := LOk) fun L hL => pc (walk_all T L hL 42) T.g_law_walk hr (pa_cons (pv 2) (pa_cons pe_int (pa_cons (pe_lst pa_nil) (pa_cons (pv 4) pa_nil))))))
        (pss_cons (ps_set (i := 5) sc_law.nd rfl (Or.inl rfl) (pe_ex (p := GOk) fun G hG => pkX (passN ⟨rfl, rfl⟩) T.mk_Graph (ok_Graph_init (P := P) (w := w) (base := base) PP G hG.1 hG.2 42 T) T.g_Graph hr (pa_cons (pv 3) (pa_cons pe_str pa_nil))))
        (pss_cons (ps_if (PW.pt (pw_or (pt_cmpR (op_neD hr.units) (pm0 (ok_Graph_order (K := K) T) T.cl_Graph T.me_Graph_order hr (pv 5)) (pe_lc (own := [("_law_k", 13)]) (g := gName 13) rfl sc_law.nd (pi_list (pv 4)) (blkOk_by (own := [("_law_k", 13)]) (N := ["_law_script", "_law_count", "_law_needs", "_law_modules", "_law_found", "_law_graph", "_law_events", "_law_end", "_law_exports", "_law_lost", "_law_less", "_law_name", "e", "_law_k", "_law_event"]) (sc := defScope s_law) (by decide +kernel)) (fun _ _ _ _ _ => (pg_name (i := 13) sc_law.nd rfl (Or.inl rfl))) (fun _ _ _ _ _ => pts_nil) (fun _ _ _ _ _ => (pe_op op_addStr pe_str (pe_callTy cl_strI (by rfl) T.n_str (by decide +kernel) (pa_cons (pv 13) pa_nil))))) (nomark _)) (pw_or1 (pt_cmpR op_ne (pe_fld (pv 5) rfl) pe_str (nomark _))))) (pss_one (ps_ret pe_bl)) pss_nil)
        (pss_cons (ps_asg (pe_ex (p := GOk) fun G hG => pcR (ok_run (P := P) (w := w) (base := base) PP G hG.1 hG.2 T) T.g_run hr (pa_cons (pv 3) (pa_cons pe_str pa_nil))) (pg_tup rfl (pgs_cons (pg_name (i := 6) sc_law.nd rfl (Or.inl rfl)) (pgs_cons (pg_name (i := 7) sc_law.nd rfl (Or.inl rfl)) (pgs_cons (pg_name (i := 8) sc_law.nd rfl (Or.inl rfl)) pgs_nil)))))
        (pss_cons (ps_if (PW.pt (pw_or (pt_cmpR (op_neD hr.units) (pe_lc (own := [("_law_event", 14)]) (g := gName 14) rfl sc_law.nd (pi_list (pv 6)) (blkOk_by (own := [("_law_event", 14)]) (N := ["_law_script", "_law_count", "_law_needs", "_law_modules", "_law_found", "_law_graph", "_law_events", "_law_end", "_law_exports", "_law_lost", "_law_less", "_law_name", "e", "_law_k", "_law_event"]) (sc := defScope s_law) (by decide +kernel)) (fun _ _ _ _ _ => (pg_name (i := 14) sc_law.nd rfl (Or.inl rfl))) (fun _ _ _ _ _ => pts_nil) (fun _ _ _ _ _ => (pe_ix (ixK (K' := K) rfl) (pv 14) pe_int (fun _ _ => rfl)))) (pv 4) (nomark _)) (pw_or (pt_cmpR (op_neD hr.units) (pv 7) (pe_tup (pa_cons pe_str pa_nil)) (nomark _)) (pw_or1 (pt_cmpR (op_ne_dictA hr.units0) (pv 8) pe_dnewK (nomark _)))))) (pss_one (ps_ret pe_bl)) pss_nil)
        (pss_cons (ps_if (pt_cmpR (op_neD hr.units) (pe_lc (own := [("_law_event", 14)]) (g := gName 14) rfl sc_law.nd (pi_list (pv 6)) (blkOk_by (own := [("_law_event", 14)]) (N := ["_law_script", "_law_count", "_law_needs", "_law_modules", "_law_found", "_law_graph", "_law_events", "_law_end", "_law_exports", "_law_lost", "_law_less", "_law_name", "e", "_law_k", "_law_event"]) (sc := defScope s_law) (by decide +kernel)) (fun _ _ _ _ _ => (pg_name (i := 14) sc_law.nd rfl (Or.inl rfl))) (fun _ _ _ _ _ => pts_nil) (fun _ _ _ _ _ => (pe_ix (ixK (K' := K) rfl) (pe_ix (ixK (K' := K) rfl) (pv 14) pe_int (fun _ _ => rfl)) pe_int (fun _ _ => rfl)))) (pm0 (ok_Graph_order (K := K) T) T.cl_Graph T.me_Graph_order hr (pv 5)) (nomark _)) (pss_one (ps_ret pe_bl)) pss_nil)
        (pss_cons (ps_if (pt_not (pt_val (pc (ok_law_long (K := K) (P := P) (w := w) (base := base) PP T) T.g_law_long hr (pa_cons (pe_op op_add pe_int (pe_op op_mod (pe_callB cl_absI (by rfl) T.n_abs (by decide +kernel) (pa_cons (pc (ok_law_cell (K := K) T) T.g_law_cell hr (pa_cons (pv 0) (pa_cons pe_int pa_nil))) pa_nil)) pe_int)) pa_nil)))) (pss_one (ps_ret pe_bl)) pss_nil)
        (pss_cons (ps_set (i := 9) sc_law.nd rfl (Or.inl rfl) (pe_ix ix_list (pv 4) (pe_op op_mod (pe_callB cl_absI (by rfl) T.n_abs (by decide +kernel) (pa_cons (pc (ok_law_cell (K := K) T) T.g_law_cell hr (pa_cons (pv 0) (pa_cons pe_int pa_nil))) pa_nil)) (pe_callB cl_lenSeq (by rfl) T.n_len (by decide +kernel) (pa_cons (pv 4) pa_nil))) (fun _ _ => rfl)))
        (pss_cons (ps_set (i := 10) sc_law.nd rfl (Or.inl rfl) pe_dnewK)
        (pss_cons (ps_lock (ps_for PassesOwn.never rfl (pi_keys (pv 3)) (pg_name (i := 11) sc_law.nd rfl (Or.inl rfl)) (pss_one (ps_if (pt_cmpR op_ne (pv 11) (pe_op op_addStr pe_str (pe_callTy cl_strI (by rfl) T.n_str (by decide +kernel) (pa_cons (pv 9) pa_nil))) (nomark _)) (pss_one (ps_dput (hu_of hr) (pv 10) (pv 11) (pe_dget (hu_of hr) (pv 3) (pv 11) (fun _ _ => rfl)) rfl)) pss_nil))))
        (pss_cons (ps_try_as (i := 12) rfl rfl sc_law.nd rfl rfl ⟨rfl, by decide, .inl T.g_NoModule⟩ takes0 (fun W pn xe tk _ => pss_one (ps_expr (pe_ex (p := GOk) fun G hG => pkS (fun σ => passAt tk σ) T.mk_Graph (ok_Graph_init (P := P) (w := w) (base := base) PP G hG.1 hG.2 42 T) T.g_Graph hr (pa_cons (pv 10) (pa_cons pe_str pa_nil))))) (fun a oe cls d pn hz hf => pss_one (ps_ret (pe_cmpR op_eq (pe_xf XN.xf XN.hno hz hf (pv 12)) (pe_op op_addStr pe_str (pe_callTy cl_strI (by rfl) T.n_str (by decide +kernel) (pa_cons (pv 9) pa_nil))) (nomark _)))))
        (pss_one (ps_ret pe_bl)))))))))))))))), ?_⟩
    walk_at "se"
    refine ⟨a, xs, 0, rfl, ha, fun c => ?_⟩
    walk_at "re"
    refine rd_I (by decide) ?_
    walk_at "re"
    obtain ⟨n, en, h0, h9⟩ : ∃ n : Nat, (1 + (if c < 0 then -c else c) % 9 : Int) = (n : Int) ∧ 0 < n ∧ n ≤ 9 := by
      generalize (if c < 0 then -c else c) = b
      exact ⟨(1 + b % 9).toNat, by omega, by omega, by omega⟩
    rw [en]
    refine ⟨a, xs, n, rfl, ha, h0, h9, fun H1 r ln dm L s1 hr1 hLn hL1 hN hdm => ?_⟩
    subst hLn
    have hL : LOk L := ⟨h0, h9, hL1⟩
    obtain ⟨s, o, ew, hRun, h0s, h0o, hlt, hsub⟩ := run_gmL hL
    walk_at "re"
    refine rd_gunl hr1 rfl ?_
    walk_at "re"
    intro lf hlf
    have s2 := Same.upd (o := .lst []) hlf
    have f2 : (upd H1 lf (.lst [])) lf = some (.lst (intsN [])) := upd_same
    generalize upd H1 lf (.lst []) = H2 at s2 f2 ⊢
    walk_at "re"
    refine rd_ex L hL ?_
    walk_at "re"
    intro ls hls
    have s3 := s2.trans (Same.upd (o := .lst []) hls)
    have l3 : (upd H2 ls (.lst [])) ls = some (.lst (intsN [])) := upd_same
    have f3 := Same.upd (o := .lst []) hls _ _ f2
    have hlsf : ls ≠ lf := fun z => by rw [z, f2] at hls; cases hls
    generalize upd H2 ls (.lst []) = H3 at s3 l3 f3 ⊢
    walk_at "re"
    refine ⟨H1, ln, ls, lf, 0, [], [], s, o, rfl, hN, s3, same_none s2 hls, hlf, hlsf, l3, f3, h0, Nat.zero_le _, Nat.le_refl _, ew, fun H4 s4 l4 f4 => ?_⟩
    have d4 := s4 _ _ hdm
    have x4 := sql_same (sql_same ha s1) s4
    clear hN hdm hr1 s3 l3 f3 s2 f2 hls hlf
    have ho64 : ∀ k ∈ o, k < 64 := fun k hk => Nat.lt_of_lt_of_le (hlt k (hsub k hk)) (by omega)
    have hol : o.length ≤ 40 := by
      have h1 := rch_len _ _ _ _ _ _ ew
      have h2 := rch_40 _ _ _ _ _ _ (Nat.zero_le _) ew
      have h1 : o.length + 0 = s.length + 0 := h1
      omega
    walk_at "re"
    refine rd_ex (gmL L) ⟨gmL_ok hL, h0⟩ ?_
    walk_at "re"
    intro g dx hg hdx hne
    have s5 : Same H4 (upd (upd H4 dx (.own g)) g (.ins (cGraph K) dx [])) := fun b u e => by
      rw [upd_ne (ne_of_none e hg), upd_ne (ne_of_none e hdx)]
      exact e
    refine ⟨g, dx, dm, by rw [nm_zero], upd_same, s5 _ _ d4, ?_⟩
    rw [ew]
    intro H5 dT dI lO k5 A5
    refine ⟨rfl, ?_⟩
    have s45 : Same H4 H5 := fun b u e => k5 b u (s5 b u e) (ne_of_none e hg)
    have d5 := s45 _ _ d4
    have x5 := sql_same x4 s45
    have f5 := s45 _ _ f4
    have g5 := A5.ob
    clear s5 k5 hg hdx hne
    walk_at "re"
    refine ⟨g, dx, dT, dI, lO, gmL L, nm 0, s, o, rfl, A5, fun p hp => ?_⟩
    have s6 := Same.upd (o := .lst (o.map fun k => .str (nm k))) hp
    have p6 : (upd H5 p (.lst (o.map fun k => .str (nm k)))) p = some (.lst (o.map fun k => .str (nm k))) := upd_same
    generalize upd H5 p (.lst (o.map fun k => .str (nm k))) = H6 at s6 p6 ⊢
    have d6 := s6 _ _ d5
    have x6 := sql_same x5 s6
    have f6 := s6 _ _ f5
    have g6 := s6 _ _ g5
    have A6 := A5.same s6
    clear hp d5 f5 g5 A5 s6 s45
    walk_at "re"
    refine rd_lcL f6 (fun i => (o.map fun k => V.str (nm k)).take i) rfl (fun i => by rw [List.length_take, List.length_map]; omega) (fun i x H7 Pn P0 hi s7 hP h0' => ?_) (fun D H7 hD s7 hF => ?_)
    · obtain ⟨k, hk, rfl⟩ := getE_ints hi
      have k64 := ho64 k (List.mem_of_getElem? hk)
      have lnk : (ns k).length ≤ 3 := ns_len ⟨k, k64⟩
      simp only [wipe, List.map, List.set_cons_succ, List.set_cons_zero]
      walk_at "re"
      refine ⟨rfl, ?_⟩
      walk_at "re"
      refine ⟨(k : Int), rfl, ?_, ?_⟩
      · show k.log2 < 1920
        have : k.log2 ≤ k := Nat.log2_le_self k
        omega
      refine rd_addStr (small (by show _ + (ns k).length ≤ 100000; have h2 : ("n" : Str).length = 1 := rfl; omega)) ?_
      exact hP _ _ (fun _ _ e => e) (take_succ (by rw [List.getElem?_map, hk]; rfl))
    rw [List.take_of_length_le (by rw [List.length_map, intsN_len]; exact Nat.le_refl _)] at hF
    have d7 := s7 _ _ d6
    have x7 := sql_same x6 s7
    have f7 := s7 _ _ f6
    have g7 := s7 _ _ g6
    have A7 := A6.same s7
    have p7 := s7 _ _ p6
    refine rd_neStrs ho64 (SqL.of p7) (SqL.of hF) ?_
    clear d6 f6 g6 A6 p6 hD s7 p7 hF
    walk_at "re"
    refine rd_ex (gmL L) ⟨gmL_ok hL, h0⟩ ?_
    refine rd_callD ?_
    walk_at "re"
    refine ⟨dm, s, o, by show [V.ref dm, V.str "n0", V.ref (emptyAt K)] = _; rw [nm_zero]; rfl, d7, hRun, h0s, fun k hk => by rw [its_tell1]; exact Nat.le_refl _, fun H8 le ts pe px t s8 le8 ev8 pe8 px8 t8 => ?_⟩
    have d8 := s8 _ _ d7
    have x8 := sql_same x7 s8
    have f8 := s8 _ _ f7
    have g8 := s8 _ _ g7
    have A8 := A7.same s8
    have htl := ev_len ev8
    clear d7 f7 g7 A7 s8
    walk_at "re"
    clear t8
    refine rd_lcL le8 (fun i => (intsN o).take i) rfl (fun i => by rw [List.length_take, intsN_len]; omega) (fun i x H9 Pn P0 hi s9 hP h0' => ?_) (fun D H9 hD s9 hF => ?_)
    · obtain ⟨k, a1, b1, j1, hk, rfl, ha1, hb1⟩ := ev_get ev8 hi
      have ha9 := s9 _ _ ha1
      simp only [wipe, List.map, List.set_cons_succ, List.set_cons_zero]
      walk_at "re"
      refine ⟨rfl, ?_⟩
      walk_at "re"
      exact hP _ _ (fun _ _ e => e) (take_succ (by unfold intsN; rw [List.getElem?_map, hk]; rfl))
    rw [List.take_of_length_le (by rw [List.length_map, intsN_len, htl]; exact Nat.le_refl _)] at hF
    have d9 := s9 _ _ d8
    have x9 := sql_same x8 s9
    have f9 := s9 _ _ f8
    have g9 := s9 _ _ g8
    have A9 := A8.same s9
    have le9 := s9 _ _ le8
    have ev9 := ev8.kt (KT.of s9)
    have pe9 := s9 _ _ pe8
    have px9 := s9 _ _ px8
    walk_at "re"
    refine rd_neInts (SqL.of hF) (SqL.of f9) ?_
    clear d8 f8 g8 A8 le8 ev8 pe8 px8 hD s9 hF
    walk_at "re"
    intro pd hpd
    have s10 := Same.upd (o := .tup [.str "done"]) hpd
    have pd10 : (upd H9 pd (.tup [.str "done"])) pd = some (.tup [.str "done"]) := upd_same
    generalize upd H9 pd (.tup [.str "done"]) = H10 at s10 pd10 ⊢
    refine rd_neDone (s10 _ _ pe9) pd10 ?_
    have px10 := s10 _ _ px9
    have s910 := s10
    clear hpd pe9 px9
    walk_at "re"
    intro pn hpn
    have s11 := s910.trans (Same.upd (o := .dK []) hpn)
    have pn11 : (upd H10 pn (.dK [])) pn = some (.dK []) := upd_same
    have px11 := Same.upd (o := .dK []) hpn _ _ px10
    generalize upd H10 pn (.dK []) = H11 at s11 pn11 px11 ⊢
    refine ⟨px, pn, [], [], rfl, rfl, px11, pn11, rfl, fun p hp => absurd hp List.not_mem_nil, ?_⟩
    have d11 := s11 _ _ d9
    have x11 := sql_same x9 s11
    have f11 := s11 _ _ f9
    have g11 := s11 _ _ g9
    have A11 := A9.same s11
    have le11 := s11 _ _ le9
    have ev11 := ev9.kt (KT.of s11)
    clear d9 f9 g9 A9 le9 ev9 s11 pn11 px11 hpn px10 s910 s10 pd10
    walk_at "re"
    refine rd_lcL le11 (fun i => (o.map fun k => V.str (nm k)).take i) rfl (fun i => by rw [List.length_take, List.length_map]; omega) (fun i x H12 Pn P0 hi s12 hP h0' => ?_) (fun D H12 hD s12 hF => ?_)
    · obtain ⟨k, a1, b1, j1, hk, rfl, ha1, hb1⟩ := ev_get ev11 hi
      have ha12 := s12 _ _ ha1
      have hb12 := s12 _ _ hb1
      simp only [wipe, List.map, List.set_cons_succ, List.set_cons_zero]
      walk_at "re"
      refine ⟨rfl, ?_⟩
      walk_at "re"
      exact hP _ _ (fun _ _ e => e) (take_succ (by rw [List.getElem?_map, hk]; rfl))
    rw [List.take_of_length_le (by rw [List.length_map, List.length_map, htl]; exact Nat.le_refl _)] at hF
    have d12 := s12 _ _ d11
    have x12 := sql_same x11 s12
    have f12 := s12 _ _ f11
    have g12 := s12 _ _ g11
    have A12 := A11.same s12
    clear d11 f11 g11 A11 le11 ev11 s12 hD htl
    walk_at "re"
    refine ⟨g, dx, dT, dI, lO, gmL L, nm 0, s, o, rfl, A12, fun p hp => ?_⟩
    have s13 := Same.upd (o := .lst (o.map fun k => .str (nm k))) hp
    have p13 : (upd H12 p (.lst (o.map fun k => .str (nm k)))) p = some (.lst (o.map fun k => .str (nm k))) := upd_same
    generalize upd H12 p (.lst (o.map fun k => .str (nm k))) = H13 at s13 p13 ⊢
    have d13 := s13 _ _ d12
    have x13 := sql_same x12 s13
    have f13 := s13 _ _ f12
    refine rd_neStrs ho64 (SqL.of (s13 _ _ hF)) (SqL.of p13) ?_
    clear d12 f12 g12 A12 hF hp s13 p13 x4 x5 x6 x7 x8 x9 x11 x12 ha s1 s4
    walk_at "re"
    refine ⟨a, xs, 0, rfl, x13, fun c2 => ?_⟩
    walk_at "re"
    refine rd_I (by decide) ?_
    walk_at "re"
    obtain ⟨m, em, hm⟩ : ∃ m : Nat, (37 + (if c2 < 0 then -c2 else c2) % 6 : Int) = (m : Int) ∧ m ≤ 42 := by
      generalize (if c2 < 0 then -c2 else c2) = b
      exact ⟨(37 + b % 6).toNat, by omega, by omega⟩
    rw [em]
    refine ⟨m, rfl, hm, fun H14 s14 => ?_⟩
    have d14 := s14 _ _ d13
    have f14 := s14 _ _ f13
    have x14 := sql_same x13 s14
    clear d13 f13 x13 s14
    walk_at "re"
    refine ⟨a, xs, 1, rfl, x14, fun c3 => ?_⟩
    walk_at "re"
    have hop : 0 < o.length := List.length_pos_of_mem h0o
    refine rd_I (by rw [intsN_len]; omega) ?_
    obtain ⟨j, ej, hj⟩ : ∃ j : Nat, ((if c3 < 0 then -c3 else c3) % ((intsN o).length : Int)) = (j : Int) ∧ j < o.length := by
      generalize (if c3 < 0 then -c3 else c3) = b
      rw [intsN_len]
      have h1 := Int.emod_nonneg b (show (o.length : Int) ≠ 0 by omega)
      have h2 := Int.emod_lt_of_pos b (show (0 : Int) < o.length by omega)
      exact ⟨(b % (o.length : Int)).toNat, by omega, by omega⟩
    rw [ej]
    obtain ⟨l, hl⟩ : ∃ l, o[j]? = some l := ⟨_, List.getElem?_eq_getElem hj⟩
    have hlo := List.mem_of_getElem? hl
    have hls := hsub l hlo
    have hl64 := ho64 l hlo
    have lnl : (ns l).length ≤ 3 := ns_len ⟨l, hl64⟩
    refine rd_ixLi (v := .int (l : Int)) j f14 rfl (by unfold intsN; rw [List.getElem?_map, hl]; rfl) ?_
    clear f14 x14
    walk_at "re"
    intro lz hlz
    have s15 := Same.upd (o := .dK []) hlz
    have z15 : (upd H14 lz (.dK [])) lz = some (.dK (kvF L l 0)) := upd_same
    have d15 := s15 _ _ d14
    generalize upd H14 lz (.dK []) = H15 at s15 z15 d15 ⊢
    have hzd : lz ≠ dm := fun z => by rw [z, d14] at hlz; cases hlz
    clear d14 s15 hlz
    walk_at "re"
    refine ⟨dm, .dK (kvL L.length L), d15, trivial, fun od => ?_⟩
    have z16 : (upd H15 dm (.frz od (.dK (kvL L.length L)))) lz = some (.dK (kvF L l 0)) := by rw [upd_ne hzd]; exact z15
    have d16 : (upd H15 dm (.frz od (.dK (kvL L.length L)))) dm = some (.frz od (.dK (kvL L.length L))) := upd_same
    generalize upd H15 dm (.frz od (.dK (kvL L.length L))) = H16 at z16 d16 ⊢
    clear z15 d15
    walk_at "re"
    refine rd_iKeys ?_
    walk_at "re"
    have hkl : (kvL L.length L).length = L.length := by
      unfold kvL
      rw [List.length_map, List.length_range]
    refine ⟨dm, od, rfl, .inl ⟨_, d16, for_it walk_keys (fun i σ H' => ∃ v : Option V, σ = [some (.ref a), some (.int (L.length : Int)), some (.ref ln), some (.ref dm), some (.ref lf), some (.ref g), some (.ref le), some (.ref pe), some (.ref px), some (.int (l : Int)), some (.ref lz), v, none, none, none] ∧
      H' dm = some (.frz od (.dK (kvL L.length L))) ∧ H' lz = some (.dK (kvF L l i))) ⟨none, rfl, d16, z16⟩ (fun i σ H' _ ⟨_, _, z, _⟩ => z) ?_ ?_⟩⟩
    · rintro i x σ H17 H17' hi ⟨v, rfl, d17, z17⟩ ⟨rfl, k, v', hkv, rfl⟩
      obtain ⟨hlt', rfl, rfl⟩ := kvL_get hkv
      have hval := valV_kv (f := fun k => V.str (S (textL k (L.getD k [])))) (n := L.length) (by omega) hlt'
      have hi64 : i < 64 := by omega
      show gName 11 (.str (nm i)) _ _ _
      walk_at "re"
      refine ⟨(l : Int), rfl, ?_, ?_⟩
      · show l.log2 < 1920
        have : l.log2 ≤ l := Nat.log2_le_self l
        omega
      refine rd_addStr (small (by show _ + (ns l).length ≤ 100000; have h2 : ("n" : Str).length = 1 := rfl; omega)) ?_
      show rNe (.str (nm i)) (.str (nm l)) _ _
      walk_at "re"
      by_cases c : i = l
      · subst c
        refine rd_isF (by rw [decide_eq_true rfl]; rfl) ?_
        walk_at "re"
        exact ⟨_, rfl, d17, by rw [kvF_same]; exact z17⟩
      · refine rd_isT (by rw [decide_eq_false fun z => c (nm_inj hi64 hl64 (V.str.inj z))]; rfl) ?_
        walk_at "re"
        refine ⟨dm, _, rfl, .inl ⟨_, .inr (nm i), .inr ⟨od, d17⟩, rfl, hval.symm⟩, ?_⟩
        walk_at "re"
        refine rd_dput (z := nm i) z17 (by have := kvF_len L l i; omega) ?_
        rw [putK_new _ (kvF_new L l hi64), kvF_snoc L c]
        exact ⟨_, rfl, by rw [upd_ne (Ne.symm hzd)]; exact d17, upd_same⟩
    · rintro σ H17 ⟨v, rfl, d17, z17⟩
      rw [hkl] at z17
      refine ⟨d17, ?_⟩
      have z18 : (upd H17 dm (.dK (kvL L.length L))) lz = some (.dK (gmLess L l).kvs) := by rw [upd_ne hzd]; exact z17
      generalize upd H17 dm (.dK (kvL L.length L)) = H18 at z18 ⊢
      clear d17 z17
      walk_at "re"
      refine rd_ex (gmLess L l) ⟨gmLess_ok hL l, h0⟩ ?_
      refine rd_makeS ?_
      walk_at "re"
      intro g2 dx2 hg2 hdx2 hne2
      have s19 : Same H18 (upd (upd H18 dx2 (.own g2)) g2 (.ins (cGraph K) dx2 [])) := fun b u e => by
        rw [upd_ne (ne_of_none e hg2), upd_ne (ne_of_none e hdx2)]
        exact e
      refine ⟨g2, dx2, lz, by rw [nm_zero], upd_same, s19 _ _ z18, ?_⟩
      rw [rch_less ew hls]
      intro H19 x k19 hx
      refine ⟨true, XN.exm, fun _ a2 ha2 => ?_, fun z => by cases z⟩
      simp only [List.set_cons_succ, List.set_cons_zero]
      walk_at "re"
      refine rd_xf ?_
      walk_at "re"
      refine ⟨rfl, rfl, x, _, _, rfl, hx, rfl, ?_⟩
      walk_at "re"
      refine ⟨(l : Int), rfl, ?_, ?_⟩
      · show l.log2 < 1920
        have : l.log2 ≤ l := Nat.log2_le_self l
        omega
      refine rd_addStr (small (by show _ + (ns l).length ≤ 100000; have h2 : ("n" : Str).length = 1 := rfl; omega)) ?_
      show rEq (.str (nm l)) (.str (nm l)) _ _
      walk_at "re"
      rw [decide_eq_true rfl]
      exact q H19
end
end K5
set_option maxHeartbeats 0
namespace K5
open PySem PySem.Spec PyProof.Rows L2
theorem pf : PF R.prog := ⟨by decide +kernel, by decide +kernel⟩
theorem facts {w : World} {K : PySem.W.Frag} {h : Heap} {mg : Str → Option Value} {f : Addr} (X : K.In h) (G : h.Ns mainGlobals mg) (hfa : mg ("law" : Str) = some (.ref f)) (c : Says K) :
    ∃ fd : FuncData, (∀ (s : Shared) (v : Value), BindsTo s fd ⟨[v], []⟩ [("_law_script", v)]) ∧ ∀ base : Heap, K.In base → base.Ns mainGlobals mg → FnOk R.prog w K mg base CX0 61 f fd ["_law_script"] (spLaw K) := by
  have T : Tx K mg := ⟨c, h, X, G⟩
  obtain ⟨fd, F⟩ := T.F_law
  have e := hfa.symm.trans T.g_law
  cases e
  have F1 : FunD K d_law.name d_law.qual d_law.params d_law.body d_law.scope [] [] (He.ga K "law") fd := F
  have b := FunD.bindsA (ps := ["_law_script"]) F1 fun _ _ _ _ _ _ us hl => match us, hl with | [_], _ => rfl
  exact ⟨fd, fun s v => b s [v] rfl, fun base _ _ => ok_law pf T F⟩
end K5
open PySem PySem.W PySem.Calls PyProof.Rows
theorem PySem.Challenge.cw_fascicle_k05_order_and_needs_holds : PySem.Challenge.rw_fascicle_k05_order_and_needs.Holds := by
  refine K5.law_of ?_
  refine L2.walk_ofE (l := PySem.Challenge.rw_fascicle_k05_order_and_needs) (n := 63) (k := 61) (x := "_law_script") (CX := L2.CX0) rfl (by decide) K5.law_nodef ⟨rfl, by decide, by decide⟩ ?F (fun _ _ _ _ z => z)
  intro w mg fa h Y G hmg0
  obtain ⟨K, KX, c⟩ := Y
  rw [K5.law_name] at hmg0
  obtain ⟨fd, hb, hF⟩ := K5.facts (w := w) KX G hmg0 c
  exact ⟨K, fd, K5.spLaw K, KX, hb, fun H a ns hl _ hS => ⟨a, ns, rfl, hS, fun _ => rfl⟩, hF⟩
