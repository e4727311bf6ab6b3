import PyProof.Rows.All
import Wide.All
import OpenK.AllK
import Wide.FinOn
import KE.KStateDown
import Lean
import HandS.ForMost
import HandS.ForExc
import HandS.IsInst
import HandS.ExcIs
import HandS.Deep
import HandS.TupAny
import HandS.More
import HandS.Conv
import HandS.Set
import HandS.SetFor
import HandS.SetKeys
import HandS.SortKw
import HandS.Small
import HandS.Flow
import HandS.Zip
import HandS.Rev
import HandS.Codes
import HandS.CallLocal
import HandS.Walk
import HandS.Defaults
import HandS.Strs
import HandS.Head0
import HandS.Head1
import HandS.Head2
import HandS.HeadEnd
import HandS.HeadHook1
import HandS.HeadHook2
import HandS.HeadHook3
import HandS.HeadHook4
import KE.KMinKey
import KE.KDictPairs
import KE.KDictSum
import KE.KIsAll
import KE.GoesEnum
import KE.GoesNew
import KE.GoesRev
import HandS.TupLe
import PySem.Challenge.RW_kindalone_k70_wholes_at_their_bounds
set_option Elab.async false
set_option linter.all false
set_option maxRecDepth 100000
set_option maxHeartbeats 4000000
/-! The law by hand over the hand layer: a promise a def, a mirror in plain Lean, the head by its run in the kernel. -/
namespace K70
open PySem PySem.Spec PyProof.Rows L2
def top (i : Nat) : Stmt := PySem.Challenge.pw_kindalone_k70_wholes_at_their_bounds.main.body.getD i (.Pass ⟨0, 0, 0, 0⟩)
abbrev s_is_name : Stmt := top 16
abbrev s_is_worded : Stmt := top 17
abbrev s_is_data : Stmt := top 18
abbrev s_opens_in : Stmt := top 19
abbrev s_term_spots : Stmt := top 22
abbrev s_inner_terms : Stmt := top 23
abbrev s_with_inner : Stmt := top 24
abbrev s_parts_of_term : Stmt := top 25
abbrev s_depth_of_term : Stmt := top 26
abbrev s_put_in : Stmt := top 29
abbrev s_filled_kind : Stmt := top 30
abbrev s_opens_of : Stmt := top 31
abbrev s_opens_brought : Stmt := top 34
abbrev s_put_in_term : Stmt := top 35
abbrev s_filled_beside : Stmt := top 37
abbrev s_filled_term : Stmt := top 38
abbrev s_Scope_init : Stmt := inClass (top 42) 0
abbrev s_Scope_bound : Stmt := inClass (top 42) 1
abbrev s_ask : Stmt := top 43
abbrev s_data_in : Stmt := top 44
abbrev s_word_in : Stmt := top 45
abbrev s_name_kind : Stmt := top 46
abbrev s_fun_kind : Stmt := top 47
abbrev s_call_kind : Stmt := top 48
abbrev s_bare_kind : Stmt := top 49
abbrev s_plus_kind : Stmt := top 50
abbrev s_pair_kind : Stmt := top 53
abbrev s_left_kind : Stmt := top 55
abbrev s_told_kind : Stmt := top 66
abbrev s_kind_in : Stmt := top 67
abbrev s_kind_of : Stmt := top 68
abbrev s_uses_of : Stmt := top 73
abbrev s_whole_parts : Stmt := top 74
abbrev s_whole_depth : Stmt := top 75
abbrev s_scope_within : Stmt := top 76
abbrev s_put_together : Stmt := top 78
abbrev s_whole_of : Stmt := top 79
abbrev s_Function_init : Stmt := inClass (top 81) 0
abbrev s_told_by : Stmt := top 82
abbrev s_give_kind : Stmt := top 83
abbrev s_give_whole : Stmt := top 84
abbrev s_reach_of : Stmt := top 85
abbrev s_by_uses : Stmt := top 86
abbrev s_kinds_anew : Stmt := top 87
abbrev s_Stand_init : Stmt := inClass (top 88) 0
abbrev s_Stand_function : Stmt := inClass (top 88) 1
abbrev s_Stand_tell : Stmt := inClass (top 88) 2
abbrev s_Stand_retell : Stmt := inClass (top 88) 3
abbrev s_Stand_names : Stmt := inClass (top 88) 7
abbrev s_Stand_whole : Stmt := inClass (top 88) 10
abbrev s_Stand_made : Stmt := inClass (top 88) 12
abbrev s_l_deck : Stmt := top 90
abbrev s_l_draw : Stmt := top 91
abbrev s_l_sum : Stmt := top 94
abbrev s_l_lefts : Stmt := top 95
abbrev s_l_fun : Stmt := top 96
abbrev s_l_measured : Stmt := top 97
abbrev s_l_refused : Stmt := top 98
abbrev s_l_due_parts : Stmt := top 99
abbrev s_l_due_deep : Stmt := top 100
abbrev s_l_put_in : Stmt := top 101
abbrev s_l_right : Stmt := top 102
abbrev s_law : Stmt := top 103
def d_is_name : He.DefD := ⟨("is_name", none), "is_name", "is_name", defArgs s_is_name, defBody s_is_name, defScope s_is_name, [], []⟩
def d_is_worded : He.DefD := ⟨("is_worded", none), "is_worded", "is_worded", defArgs s_is_worded, defBody s_is_worded, defScope s_is_worded, [], []⟩
def d_is_data : He.DefD := ⟨("is_data", none), "is_data", "is_data", defArgs s_is_data, defBody s_is_data, defScope s_is_data, [], []⟩
def d_opens_in : He.DefD := ⟨("opens_in", none), "opens_in", "opens_in", defArgs s_opens_in, defBody s_opens_in, defScope s_opens_in, [], []⟩
def d_term_spots : He.DefD := ⟨("term_spots", none), "term_spots", "term_spots", defArgs s_term_spots, defBody s_term_spots, defScope s_term_spots, [], []⟩
def d_inner_terms : He.DefD := ⟨("inner_terms", none), "inner_terms", "inner_terms", defArgs s_inner_terms, defBody s_inner_terms, defScope s_inner_terms, [], []⟩
def d_with_inner : He.DefD := ⟨("with_inner", none), "with_inner", "with_inner", defArgs s_with_inner, defBody s_with_inner, defScope s_with_inner, [], []⟩
def d_parts_of_term : He.DefD := ⟨("parts_of_term", none), "parts_of_term", "parts_of_term", defArgs s_parts_of_term, defBody s_parts_of_term, defScope s_parts_of_term, [], []⟩
def d_depth_of_term : He.DefD := ⟨("depth_of_term", none), "depth_of_term", "depth_of_term", defArgs s_depth_of_term, defBody s_depth_of_term, defScope s_depth_of_term, [], []⟩
def d_put_in : He.DefD := ⟨("put_in", none), "put_in", "put_in", defArgs s_put_in, defBody s_put_in, defScope s_put_in, [], []⟩
def d_filled_kind : He.DefD := ⟨("filled_kind", none), "filled_kind", "filled_kind", defArgs s_filled_kind, defBody s_filled_kind, defScope s_filled_kind, [], []⟩
def d_opens_of : He.DefD := ⟨("opens_of", none), "opens_of", "opens_of", defArgs s_opens_of, defBody s_opens_of, defScope s_opens_of, [], []⟩
def d_opens_brought : He.DefD := ⟨("opens_brought", none), "opens_brought", "opens_brought", defArgs s_opens_brought, defBody s_opens_brought, defScope s_opens_brought, [], []⟩
def d_put_in_term : He.DefD := ⟨("put_in_term", none), "put_in_term", "put_in_term", defArgs s_put_in_term, defBody s_put_in_term, defScope s_put_in_term, [], []⟩
def d_filled_beside : He.DefD := ⟨("filled_beside", none), "filled_beside", "filled_beside", defArgs s_filled_beside, defBody s_filled_beside, defScope s_filled_beside, [], []⟩
def d_filled_term : He.DefD := ⟨("filled_term", none), "filled_term", "filled_term", defArgs s_filled_term, defBody s_filled_term, defScope s_filled_term, [], []⟩
def d_Scope_init : He.DefD := ⟨("Scope", some "__init__"), "__init__", "Scope.__init__", defArgs s_Scope_init, defBody s_Scope_init, defScope s_Scope_init, [], []⟩
def d_Scope_bound : He.DefD := ⟨("Scope", some "bound"), "bound", "Scope.bound", defArgs s_Scope_bound, defBody s_Scope_bound, defScope s_Scope_bound, [], []⟩
def d_ask : He.DefD := ⟨("ask", none), "ask", "ask", defArgs s_ask, defBody s_ask, defScope s_ask, [], []⟩
def d_data_in : He.DefD := ⟨("data_in", none), "data_in", "data_in", defArgs s_data_in, defBody s_data_in, defScope s_data_in, [], []⟩
def d_word_in : He.DefD := ⟨("word_in", none), "word_in", "word_in", defArgs s_word_in, defBody s_word_in, defScope s_word_in, [], []⟩
def d_name_kind : He.DefD := ⟨("name_kind", none), "name_kind", "name_kind", defArgs s_name_kind, defBody s_name_kind, defScope s_name_kind, [], []⟩
def d_fun_kind : He.DefD := ⟨("fun_kind", none), "fun_kind", "fun_kind", defArgs s_fun_kind, defBody s_fun_kind, defScope s_fun_kind, [], []⟩
def d_call_kind : He.DefD := ⟨("call_kind", none), "call_kind", "call_kind", defArgs s_call_kind, defBody s_call_kind, defScope s_call_kind, [], []⟩
def d_bare_kind : He.DefD := ⟨("bare_kind", none), "bare_kind", "bare_kind", defArgs s_bare_kind, defBody s_bare_kind, defScope s_bare_kind, [], []⟩
def d_plus_kind : He.DefD := ⟨("plus_kind", none), "plus_kind", "plus_kind", defArgs s_plus_kind, defBody s_plus_kind, defScope s_plus_kind, [], []⟩
def d_pair_kind : He.DefD := ⟨("pair_kind", none), "pair_kind", "pair_kind", defArgs s_pair_kind, defBody s_pair_kind, defScope s_pair_kind, [], []⟩
def d_left_kind : He.DefD := ⟨("left_kind", none), "left_kind", "left_kind", defArgs s_left_kind, defBody s_left_kind, defScope s_left_kind, [], []⟩
def d_told_kind : He.DefD := ⟨("told_kind", none), "told_kind", "told_kind", defArgs s_told_kind, defBody s_told_kind, defScope s_told_kind, [], []⟩
def d_kind_in : He.DefD := ⟨("kind_in", none), "kind_in", "kind_in", defArgs s_kind_in, defBody s_kind_in, defScope s_kind_in, [], []⟩
def d_kind_of : He.DefD := ⟨("kind_of", none), "kind_of", "kind_of", defArgs s_kind_of, defBody s_kind_of, defScope s_kind_of, [.non], []⟩
def d_uses_of : He.DefD := ⟨("uses_of", none), "uses_of", "uses_of", defArgs s_uses_of, defBody s_uses_of, defScope s_uses_of, [], []⟩
def d_whole_parts : He.DefD := ⟨("whole_parts", none), "whole_parts", "whole_parts", defArgs s_whole_parts, defBody s_whole_parts, defScope s_whole_parts, [], []⟩
def d_whole_depth : He.DefD := ⟨("whole_depth", none), "whole_depth", "whole_depth", defArgs s_whole_depth, defBody s_whole_depth, defScope s_whole_depth, [], []⟩
def d_scope_within : He.DefD := ⟨("scope_within", none), "scope_within", "scope_within", defArgs s_scope_within, defBody s_scope_within, defScope s_scope_within, [], []⟩
def d_put_together : He.DefD := ⟨("put_together", none), "put_together", "put_together", defArgs s_put_together, defBody s_put_together, defScope s_put_together, [], []⟩
def d_whole_of : He.DefD := ⟨("whole_of", none), "whole_of", "whole_of", defArgs s_whole_of, defBody s_whole_of, defScope s_whole_of, [], []⟩
def d_Function_init : He.DefD := ⟨("Function", some "__init__"), "__init__", "Function.__init__", defArgs s_Function_init, defBody s_Function_init, defScope s_Function_init, [], []⟩
def d_told_by : He.DefD := ⟨("told_by", none), "told_by", "told_by", defArgs s_told_by, defBody s_told_by, defScope s_told_by, [], []⟩
def d_give_kind : He.DefD := ⟨("give_kind", none), "give_kind", "give_kind", defArgs s_give_kind, defBody s_give_kind, defScope s_give_kind, [], []⟩
def d_give_whole : He.DefD := ⟨("give_whole", none), "give_whole", "give_whole", defArgs s_give_whole, defBody s_give_whole, defScope s_give_whole, [], []⟩
def d_reach_of : He.DefD := ⟨("reach_of", none), "reach_of", "reach_of", defArgs s_reach_of, defBody s_reach_of, defScope s_reach_of, [], []⟩
def d_by_uses : He.DefD := ⟨("by_uses", none), "by_uses", "by_uses", defArgs s_by_uses, defBody s_by_uses, defScope s_by_uses, [], []⟩
def d_kinds_anew : He.DefD := ⟨("kinds_anew", none), "kinds_anew", "kinds_anew", defArgs s_kinds_anew, defBody s_kinds_anew, defScope s_kinds_anew, [], []⟩
def d_Stand_init : He.DefD := ⟨("Stand", some "__init__"), "__init__", "Stand.__init__", defArgs s_Stand_init, defBody s_Stand_init, defScope s_Stand_init, [], []⟩
def d_Stand_function : He.DefD := ⟨("Stand", some "function"), "function", "Stand.function", defArgs s_Stand_function, defBody s_Stand_function, defScope s_Stand_function, [], []⟩
def d_Stand_tell : He.DefD := ⟨("Stand", some "tell"), "tell", "Stand.tell", defArgs s_Stand_tell, defBody s_Stand_tell, defScope s_Stand_tell, [], []⟩
def d_Stand_retell : He.DefD := ⟨("Stand", some "retell"), "retell", "Stand.retell", defArgs s_Stand_retell, defBody s_Stand_retell, defScope s_Stand_retell, [], []⟩
def d_Stand_names : He.DefD := ⟨("Stand", some "names"), "names", "Stand.names", defArgs s_Stand_names, defBody s_Stand_names, defScope s_Stand_names, [], []⟩
def d_Stand_whole : He.DefD := ⟨("Stand", some "whole"), "whole", "Stand.whole", defArgs s_Stand_whole, defBody s_Stand_whole, defScope s_Stand_whole, [], []⟩
def d_Stand_made : He.DefD := ⟨("Stand", some "made"), "made", "Stand.made", defArgs s_Stand_made, defBody s_Stand_made, defScope s_Stand_made, [], []⟩
def d_l_deck : He.DefD := ⟨("_law_deck", none), "_law_deck", "_law_deck", defArgs s_l_deck, defBody s_l_deck, defScope s_l_deck, [], []⟩
def d_l_draw : He.DefD := ⟨("_law_draw", none), "_law_draw", "_law_draw", defArgs s_l_draw, defBody s_l_draw, defScope s_l_draw, [], []⟩
def d_l_sum : He.DefD := ⟨("_law_sum", none), "_law_sum", "_law_sum", defArgs s_l_sum, defBody s_l_sum, defScope s_l_sum, [], []⟩
def d_l_lefts : He.DefD := ⟨("_law_lefts", none), "_law_lefts", "_law_lefts", defArgs s_l_lefts, defBody s_l_lefts, defScope s_l_lefts, [], []⟩
def d_l_fun : He.DefD := ⟨("_law_fun", none), "_law_fun", "_law_fun", defArgs s_l_fun, defBody s_l_fun, defScope s_l_fun, [], []⟩
def d_l_measured : He.DefD := ⟨("_law_measured", none), "_law_measured", "_law_measured", defArgs s_l_measured, defBody s_l_measured, defScope s_l_measured, [], []⟩
def d_l_refused : He.DefD := ⟨("_law_refused", none), "_law_refused", "_law_refused", defArgs s_l_refused, defBody s_l_refused, defScope s_l_refused, [], []⟩
def d_l_due_parts : He.DefD := ⟨("_law_due_parts", none), "_law_due_parts", "_law_due_parts", defArgs s_l_due_parts, defBody s_l_due_parts, defScope s_l_due_parts, [], []⟩
def d_l_due_deep : He.DefD := ⟨("_law_due_deep", none), "_law_due_deep", "_law_due_deep", defArgs s_l_due_deep, defBody s_l_due_deep, defScope s_l_due_deep, [], []⟩
def d_l_put_in : He.DefD := ⟨("_law_put_in", none), "_law_put_in", "_law_put_in", defArgs s_l_put_in, defBody s_l_put_in, defScope s_l_put_in, [], []⟩
def d_l_right : He.DefD := ⟨("_law_right", none), "_law_right", "_law_right", defArgs s_l_right, defBody s_l_right, defScope s_l_right, [], []⟩
def d_law : He.DefD := ⟨("law", none), "law", "law", defArgs s_law, defBody s_law, defScope s_law, [], []⟩
def fnL0 : List He.DefD := [d_is_name, d_is_worded, d_is_data, d_opens_in, d_term_spots, d_inner_terms, d_with_inner, d_parts_of_term, d_depth_of_term, d_put_in, d_filled_kind, d_opens_of, d_opens_brought, d_put_in_term, d_filled_beside, d_filled_term, d_Scope_init, d_Scope_bound, d_ask, d_data_in]
def fnL1 : List He.DefD := [d_word_in, d_name_kind, d_fun_kind, d_call_kind, d_bare_kind, d_plus_kind, d_pair_kind, d_left_kind, d_told_kind, d_kind_in, d_kind_of, d_uses_of, d_whole_parts, d_whole_depth, d_scope_within, d_put_together, d_whole_of, d_Function_init, d_told_by, d_give_kind]
def fnL2 : List He.DefD := [d_give_whole, d_reach_of, d_by_uses, d_kinds_anew, d_Stand_init, d_Stand_function, d_Stand_tell, d_Stand_retell, d_Stand_names, d_Stand_whole, d_Stand_made, d_l_deck, d_l_draw, d_l_sum, d_l_lefts, d_l_fun, d_l_measured, d_l_refused, d_l_due_parts, d_l_due_deep]
def fnL3 : List He.DefD := [d_l_put_in, d_l_right, d_law]
def fnL : List He.DefD := fnL0 ++ fnL1 ++ fnL2 ++ fnL3
def faL0 : List He.Fa := [.free "isinstance", .free "str", .free "tuple", .free "len", .free "all", .free "any", .free "sum", .free "max", .free "zip", .free "enumerate", .free "list", .free "dict", .free "set", .free "sorted", .free "int", .free "range", .free "reversed", .free "ValueError", .int "MOST_LETTERS" 8, .int "MOST_PARTS" 200]
def faL1 : List He.Fa := [.int "MOST_DEEP" 30, .str "LETTERS_kinds" "abcdefghijklmnopqrstuvwxyz", .glo "PLAIN", .glo "OF_TWO", .glo "NUM", .glo "FORMS", .glo "RULES", .glo "Scope", .glo "Function", .glo "Stand", .glo "TooMany", .glo "KindError", .glo "Broken", .glo "NoBack", .glo "NoKind", .glo "NoName", .glo "Ring", .glo "Taken", .glo "Used", .glo "is_name"]
def faL2 : List He.Fa := [.glo "is_worded", .glo "is_data", .glo "opens_in", .glo "term_spots", .glo "inner_terms", .glo "with_inner", .glo "parts_of_term", .glo "depth_of_term", .glo "put_in", .glo "filled_kind", .glo "opens_of", .glo "opens_brought", .glo "put_in_term", .glo "filled_beside", .glo "filled_term", .glo "ask", .glo "data_in", .glo "word_in", .glo "name_kind", .glo "fun_kind"]
def faL3 : List He.Fa := [.glo "call_kind", .glo "bare_kind", .glo "plus_kind", .glo "pair_kind", .glo "left_kind", .glo "told_kind", .glo "kind_in", .glo "kind_of", .glo "uses_of", .glo "whole_parts", .glo "whole_depth", .glo "scope_within", .glo "put_together", .glo "whole_of", .glo "told_by", .glo "give_kind", .glo "give_whole", .glo "reach_of", .glo "by_uses", .glo "kinds_anew"]
def faL4 : List He.Fa := [.glo "_law_deck", .glo "_law_draw", .glo "_law_sum", .glo "_law_lefts", .glo "_law_fun", .glo "_law_measured", .glo "_law_refused", .glo "_law_due_parts", .glo "_law_due_deep", .glo "_law_put_in", .glo "_law_right", .glo "law", .cls "Scope", .cls "Function", .cls "Stand", .mkr "Scope", .mkr "Function", .mkr "Stand", .meth "Scope" "bound", .meth "Stand" "function"]
def faL5 : List He.Fa := [.meth "Stand" "tell", .meth "Stand" "retell", .meth "Stand" "names", .meth "Stand" "whole", .meth "Stand" "made", .noat "Scope" "looks", .noat "Scope" "knowns", .noat "Scope" "binds", .noat "Function" "looks", .noat "Function" "term", .noat "Function" "others", .noat "Function" "leads", .noat "Function" "body", .noat "Function" "times", .noat "Stand" "states", .exc "TooMany", .exm "TooMany" "KindError" true]
def faL : List He.Fa := faL0 ++ faL1 ++ faL2 ++ faL3 ++ faL4 ++ faL5
def tabKeys : List PySem.Str := ["name", "fun", "call", "num", "plus", "less", "truth", "if", "pair", "first", "second", "left", "right", "case", "none", "more", "fold", "built", "alike", "fault", "rounds", "told"]
def tsL : List He.Tab := [((fun K => He.ga K "FORMS"), tabKeys), ((fun K => He.ga K "RULES"), tabKeys)]
def formsL : List (PySem.Str × He.Dv) := [("name", .str "x"), ("fun", .str "xat"), ("call", .str "tt"), ("num", .str "k"), ("plus", .str "tt"), ("pair", .str "tt"), ("left", .str "td"), ("told", .str "xf")]
def rulesL : List (PySem.Str × He.Dv) := [("name", .glo "name_kind"), ("fun", .glo "fun_kind"), ("call", .glo "call_kind"), ("num", .glo "bare_kind"), ("plus", .glo "plus_kind"), ("pair", .glo "pair_kind"), ("left", .glo "left_kind"), ("told", .glo "told_kind")]
def excB (K : PySem.W.Frag) (D : Addr) : Bool :=
  He.eqO (PySem.W.findIn K (.ref D) "__getattribute__") (some (some (.builtin "BaseException.__getattribute__"))) && (He.eqO (PySem.W.findIn K (.ref D) "__getattr__") (some none) && (decide (PySem.W.subIn K (.ref D) (.type "BaseException") = some true) && (PySem.W.hasDictIn K D &&
    (He.eqO (PySem.W.findIn K (.ref D) "__class__") (some (some (.builtin "object.__class__"))) && (He.eqO (PySem.W.specialIn K (.builtin "object.__class__") "__get__") (some (some (.builtin "getset_descriptor.__get__"))) && (decide (PySem.W.takesIn K (.builtin "object.__class__") = some true) && decide (PySem.W.mroIn K D (.type "object") = some true)))))))
def exB (K : PySem.W.Frag) : Bool :=
  He.tupB K "PLAIN" [.str "num", .str "truth"] && (He.tupB K "OF_TWO" [.str "pair", .str "either"] && (He.tupB K "NUM" [.str "num"] && (He.valsB K (He.ga K "FORMS") formsL && (He.valsB K (He.ga K "RULES") rulesL && (excB K (He.ga K "TooMany") &&
    (decide (PySem.W.kitOne K (.ref (He.ga K "TooMany")) (.ref (He.ga K "TooMany")) = some true) && (decide (PySem.W.kitOne K (.ref (He.ga K "TooMany")) (.type "ValueError") = some true) &&
      decide (PySem.W.kitAny K (.ref (He.ga K "TooMany")) [.ref (He.ga K "Broken"), .ref (He.ga K "NoBack"), .ref (He.ga K "NoKind"), .ref (He.ga K "NoName"), .ref (He.ga K "Ring"), .ref (He.ga K "Taken"), .ref (He.ga K "Used")] = some false))))))))def names0 : List PySem.Str := ["_wall", "KindError", "TooMany", "NoKind", "NoName", "Taken", "Ring", "NoBack", "Broken", "Used", "LETTERS_kinds", "MOST_LETTERS", "PLAIN", "OF_TWO", "is_name", "is_worded", "is_data", "opens_in", "FORMS", "term_spots", "inner_terms", "with_inner", "parts_of_term", "depth_of_term", "LETTERS_filling", "put_in", "filled_kind", "opens_of", "name_by", "free_name"]
def names1 : List PySem.Str := ["opens_brought", "put_in_term", "put_in_built", "filled_beside", "filled_term", "NUM", "TRUTH", "Scope", "ask", "data_in", "word_in", "name_kind", "fun_kind", "call_kind", "bare_kind", "plus_kind", "less_kind", "if_kind", "pair_kind", "half_kind", "left_kind", "right_kind", "case_kind", "none_kind", "more_kind", "fold_kind", "is_free", "built_kind", "alike_kind", "fault_kind"]
def names2 : List PySem.Str := ["rounds_kind", "told_kind", "kind_in", "kind_of", "RULES", "MOST_PARTS", "MOST_DEEP", "uses_of", "whole_parts", "whole_depth", "scope_within", "renamed", "put_together", "whole_of", "Function", "told_by", "give_kind", "give_whole", "reach_of", "by_uses", "kinds_anew", "Stand", "_law_deck", "_law_draw", "_law_pick", "_law_names", "_law_sum", "_law_lefts", "_law_fun", "_law_measured"]
def names3 : List PySem.Str := ["_law_refused", "_law_due_parts", "_law_due_deep", "_law_put_in", "_law_right"]
def names : List PySem.Str := names0 ++ names1 ++ names2 ++ names3
abbrev RR : PySem.W.OpenRow := PySem.W.OpenLaw.row PySem.Challenge.rw_kindalone_k70_wholes_at_their_bounds
/-- what the walk looks at: the module's names, the defs' codes and defaults, the classes' methods and their codes -/
def refsF (o : Obj) : List Addr := match o.data with
  | .func fd => He.refV fd.code ++ He.refV fd.defaults
  | _ => []
def nsOf (g : Addr → Option Obj) (d : Addr) : List Addr := match g d with
  | some ⟨_, _, .dict es _, _⟩ => es.toList.flatMap fun e => He.refV e.val
  | _ => []
def moreOf (g : Addr → Option Obj) (a : Addr) : List Addr := match g a with
  | some ⟨_, _, .func fd, _⟩ => He.refV fd.code ++ He.refV fd.defaults
  | some ⟨_, _, .cls cd, _⟩ => cd.ns :: (nsOf g cd.ns).flatMap fun m => m :: (match g m with
    | some o => refsF o
    | none => [])
  | _ => []
def asK (g : Addr → Option Obj) : List Addr := mainGlobals :: ((nsOf g mainGlobals).flatMap fun a => a :: moreOf g a)
structure SaysK (w : World) (K : PySem.W.Frag) : Prop where
  t : He.SaysT faL fnL tsL w K
  more : exB K = true
def obsK (g : Addr → Option Obj) : He.AlT × Bool := (He.obsT faL fnL tsL (He.frG g (asK g)), exB (He.frG g (asK g)))
def hk : PySem.W.Hook where
  α := He.AlT × Bool
  obs := fun s => obsK s.heap.get?
  val := fun w => (He.valT fnL tsL w, true)
  says := fun w h => ∃ K : PySem.W.Frag, K.In h ∧ SaysK w K
  of := fun _ s e => ⟨He.frG s.heap.get? (asK s.heap.get?), He.frG_in, ⟨congrArg (fun z : He.AlT × Bool => z.1) e, congrArg (fun z : He.AlT × Bool => z.2) e⟩⟩
  keeps := fun _ _ _ ⟨K, hK, c⟩ k => ⟨K, PySem.W.Frag.In.keeps hK k, c⟩
def ob (s : PySem.W.SharedT) : He.AlT × Bool := obsK (HandSHeadRun.getT s)
theorem ob_eq (s : PySem.W.SharedT) : ob s = hk.obs s.abs := by
  have e : HandSHeadRun.getT s = s.abs.heap.get? := funext (HandSHeadRun.getT_eq s)
  show obsK (HandSHeadRun.getT s) = obsK s.abs.heap.get?
  rw [e]
theorem run0 (w : World) : HandSHeadRun.RunEq RR (PySem.W.view RR.prog [103]) hk ob 7000 names (w.withFollow "special-get-raises" false) := by
  intro os
  kernel_rfl
theorem run1 (w : World) : HandSHeadRun.RunEq RR (PySem.W.view RR.prog [103]) hk ob 7000 names (w.withFollow "special-get-raises" true) := by
  intro os
  kernel_rfl
theorem run (w : World) : HandSHeadRun.RunEq RR (PySem.W.view RR.prog [103]) hk ob 7000 names w :=
  PySem.W.byRow2 "special-get-raises" (P := fun w => HandSHeadRun.RunEq RR (PySem.W.view RR.prog [103]) hk ob 7000 names w) run0 run1 w
end K70
/-! Calls of a def that stands in a dict: `TABLE[word](a, b)`. -/
namespace K70
open PySem PySem.Spec PyProof.Rows L2
/-- a def of the written part that keeps the promise sp, by at most level k; nothing is raised -/
def Kept (P : Program) (w : World) (K : PySem.W.Frag) (mg : Str → Option Value) (base : Heap) (k : Nat) (f : Addr) (sp : Sp) : Prop :=
  ∃ (fd : FuncData) (ps : List Str), FnOk P w K mg base CX0 k f fd ps sp ∧ PySem.W.keepIn K (.ref f) = true ∧ Binds K fd ps []
def tCallF (A : Addr → Sp → Prop) (tf : TE) (t : TA) : TE := fun σ H Q => tf σ H fun v H1 => ∃ (f : Addr) (sp : Sp), v = .ref f ∧ A f sp ∧ t σ H1 fun vs H2 => sp vs H2 Q E0
section
variable {X : Cx} {k : Nat}
theorem pe_callSub {A : Addr → Sp → Prop} {o i : Expr} {spos pos : Pos} {e : Expr} {es : List Expr} {tf : TE} {t : TA}
    (hA : ∀ f sp, A f sp → Kept X.prog X.w X.K X.mg X.base k f sp) (hr : Room k X.A) (hf : PE X (.Subscript o i spos) tf) (ha : PA X (e :: es) t)
    (he : starEach (e :: es) X.env = (false, eval e X.env) :: starEach es X.env := by rfl) (hpl : (backTo pos (starEach es X.env)).any (·.1) = false := by rfl) :
    PE X (.Call (.Subscript o i spos) (e :: es) [] pos) (tCallF A tf t) := by
  constructor
  intro pins s σ H Q I h
  show wpAny _ _ (do
    callWith pos (← eval (.Subscript o i spos) X.env) [] (backTo pos (starEach (e :: es) X.env)) (backToKw pos (keywordEach [] X.env))) _ _ s
  refine wpAny_bind (thn (hf.run pins s σ H _ I h) fun u s1 hq => ?_)
  obtain ⟨v, H1, I1, r1, f, sp, ev, hfs, q1⟩ := hq
  subst ev
  obtain rfl : u = Value.ref f := r1
  obtain ⟨fd, ps, F, hk, hb⟩ := hA f sp hfs
  refine PySem.W.callWith_K (h₀ := X.base) I.ok.mod.kin hk (thn (ha.run pos pins s1 σ H1 _ I1 q1) fun us s2 hq2 => ?_) he hpl
  obtain ⟨vs, H2, I2, r2, q2⟩ := hq2
  exact ⟨I2.kIn, run_fn (dvs := []) F hr hb .nil pass0 I2 r2 (by rw [List.append_nil]; exact q2)⟩
end
end K70
/-! max(list of ints, default=d). -/
namespace K70
open PySem PySem.Spec PyProof.Rows L2
section
variable {prog : Program} {w : World} {A : Around} {R : Result → Shared → Prop} {I : Addr} {fp wr : List Addr} {n : Nat} {P : Nat → Value → Prop} {St : Nat → Heap → Prop} {dv : Value}
abbrev mArgs (I S : Addr) (dv : Value) : Args := ⟨[.ref I, .none, .ref S], [(Str.ofString "default", dv)]⟩
theorem maxd_name : (toString "max" ++ toString ".loop" : String) = "max.loop" := by decide
/-- behind the first item, a best one is there -/
theorem maxd_more (W : Walks prog w A.in1 I fp wr n P St) (bt : Nat → Nat → Bool) (hcmp : CmpOf prog w A.in1 .Gt P bt) (S : Addr) (hSf : S ∉ fp) :
    ∀ (k j : Nat) (s : Shared) (vb : Value) (c : Nat), n - (j + 1) = k → j + 1 ≤ n → St (j + 1) s.heap → P (argBest bt j) vb →
    s.heap.get? S = some { cls := .type "list", dict := none, data := .seq #[vb, vb] c, slots := #[] } →
    (∀ v h' tk, P (argBest bt (n - 1)) v → (∀ b o, b ∉ wr → b ≠ S → s.heap.get? b = some o → h'.get? b = some o) → R (.ok (.ret v)) { s with heap := h', toks := tk }) →
    codeAny (model prog w) A (.builtin "max.loop" (mArgs I S dv)) R s := by
  have hSw : S ∉ wr := fun h => hSf (W.sub _ h)
  intro k
  induction k with
  | zero =>
    intro j s vb c hk hj hst hPb hS hR
    have hin : j + 1 = n := by omega
    refine codeAny_builtin F.entry_max_loop ?_; rw [Around.under_plainId F.plain_max_loop _]
    show wpAny _ A.in1 (seqItems? (.ref S) >>= _) _ _ s
    refine wpAny_bind (wpAny_seqItems hS rfl ?_); show wpAny _ A.in1 (tryCatch (pyNext (.ref I)) _ >>= _) _ _ s
    refine wpAny_bind (wpAny_tryCatch (W.done s _ _ (hin ▸ hst) fun h' tk hk' => ?_)); have hS' := hk' S _ hSw hS
    show wpAny _ A.in1 (updateSeq S (fun _ => #[]) >>= _) _ _ _
    refine wpAny_bind (wpAny_updateSeq hS' rfl (wpAny_bind (wpAny_letGo (wpAny_pure ?_))))
    exact hR vb _ tk (by rw [← hin]; exact hPb) fun b o hbw hbS e => (Heap.get?_update_other _ _ (Ne.symm hbS)).trans (hk' b o hbw e)
  | succ k ih =>
    intro j s vb c hk hj hst hPb hS hR
    have hlt : j + 1 < n := by omega
    refine codeAny_builtin F.entry_max_loop ?_; rw [Around.under_plainId F.plain_max_loop _]
    show wpAny _ A.in1 (seqItems? (.ref S) >>= _) _ _ s
    refine wpAny_bind (wpAny_seqItems hS rfl ?_); show wpAny _ A.in1 (tryCatch (pyNext (.ref I)) _ >>= _) _ _ s
    refine wpAny_bind (wpAny_tryCatch (W.item (j + 1) s _ _ hlt hst fun v h' tk hP hst' hk' => ?_)); have hS' := hk' S _ hSw hS
    show wpAny _ A.in1 (tryCatch (holding [v, v] (richCompare .Gt v vb >>= _)) _ >>= _) _ _ _
    refine wpAny_bind (wpAny_tryCatch (wpAny_holding (wpAny_bind (hcmp (j + 1) (argBest bt j) v vb _ _ _ hP hPb ?_))))
    refine wpAny_bind (wpAny_holding (wpAny_truthy_bool ?_)); refine wpAny_bind (wpAny_letGo (wpAny_pure ?_))
    cases hb : bt (j + 1) (argBest bt j) with
    | true =>
      simp only [if_true]
      refine wpAny_bind (wpAny_updateSeq hS' rfl (wpAny_bind (wpAny_letGo ?_)))
      rw [maxd_name]
      refine wpAny_pure ⟨plainId_quiet F.plain_max_loop _, ih (j + 1) _ v _ (by omega) hlt (W.frame _ _ _ hst' fun b hbf o e => ?_) (by simp only [argBest, hb, if_true]; exact hP) (Heap.get?_update_self _ hS' rfl)
        fun v' h'' tk'' hP' hk'' => ?_⟩
      · exact (Heap.get?_update_other _ _ (fun z : S = b => hSf (by rw [z]; exact hbf))).trans e
      · exact hR v' h'' tk'' hP' fun b o hbw hbS e => hk'' b o hbw hbS ((Heap.get?_update_other _ _ (Ne.symm hbS)).trans (hk' b o hbw e))
    | false =>
      simp only [Bool.false_eq_true, if_false]
      refine wpAny_bind (wpAny_letGo ?_); rw [maxd_name]
      refine wpAny_pure ⟨plainId_quiet F.plain_max_loop _, ih (j + 1) _ vb c (by omega) hlt hst' (by simp only [argBest, hb, Bool.false_eq_true, if_false]; exact hPb) hS' fun v' h'' tk'' hP' hk'' => ?_⟩
      exact hR v' h'' tk'' hP' fun b o hbw hbS e => hk'' b o hbw hbS (hk' b o hbw e)
theorem maxd_first (W : Walks prog w A.in1 I fp wr n P St) (bt : Nat → Nat → Bool) (hcmp : CmpOf prog w A.in1 .Gt P bt) (S : Addr) (hSf : S ∉ fp) {s : Shared} {c : Nat} (hst : St 0 s.heap)
    (hS : s.heap.get? S = some { cls := .type "list", dict := none, data := .seq #[] c, slots := #[] })
    (h0 : n = 0 → ∀ h' tk, (∀ b o, b ∉ wr → b ≠ S → s.heap.get? b = some o → h'.get? b = some o) → R (.ok (.ret dv)) { s with heap := h', toks := tk })
    (hR : 0 < n → ∀ v h' tk, P (argBest bt (n - 1)) v → (∀ b o, b ∉ wr → b ≠ S → s.heap.get? b = some o → h'.get? b = some o) → R (.ok (.ret v)) { s with heap := h', toks := tk }) :
    codeAny (model prog w) A (.builtin "max.loop" (mArgs I S dv)) R s := by
  have hSw : S ∉ wr := fun h => hSf (W.sub _ h)
  refine codeAny_builtin F.entry_max_loop ?_; rw [Around.under_plainId F.plain_max_loop _]
  show wpAny _ A.in1 (seqItems? (.ref S) >>= _) _ _ s
  refine wpAny_bind (wpAny_seqItems hS rfl ?_); show wpAny _ A.in1 (tryCatch (pyNext (.ref I)) _ >>= _) _ _ s
  by_cases hn : 0 < n
  · refine wpAny_bind (wpAny_tryCatch (W.item 0 s _ _ hn hst fun v h' tk hP hst' hk' => ?_)); have hS' := hk' S _ hSw hS
    show wpAny _ A.in1 (updateSeq S (fun _ => #[v, v]) >>= _) _ _ _
    refine wpAny_bind (wpAny_updateSeq hS' rfl ?_)
    rw [maxd_name]
    refine wpAny_pure ⟨plainId_quiet F.plain_max_loop _, maxd_more W bt hcmp S hSf _ 0 _ v _ rfl hn (W.frame _ _ _ hst' fun b hbf o e => ?_) hP (Heap.get?_update_self _ hS' rfl) fun v' h'' tk'' hP' hk'' => ?_⟩
    · exact (Heap.get?_update_other _ _ (fun z : S = b => hSf (by rw [z]; exact hbf))).trans e
    · exact hR hn v' h'' tk'' hP' fun b o hbw hbS e => hk'' b o hbw hbS ((Heap.get?_update_other _ _ (Ne.symm hbS)).trans (hk' b o hbw e))
  · have hz : n = 0 := by omega
    refine wpAny_bind (wpAny_tryCatch (W.done s _ _ (hz ▸ hst) fun h' tk hk' => ?_))
    show wpAny _ A.in1 ((do rule _; ret dv) : Sem Fin) _ _ _
    refine wpAny_bind (wpAny_rule (wpAny_pure ?_))
    exact h0 hz h' tk fun b o hb hS2 e => hk' b o hb e
end
end K70
namespace K70
open PySem PySem.Spec PyProof.Rows L2
section
variable {prog : Program} {w : World} {A : Around} {E : Value → Shared → Prop} {s : Shared}
theorem args_maxd (a d : Value) : argsOk "max" ⟨[a], [(Str.ofString "default", d)]⟩ := by unfold argsOk; kernel_rfl
theorem maxd_raw {l : Addr} {its : List Value} {ns : List Int} {dv : Value} {Q : Value → Shared → Prop} (hh : A.handled = none) (hl : s.heap.IsList l its.toArray) (hi : IntsAre its ns)
    (h0 : ns = [] → ∀ h' tk, (∀ b o, s.heap.get? b = some o → h'.get? b = some o) → Q dv { s with heap := h', toks := tk })
    (h : ∀ h' tk M t', (∀ b o, s.heap.get? b = some o → h'.get? b = some o) → M ∈ ns → (∀ a, a ∈ ns → a ≤ M) → Q (.int M t') { s with heap := h', toks := tk }) :
    wpAny (model prog w) A (call (.builtin "max") [.ref l] [(Str.ofString "default", dv)]) Q E s := by
  obtain ⟨xs, e⟩ := hi.allInts.items
  have hn : numsOf (intItems xs).toList = ns := by rw [← e]; exact hi.numsOf
  rw [nums_intItems] at hn
  subst hn
  rw [e] at hl
  refine PyProof.Rows.kmk_tree F.kind_max F.plain_max F.entry_max (args_maxd _ _) ?_
  show wpAny _ A.in1 (Builtin.Builtins.bindParams "max" ["key", "default"] 0 ⟨[], [(Str.ofString "default", dv)]⟩ >>= _) _ _ s
  refine wpAny_bind (wpAny_of_eq (show Builtin.Builtins.bindParams "max" ["key", "default"] 0 ⟨[], [(Str.ofString "default", dv)]⟩ = pure [none, some dv] from rfl) ?_)
  refine wpAny_bind (wpAny_pure ?_)
  refine wpAny_bind (iter_intList hl fun s₂ es st hfp hlI => ?_)
  subst es
  refine wpAny_bind (wpAny_newObj_type ?_)
  rw [maxd_name]
  have W := Walks.list (prog := prog) (w := w) (A := A.in1) hh s.heap.objs.size l hlI (intItems xs)
  have hSf : (s.heap.push { cls := .type "list_iterator", data := .fields #[.ref l, .int 0 0] }).objs.size ∉ [s.heap.objs.size, l] := fun hm => Nat.lt_irrefl _ (hfp _ hm)
  have old : ∀ h' : Heap, (∀ b o, b ∉ [s.heap.objs.size] → b ≠ (s.heap.push { cls := .type "list_iterator", data := .fields #[.ref l, .int 0 0] }).objs.size →
      ((s.heap.push { cls := .type "list_iterator", data := .fields #[.ref l, .int 0 0] }).push { cls := .type "list", data := .seq #[] }).get? b = some o → h'.get? b = some o) → ∀ b o, s.heap.get? b = some o → h'.get? b = some o := fun h' hk => by
    refine old_kept (l := l) fun b o hb eb => ?_
    exact hk b o hb (Nat.ne_of_lt (Heap.lt_size eb)) (Heap.get?_push_of_some _ eb)
  refine wpAny_pure ⟨plainId_quiet F.plain_max_loop _, maxd_first W (fun i j => decide (numAt xs i > numAt xs j)) (CmpOf.ints_gt (numAt xs) (fun _ _ => intItems_at)) _ hSf
    (W.frame _ _ _ st fun b _ o e => Heap.get?_push_of_some _ e) (Heap.get?_push_size _ rfl) (fun hz h' tk hk => ?_) (fun hz v h' tk hP hk => ?_)⟩
  · refine h0 ?_ h' tk (old h' hk)
    have hs0 : xs.size = 0 := by simpa [intItems] using hz
    have : xs = #[] := Array.eq_empty_of_size_eq_zero hs0
    subst this
    rfl
  · have hsz : 0 < xs.size := by simpa [intItems] using hz
    have hP' : (intItems xs)[argBest (fun i j => decide (numAt xs i > numAt xs j)) (xs.size - 1)]? = some v := by simpa [intItems] using hP
    obtain ⟨t, rfl⟩ := intItems_at hP'
    obtain ⟨h1, h2⟩ := argBest_gt (numAt xs) (xs.size - 1)
    refine h h' tk _ t (old h' hk) ?_ fun a ha => ?_
    · rw [numAt_eq]; exact PySem.getD_mem (by rw [List.length_map, Array.length_toList]; omega)
    · obtain ⟨j, hj, rfl⟩ := mem_getD ha
      rw [List.length_map, Array.length_toList] at hj
      rw [← numAt_eq]; exact h2 j (by omega)
end
/-- max(xs, default=d) of a list of ints -/
def rMaxD (K : PySem.W.Frag) : List V → List V → Hp → VK → Prop := fun vs zs H Q => ∃ (a : Addr) (ns : List Int) (d : Int), vs = [V.ref a] ∧ zs = [V.int d] ∧ SqL K H a (ns.map V.int) ∧
  (ns = [] → Q (.int d) H) ∧ ∀ m, m ∈ ns → (∀ y, y ∈ ns → y ≤ m) → Q (.int m) H
theorem cr_maxD {X : Cx} (hc : X.calm = true) : CallRK X (.builtin "max") [Str.ofString "default"] (rMaxD X.K) := by
  intro pins s σ H vs zs us ws Q I r rz h
  obtain ⟨a, ns, d, rfl, rfl, hs, q0, q⟩ := h
  obtain ⟨its, rv, hl, _⟩ := I.list hs
  rw [Vals.ref1 r]
  cases rz with
  | cons rd rt =>
    cases rt
    obtain ⟨t, rfl⟩ := rd
    show wpAny _ _ (call (.builtin "max") [.ref a] [(Str.ofString "default", .int d t)]) _ _ _
    exact maxd_raw (I.ok.hd hc) hl.isList rv.ints (fun e h' tk hk => ⟨.int d, H, I.kept hk, ⟨_, rfl⟩, q0 e⟩) fun h' tk m t' hk h1 h2 => ⟨.int _, H, I.kept hk, ⟨_, rfl⟩, q m h1 h2⟩
end K70
/-! enumerate(text), zip(text, tuple) as things that a for walks. -/
namespace K70
open PySem PySem.Spec PyProof.Rows L2
theorem le2 {n b : Nat} (h : b = n + 1 ∨ b = n) : n ≤ b := by omega
theorem le5 {n c : Nat} (h : c = n + 4 ∨ c = n + 2 ∨ c = n + 3 ∨ c = n ∨ c = n + 1) : n ≤ c := by omega
/-- pairs: the i-th of fx and the i-th of fy, in a new tuple; while G stands -/
def ItQ (n : Nat) (G : Hp → Prop) (fx fy : Nat → Option V) : It :=
  ⟨fun i H => i < n ∧ G H, fun i H v H' => ∃ (T : Addr) (x y : V), v = V.ref T ∧ H T = none ∧ H' = upd H T (.tup [x, y]) ∧ fx i = some x ∧ fy i = some y, fun i H => i = n ∧ G H⟩
theorem walk_q {n : Nat} {G : Hp → Prop} {fx fy : Nat → Option V} : Walk (ItQ n G fx fy) n G (YPair fx fy) :=
  ⟨fun _ _ hi q => ⟨hi, q⟩, fun _ q => ⟨rfl, q⟩, fun _ _ _ _ _ _ y => y⟩
/-- a turn of an iterator of the library's that gives out new pairs -/
theorem turn_q {P : Program} {w : World} {K : PySem.W.Frag} {elts : List Expr} {kk : Nat} {tpos : Pos} {it : Addr} {fp : List Addr} {n : Nat} {G : Hp → Prop} {fx fy : Nat → Option V} {tn : Nat → Heap → Prop}
    (mem : it ∈ fp) (obj : ∀ i h, tn i h → ∀ b ∈ fp, ∃ o, h.get? b = some o ∧ ∀ v, o.data ≠ .cell v)
    (keep : ∀ i h h', tn i h → (∀ b ∈ fp, ∀ o, h.get? b = some o → h'.get? b = some o) → tn i h')
    (W : ∀ (X : Cx) (pins : List (Addr × Obj)) (s : Shared) (σ : L2.St) (H : Hp), X.prog = P → X.w = w → X.K = K → X.A.handled = none → Inv X pins σ H s → G H → (∀ b ∈ fp, FpOk X pins H b) → ∀ i, tn i s.heap →
      ∃ (fp' wr : List Addr) (PX PY : Nat → Value → Prop) (St : Nat → Heap → Prop),
        GoesN P w X.A (.Tuple elts kk tpos) it fp' wr n (fun i h₀ v h => ∃ T x y, v = .ref T ∧ h₀.objs.size ≤ T ∧ PX i x ∧ PY i y ∧ h.IsTuple T #[x, y]) St ∧
        St i s.heap ∧ (∀ j h, St j h → tn j h) ∧ (∀ b ∈ wr, b ∈ fp) ∧ (∀ j x, PX j x → ∃ v, fx j = some v ∧ RelV v x) ∧ ∀ j x, PY j x → ∃ v, fy j = some v ∧ RelV v x)
    (self : ∀ (A : Around) (i : Nat) (s : Shared) (Q : Value → Shared → Prop) (E : Value → Shared → Prop), tn i s.heap → Q (.ref it) s → wpAny (model P w) A (pyIter (.ref it)) Q E s) :
    Turn P w K (.Tuple elts kk tpos) (ItQ n G fx fy) fp it tn where
  mem := mem
  obj := obj
  keep := keep
  item := by
    intro X hP hw hK hc i pins s σ H E I hf st hg
    have ⟨hin, hG⟩ := hg
    obtain ⟨fp', wr, PX, PY, St, GN, st', to, sub, rx, ry⟩ := W X pins s σ H hP hw hK (I.ok.hd hc) I hG hf i st
    subst hP hw hK
    refine wpAny_mono (GN.goes i s (fun v s2 => ∃ x H', Inv X pins σ H' s2 ∧ RelV x v ∧ (ItQ n G fx fy).yld i H x H' ∧ tn (i + 1) s2.heap ∧ ∀ b ∈ fp, H' b = none) E hin st' fun v h' tk hY st2 hk htk => ?_) (fun r s1 h1 => h1) (fun _ _ e => e)
    obtain ⟨T, x, y, rfl, hT, hx, hy, hTT⟩ := hY
    obtain ⟨vx, ex, rvx⟩ := rx i x hx
    obtain ⟨vy, ey, rvy⟩ := ry i y hy
    have hn : H T = none := I.hok.fresh hT
    have new : ObjOk X.prog X.w (upd H T (.tup [vx, vy])) h' T (.tup [vx, vy]) := ⟨by show 2 ≤ sizeLine; decide, [x, y], .cons rvx (.cons rvy .nil), hTT⟩
    have I1 : Inv X pins σ (upd H T (.tup [vx, vy])) { s with heap := h', toks := tk } := I.turnedNew (ch := fp) (fun b o hb q => hk b o (fun z => hb (sub b z)) q) hf hT new
    refine ⟨.ref T, _, I1, rfl, ⟨T, vx, vy, rfl, hn, rfl, ex, ey⟩, to _ _ st2, fun b hb => ?_⟩
    have hlt : b < s.heap.objs.size := by
      obtain ⟨o, ho, _⟩ := obj i s.heap st b hb
      exact Heap.lt_size ho
    rw [upd_ne (Nat.ne_of_lt (Nat.lt_of_lt_of_le hlt hT))]
    exact (hf b hb).1
  done := by
    intro X hP hw hK hc i pins s σ H E I hf st hg
    have ⟨hin, hG⟩ := hg
    obtain ⟨fp', wr, PX, PY, St, GN, st', to, sub, rx, ry⟩ := W X pins s σ H hP hw hK (I.ok.hd hc) I hG hf i st
    subst hP hw hK
    subst hin
    exact GN.stops s (fun s1 => Inv X pins σ H s1) E st' fun h' tk hk htk => I.turnedL (t' := tk) (ch := fp) (fun b o hb q => hk b o (fun z => hb (sub b z)) q) hf
  self := self
/-! ### enumerate of a text -/
def fInt : Nat → Option V := fun i => some (.int (i : Nat))
def fSign (x : Str) : Nat → Option V := fun i => (x.cps[i]?).map fun c => V.str ⟨#[c]⟩
def iEnumS (ta : TA) : TI := fun σ H R => ta σ H fun vs H1 => ∃ x, vs = [V.str x] ∧ R (ItQ x.cps.size (fun _ => True) fInt (fSign x)) H1
theorem str_iter_obj {h : Heap} {it : Addr} {ty : String} {x : Str} {t : Tok} {i : Nat} (st : h.IsStrIter it ty x t i) : ∃ o, h.get? it = some o ∧ ∀ v, o.data ≠ .cell v := by
  obtain ⟨o, e, c, d⟩ := st
  exact ⟨o, e, fun v z => by rw [d] at z; cases z⟩
theorem turn_enumS {P : Program} {w : World} {K : PySem.W.Frag} {elts : List Expr} {kk : Nat} {tpos : Pos} (e it : Addr) (hne : e ≠ it) (x : Str) (t : Tok) :
    Turn P w K (.Tuple elts kk tpos) (ItQ x.cps.size (fun _ => True) fInt (fSign x)) [e, it] e (fun i h => (∃ old, IsEnum h e it ((0 : Int) + (i : Int)) old) ∧ h.IsStrIter it (strIterType x) x t i) := by
  refine turn_q (by simp) (fun i h st b hb => ?_) (fun i h h' st k => ?_) (fun X pins s σ H hP hw hK hh I _ hf i st => ?_) (fun A i s Q E st q => ?_)
  · obtain ⟨⟨old, he⟩, hi⟩ := st
    have e' : b = e ∨ b = it := by simpa using hb
    rcases e' with z | z
    · rw [z]; exact ⟨_, he, fun v q => nomatch q⟩
    · rw [z]; exact str_iter_obj hi
  · obtain ⟨⟨old, he⟩, o, ho, r⟩ := st
    exact ⟨⟨old, k e (by simp) _ he⟩, o, k it (by simp) o ho, r⟩
  · have D := Draws.text (prog := P) (w := w) (A := X.A.in1) hh it x t
    refine ⟨_, _, _, _, _, (GoesN.enumFrom (elts := elts) (x1 := kk) (pos := tpos) 0 D e hne (by simp [hne]) (by simp)).mono (Y' := fun i h₀ v h => ∃ T x' y, v = .ref T ∧ h₀.objs.size ≤ T ∧ (fun (i : Nat) (u : Value) => ∃ t, u = Value.int ((0 : Int) + (i : Int)) t) i x' ∧ (fun i v => ∃ c u, x.cps[i]? = some c ∧ v = Value.str ⟨#[c]⟩ u) i y ∧ h.IsTuple T #[x', y])
      (fun i h₀ v h _ ⟨T, t1, y, ev, hn, hy, hT⟩ => ⟨T, _, y, ev, hn, ⟨t1, rfl⟩, hy, hT⟩), st, fun _ _ z => z, fun b z => z, fun j u hu => ?_, fun j u hu => ?_⟩
    · obtain ⟨t1, rfl⟩ := hu
      exact ⟨_, rfl, t1, by rw [Int.zero_add]⟩
    · obtain ⟨c, u', hc, rfl⟩ := hu
      exact ⟨.str ⟨#[c]⟩, by unfold fSign; rw [hc]; rfl, u', rfl⟩
  · obtain ⟨⟨_, he⟩, _⟩ := st
    exact wpAny_pyIter_enum he q
theorem pi_enumS {X : Cx} {e : Expr} {ta : TA} {p pos tpos : Pos} {elts : List Expr} {kk : Nat} (hg : Gl X "enumerate") (hm : X.mg "enumerate" = none) (ha : PA X [e] ta) (hs : starEach [e] X.env = [(false, eval e X.env)] := by rfl) :
    PI X (.Tuple elts kk tpos) (.Call (.Name "enumerate" p) [e] [] pos) (iEnumS ta) := by
  constructor
  intro pins s σ H R I h
  refine Call_ (ld_blt I hg hm boot_enumerate (PyProof.Rows.callWith_type1 (thn (ha.run pos pins s σ H _ I h) fun us s1 hq => ?_) hs rfl))
  obtain ⟨vs, H1, I1, r1, x, ex, q⟩ := hq
  subst ex
  cases r1 with
  | cons r rr =>
    cases rr
    obtain ⟨t, rfl⟩ := r
    refine call_enumerate_str fun h' he hit hsz hk => wpAny_pyIter_enum he ?_
    have I2 : Inv X pins σ H1 { s1 with heap := h' } := I1.kept (t' := s1.toks) hk
    refine ⟨s1.heap.objs.size + 1, [s1.heap.objs.size + 1, s1.heap.objs.size], _, _, H1, rfl, I2, turn_enumS (s1.heap.objs.size + 1) s1.heap.objs.size (Nat.succ_ne_self _) x t, ⟨⟨.none, he⟩, hit⟩, fun b hb => ?_, q⟩
    have e' : b = s1.heap.objs.size + 1 ∨ b = s1.heap.objs.size := by simpa using hb
    have hle : s1.heap.objs.size ≤ b := le2 e'
    exact I1.fpOk hle (I1.hok.fresh hle)
/-! ### zip of a text and a tuple -/
def iZipST (K : PySem.W.Frag) (ta : TA) : TI := fun σ H R => ta σ H fun vs H1 => ∃ x a ys, vs = [V.str x, V.ref a] ∧ SqT K H1 a ys ∧ R (ItQ (min x.cps.size ys.length) (fun H => SqT K H a ys) (fSign x) (fun i => ys[i]?)) H1
theorem turn_zipST {P : Program} {w : World} {K : PySem.W.Frag} {elts : List Expr} {kk : Nat} {tpos : Pos} {z TI TO i1 i2 a : Addr} (S : ZipSep2 z TI TO i1 i2 [i1] [i2, a]) (hne : a ≠ i2) (x : Str) (t : Tok) (ys : List V) :
    Turn P w K (.Tuple elts kk tpos) (ItQ (min x.cps.size ys.length) (fun H => SqT K H a ys) (fSign x) (fun i => ys[i]?)) [z, TI, TO, i1, i2] z
      (fun i h => IsZip h z TI TO .none ∧ IsTupOf2 h TI (.ref i1) (.ref i2) ∧ (∃ a1 a2, IsTupOf2 h TO a1 a2) ∧ h.IsStrIter i1 (strIterType x) x t i ∧ h.IsTupleIter i2 a i) := by
  refine turn_q (by simp) (fun i h st b hb => ?_) (fun i h h' st k => ?_) (fun X pins s σ H hP hw hK hh I hG hf i st => ?_) (fun A i s Q E st q => wpAny_pyIter_zip st.1 q)
  · obtain ⟨hz, hTI, ⟨a1, a2, hTO⟩, h1, o2, e2, _, d2⟩ := st
    have e' : b = z ∨ b = TI ∨ b = TO ∨ b = i1 ∨ b = i2 := by simpa using hb
    rcases e' with q | q | q | q | q
    · rw [q]; exact ⟨_, hz, fun v q => nomatch q⟩
    · rw [q]
      exact ⟨_, hTI, fun v q => nomatch q⟩
    · rw [q]
      exact ⟨_, hTO, fun v q => nomatch q⟩
    · rw [q]; exact str_iter_obj h1
    · rw [q]; exact ⟨o2, e2, fun v q => by rw [d2] at q; cases q⟩
  · obtain ⟨hz, hTI, ⟨a1, a2, hTO⟩, ⟨o, ho, r⟩, h2⟩ := st
    exact ⟨k z (by simp) _ hz, k TI (by simp) _ hTI, ⟨a1, a2, k TO (by simp) _ hTO⟩, ⟨o, k i1 (by simp) o ho, r⟩, h2.at fun o q => k i2 (by simp) o q⟩
  · subst hK
    obtain ⟨its, rv, p, hz⟩ := I.tuple hG
    have D1 := Draws.text (prog := P) (w := w) (A := X.A.in1) hh i1 x t
    have D2 := Draws.tuple (prog := P) (w := w) (A := X.A.in1) hh i2 a hne its.toArray
    have e2 : its.toArray.size = ys.length := by rw [List.size_toArray, rv.length]
    have GN := GoesN.zip2 (elts := elts) (x1 := kk) (pos := tpos) S D1 D2
    rw [e2] at GN
    refine ⟨_, _, _, _, _, GN, ⟨st.1, st.2.1, st.2.2.1, st.2.2.2.1, st.2.2.2.2, p⟩, fun j h q => ⟨q.1, q.2.1, q.2.2.1, q.2.2.2.1, q.2.2.2.2.1⟩, fun b hb => ?_, fun j u hu => ?_, fun j u hu => ?_⟩
    · have e' : b = z ∨ b = TO ∨ b = i1 ∨ b = i2 := by simpa using hb
      rcases e' with q | q | q | q <;> simp [q]
    · obtain ⟨c, u', hc, rfl⟩ := hu
      exact ⟨.str ⟨#[c]⟩, by unfold fSign; rw [hc]; rfl, u', rfl⟩
    · have hu' : its[j]? = some u := by simpa using hu
      have hj : j < ys.length := by
        rw [rv.length]
        exact (List.getElem?_eq_some_iff.mp hu').1
      obtain ⟨u2, e3, r3⟩ := rv.get (List.getElem?_eq_getElem hj)
      rw [hu'] at e3
      cases e3
      exact ⟨_, List.getElem?_eq_getElem hj, r3⟩
theorem pi_zipST {X : Cx} {e e2 : Expr} {ta : TA} {p pos tpos : Pos} {elts : List Expr} {kk : Nat} (hg : Gl X "zip") (hm : X.mg "zip" = none) (ha : PA X [e, e2] ta)
    (hs : starEach [e, e2] X.env = (false, eval e X.env) :: starEach [e2] X.env := by rfl) (hpl : (backTo pos (starEach [e2] X.env)).any (·.1) = false := by rfl) :
    PI X (.Tuple elts kk tpos) (.Call (.Name "zip" p) [e, e2] [] pos) (iZipST X.K ta) := by
  constructor
  intro pins s σ H R I h
  refine Call_ (ld_blt I hg hm PyProof.Rows.boot_zip (PyProof.Rows.callWith_type1 (thn (ha.run pos pins s σ H _ I h) fun us s1 hq => ?_) hs hpl))
  obtain ⟨vs, H1, I1, r1, x, a, ys, ex, hy, q⟩ := hq
  subst ex
  cases r1 with
  | cons r rr =>
    cases rr with
    | cons r' rr =>
      cases rr
      obtain ⟨t, rfl⟩ := r
      cases r'
      obtain ⟨its, rv, p1, _⟩ := I1.tuple hy
      have la : a < s1.heap.objs.size := p1.lt
      refine zip_begins2 (begins_text x t) (begins_tuple a its.toArray) True.intro p1 fun h' hz hTI hTO h1 h2 hsz hk => wpAny_pyIter_zip hz ?_
      have I2 : Inv X pins σ H1 { s1 with heap := h' } := I1.kept (t' := s1.toks) hk
      have S := zip_sep2 (N := s1.heap.objs.size) (fp1 := []) (fp2 := [a]) (fun b hb => nomatch hb) (fun b hb => by rw [List.mem_singleton.mp hb]; exact la)
      refine ⟨s1.heap.objs.size + 4, [s1.heap.objs.size + 4, s1.heap.objs.size + 2, s1.heap.objs.size + 3, s1.heap.objs.size, s1.heap.objs.size + 1], _, _, H1, rfl, I2, turn_zipST S (Nat.ne_of_lt (Nat.lt_succ_of_lt la)) x t ys, ⟨hz, hTI, ⟨_, _, hTO⟩, ⟨_, h1, rfl, rfl⟩, ⟨_, h2, rfl, rfl⟩⟩, fun c hcm => ?_, q⟩
      have e' : c = s1.heap.objs.size + 4 ∨ c = s1.heap.objs.size + 2 ∨ c = s1.heap.objs.size + 3 ∨ c = s1.heap.objs.size ∨ c = s1.heap.objs.size + 1 := by simpa using hcm
      have hle : s1.heap.objs.size ≤ c := le5 e'
      exact I1.fpOk hle (I1.hok.fresh hle)
end K70
/-! tuple(d), list(reversed(xs)). -/
namespace K70
open PySem PySem.Spec PyProof.Rows L2
section
variable {prog : Program} {w : World} {A : Around} {E : Value → Shared → Prop} {s : Shared} {T : String} {r d : Addr} {n : Nat} {P : Nat → Value → Prop} {OK : Heap → Prop}
theorem code_tup_src {Q₁ : Value → Shared → Prop} (K : PySem.W.KdlSrc prog w T r d n P OK) (hh : A.handled = none) (hok : OK s.heap) (hn : n ≤ sizeLine)
    (h : ∀ (h' : Heap) (tk : Nat) (acc : Array Value), (∀ b o, s.heap.get? b = some o → h'.get? b = some o) → ItemsOf P acc n → Q₁ (.ref h'.objs.size) { s with heap := h'.push { cls := .type "tuple", data := .seq acc }, toks := tk }) :
    codeAny (model prog w) A (.call (.builtin "tuple.__new__") ⟨[.type "tuple", .ref r], []⟩) (wants Q₁ E) s := by
  refine codeAny_of_tree ?_
  show wpAny _ A.in1 (do checkBuiltinCall "tuple.__new__" ⟨[.type "tuple", .ref r], []⟩; again (.builtin "tuple.__new__" ⟨[.type "tuple", .ref r], []⟩)) _ _ s
  refine wpAny_bind (wpAny_of_eq (F.newCall_tuple_1 _) (wpAny_pure ⟨plainId_quiet F.plain_tuple_new _, codeAny_builtin F.entry_tuple_new ?_⟩))
  rw [Around.under_plainId F.plain_tuple_new _]
  have hsub := sub_tuple_self
  have hinit := init_tuple_lookup
  have hmh := madeHere_tuple
  have hTI : s.TypeIs (.ref r) T := K.type s hok
  have hTt := K.notTuple
  have hh1 : A.in1.handled = none := hh
  wp_walk using wpAny_typeOf hTI, PySem.W.kdu_collect (A := A.in1) K hh1 hok hn
  intro h' tk acc hk hacc
  show wpAny _ _ (Builtin.Tuple.tupleExact acc.toList.toArray >>= fun v => ret v) _ _ _
  unfold Builtin.Tuple.tupleExact
  refine wpAny_bind (wpAny_newObj_type ?_ (by show acc.toList.toArray.size ≤ sizeLine; simp only [Array.toArray_toList]; rw [hacc.1]; exact hn))
  refine wpAny_pure ?_
  have e : acc.toList.toArray = acc := by simp
  rw [e]
  exact h h' tk acc hk hacc
theorem call_tup_src {Q : Value → Shared → Prop} (K : PySem.W.KdlSrc prog w T r d n P OK) (hh : A.handled = none) (hok : OK s.heap) (hn : n ≤ sizeLine)
    (hQ : ∀ (h' : Heap) (tk : Nat) (acc : Array Value), (∀ b o, s.heap.get? b = some o → h'.get? b = some o) → ItemsOf P acc n → Q (.ref h'.objs.size) { s with heap := h'.push { cls := .type "tuple", data := .seq acc }, toks := tk }) :
    wpAny (model prog w) A (call (.type "tuple") [.ref r]) Q E s := by
  refine callType_codes (Q₁ := fun obj s₁ => s₁.TypeIs obj "tuple" ∧ Q obj s₁) F.called_tuple (F.typeCall_tuple_1 _) F.entry_object_init
    (code_tup_src (A := A.in1) K hh hok hn fun h' tk acc hk hacc => ⟨⟨_, Heap.get?_push_size _ rfl, rfl⟩, hQ h' tk acc hk hacc⟩) fun obj s₁ h₁ => ?_
  exact ⟨h₁.1, F.args_object_init_2 obj _, object_init_meets F.called_tuple.init.lookup F.called_tuple.made (by decide) prog w A.in1 _ s₁ ⟨h₁.1, rfl, h₁.2⟩⟩
end
section
variable {X : Cx}
/-- tuple(d): its keys -/
def rTupD : List V → Hp → VK → Prop := fun xs H Q => ∃ (a : Addr) (kvs : List (Key × V)), xs = [.ref a] ∧ Rd H a (.dK kvs) ∧ ∀ p, H p = none → Q (.ref p) (upd H p (.tup (kvs.map fun kv => kV kv.1)))
theorem call_tupD (hcalm : X.calm = true) : CallR X (.type "tuple") rTupD := by
  intro pins s σ H xs us Q I r q
  obtain ⟨a, kvs, ex, hd, q⟩ := q
  subst ex
  obtain ⟨u, eu, rx⟩ := vals1 r
  subst eu
  cases rx
  obtain ⟨z, lo, vs, rel, dd⟩ := dk_rd I.hok hd
  obtain ⟨ep, hat⟩ := dd.dictAt
  have ek : (kvs.map fun kv => kV kv.1) = vs.map fun p => kV p.1 := by
    have e := congrArg (List.map kV) rel.keys
    rw [List.map_map, List.map_map] at e
    exact e
  refine call_tup_src (PySem.W.kdl_dict (knd := mixKind X.prog X.w) (kvs := vs) (ep := ep) lo) (I.ok.hd hcalm) hat (by rw [← rel.length]; exact z) fun h' tk acc hk hacc => ?_
  have hv : Vals (vs.map fun p => kV p.1) acc.toList := keys_at (by rw [Array.length_toList]; exact hacc.1) fun j v e => hacc.2 j v (by rw [← Array.getElem?_toList]; exact e)
  have I1 : Inv X pins σ H { s with heap := h', toks := tk } := I.kept hk
  have I2 : Inv X pins σ (upd H h'.objs.size (.tup (kvs.map fun kv => kV kv.1))) { s with heap := h'.push { cls := .type "tuple", data := .seq acc }, toks := tk } :=
    I1.laid (t' := tk) (fun b o e => Heap.get?_push_of_some _ e) (Nat.le_refl _) (show ObjOk X.prog X.w _ _ _ (.tup (kvs.map fun kv => kV kv.1)) from ⟨by rw [List.length_map]; exact z, acc.toList, by rw [ek]; exact hv, by rw [Array.toArray_toList]; exact IsTup.new _ _⟩)
  exact ⟨.ref h'.objs.size, _, I2, rfl, q _ (I1.hok.fresh (Nat.le_refl _))⟩
end
end K70
/-! list(reversed(xs)). -/
namespace K70
open PySem PySem.Spec PyProof.Rows L2 RT
section
variable {prog : Program} {w : World} {A : Around} {E : Value → Shared → Prop} {s : Shared} {it l S : Addr} {items : Array Value}
theorem lrev_extend {R : Result → Shared → Prop} {res : Value} {c₀ : Nat} (hh : A.handled = none) (hit : s.heap.IsRevIter it l ((items.size : Int) - 1)) (hl : s.heap.IsList l items) (hne : l ≠ it) (hn : items.size ≤ sizeLine)
    (hSi : S ≠ it) (hSl : S ≠ l) (hS : s.heap.get? S = some { cls := .type "list", data := .seq #[] c₀ })
    (hR : ∀ h' tk acc' c', (∀ b o, b ≠ S → b ≠ it → s.heap.get? b = some o → h'.get? b = some o) → h'.get? S = some { cls := .type "list", dict := none, data := .seq acc' c', slots := #[] } →
      ItemsOf (fun i v => items[items.size - 1 - i]? = some v) acc' items.size → R (.ok (.ret res)) { s with heap := h', toks := tk }) :
    wpAny (model prog w) A.in1 (Builtin.List.listExtendWith (.ref S) (.ref it) res)
      (fun fin s' => match fin with | .done f => R (.ok f) s' | .again c' => c'.quiet = true ∧ codeAny (model prog w) A c' R s') (fun e s' => R (.error e) s') s := by
  have W := (Walks.listRev (prog := prog) (w := w) (A := A.in1) hh it l hne items).toS
  have hSf : S ∉ [it, l] := by simp only [List.mem_cons, List.not_mem_nil, or_false, not_or]; exact ⟨hSi, hSl⟩
  have hT : s.TypeIs (.ref it) "list_reverseiterator" := hit.typeIs
  have h1 : Builtin.List.listSameRef (.ref S) (.ref it) = false := by simp [Builtin.List.listSameRef, hSi]
  unfold Builtin.List.listExtendWith
  refine wpAny_bind (wpAny_typeOf hT ?_)
  rw [if_neg (by rw [h1]; decide)]
  refine wpAny_bind (wpAny_pyIter_revIter hit ?_)
  refine wpAny_bind (wpAny_holding ?_)
  unfold Builtin.List.listLengthHint
  refine wpAny_bind (wpAny_specialOf hT nolen_lri ?_)
  show wpAny _ A.in1 (specialOf (Value.ref it) (Str.ofString "__length_hint__") >>= _) _ _ _
  refine wpAny_bind (wpAny_specialOf hT hint_lri ?_)
  generalize hid : ("list_reverseiterator.__length_hint__" : String) = id0
  wp_delta
  rw [show splitId id0 = some ("list_reverseiterator", "__length_hint__") from by subst hid; decide +kernel]
  subst hid
  refine wpAny_bind (wpAny_isInstance (b := true) hT (by rw [isSubtype_type]; kernel_rfl) ?_)
  refine wpAny_pure ?_
  rw [if_neg (by decide)]
  have e0 : ((items.size : Nat) : Int) - 1 - ((0 : Nat) : Int) = (items.size : Int) - 1 := by omega
  refine wpAny_pure ⟨plainId_quiet F.plain_extend_loop _, codeAny_extend_loopS W hn _ hSf _ items.size 0 _ _ _ rfl (Nat.zero_le _) ⟨Nat.zero_le _, by rw [e0]; exact hit, hl⟩ hS (ItemsOf.nil _) fun s' acc' c' hm hS' hacc => ?_⟩
  rw [Moved.eq_with hm]
  refine hR s'.heap s'.toks acc' c' (fun b o hb hb2 e => hm.heap b o (fun hmem => ?_) e) hS' hacc
  rcases List.mem_cons.mp hmem with e' | hmem
  · exact hb e'
  · exact hb2 (List.mem_singleton.mp hmem)
theorem lrev_init {R : Result → Shared → Prop} (hh : A.handled = none) (hit : s.heap.IsRevIter it l ((items.size : Int) - 1)) (hl : s.heap.IsList l items) (hne : l ≠ it) (hn : items.size ≤ sizeLine)
    (hSi : S ≠ it) (hSl : S ≠ l) (hS : s.heap.get? S = some { cls := .type "list", data := .seq #[] })
    (hR : ∀ h' tk acc' c', (∀ b o, b ≠ S → b ≠ it → s.heap.get? b = some o → h'.get? b = some o) → h'.get? S = some { cls := .type "list", dict := none, data := .seq acc' c', slots := #[] } →
      ItemsOf (fun i v => items[items.size - 1 - i]? = some v) acc' items.size → R (.ok (.ret .none)) { s with heap := h', toks := tk }) :
    wpAny (model prog w) A.in1 (Builtin.«list.__init__» ⟨[.ref S, .ref it], []⟩)
      (fun fin s' => match fin with | .done f => R (.ok f) s' | .again c' => c'.quiet = true ∧ codeAny (model prog w) A c' R s') (fun e s' => R (.error e) s') s := by
  show wpAny _ _ (do let old ← Builtin.List.listItems (.ref S); Builtin.List.listUpdate (.ref S) (fun _ => #[]); letGo old.toList.reverse; Builtin.List.listExtendWith (.ref S) (.ref it) .none) _ _ s
  refine wpAny_bind ?_
  unfold Builtin.List.listItems
  refine wpAny_bind (wpAny_seqItems hS rfl (wpAny_pure ?_))
  show wpAny _ _ (updateSeq S (fun _ => #[]) >>= fun _ => letGo (#[] : Array Value).toList.reverse >>= fun _ => Builtin.List.listExtendWith (.ref S) (.ref it) .none) _ _ s
  refine wpAny_bind (wpAny_updateSeq hS rfl ?_)
  have hS₂ := Heap.get?_update_self (Obj.mapSeq (fun _ => (#[] : Array Value))) hS rfl
  have oth : ∀ b o, b ≠ S → s.heap.get? b = some o → (s.heap.update S (Obj.mapSeq (fun _ => (#[] : Array Value)))).get? b = some o :=
    fun b o hb e => (Heap.get?_update_other _ _ (Ne.symm hb)).trans e
  refine wpAny_bind (wpAny_letGo ?_)
  refine lrev_extend hh (hit.at fun o e => oth it o hSi.symm e) (hl.at fun o e => oth l o hSl.symm e) hne hn hSi hSl hS₂ (fun h' tk acc' c' hk hS' hacc => ?_)
  exact hR h' tk acc' c' (fun b o hb hb2 e => hk b o hb hb2 (oth b o hb e)) hS' hacc
theorem lrev_call {Q : Value → Shared → Prop} (hh : A.handled = none) (hit : s.heap.IsRevIter it l ((items.size : Int) - 1)) (hl : s.heap.IsList l items) (hne : l ≠ it) (hn : items.size ≤ sizeLine)
    (hQ : ∀ h' tk acc' c', (∀ b o, b ≠ it → s.heap.get? b = some o → h'.get? b = some o) → h'.get? s.heap.objs.size = some { cls := .type "list", dict := none, data := .seq acc' c', slots := #[] } →
      ItemsOf (fun i v => items[items.size - 1 - i]? = some v) acc' items.size → Q (.ref s.heap.objs.size) { s with heap := h', toks := tk }) :
    wpAny (model prog w) A (call (.type "list") [.ref it]) Q E s := by
  refine callType_codes (Q₁ := fun obj s₁ => obj = .ref s.heap.objs.size ∧ s₁ = { s with heap := s.heap.push { cls := .type "list", data := .seq #[] } }) PySem.F.called_list (PySem.F.typeCall_list_1 _) PySem.F.entry_list_init
    (code_list_new _ ⟨rfl, rfl⟩) fun obj s₁ h₁ => ?_
  obtain ⟨rfl, rfl⟩ := h₁
  have hS : (s.heap.push { cls := .type "list", data := .seq #[] }).get? s.heap.objs.size = some { cls := .type "list", data := .seq #[] } := Heap.get?_push_size _ rfl
  obtain ⟨oi, hoi, _⟩ := id hit
  obtain ⟨ol, hol, _⟩ := id hl
  refine ⟨⟨_, hS, rfl⟩, PySem.F.args_list_init_2 _ _, lrev_init (A := A.in1) hh (hit.at fun o e => Heap.get?_push_of_some _ e) (hl.push _) hne hn (Nat.ne_of_gt (Heap.lt_size hoi)) (Nat.ne_of_gt (Heap.lt_size hol)) hS (fun h' tk acc' c' hk hS' hacc => ?_)⟩
  exact ⟨rfl, hQ h' tk acc' c' (fun b o hb e => hk b o (Nat.ne_of_lt (Heap.lt_size e)) hb (Heap.get?_push_of_some _ e)) hS' hacc⟩
end
section
variable {X : Cx}
def tLstRev (K : PySem.W.Frag) (te : TE) : TE := fun σ H Q => te σ H fun v H1 => ∃ (a : Addr) (xs : List V), v = .ref a ∧ SqL K H1 a xs ∧ ∀ q, H1 q = none → Q (.ref q) (upd H1 q (.lst xs.reverse))
theorem pe_lstRev {e : Expr} {te : TE} {p p2 pos pos2 : Pos} (hc : X.calm = true) (hg : Gl X "list") (hm : X.mg "list" = none) (hg2 : Gl X "reversed") (hm2 : X.mg "reversed" = none) (he : PE X e te)
    (hs : starEach [e] X.env = (false, eval e X.env) :: starEach [] X.env := by rfl)
    (hs2 : starEach [.Call (.Name "reversed" p2) [e] [] pos2] X.env = (false, eval (.Call (.Name "reversed" p2) [e] [] pos2) X.env) :: starEach [] X.env := by rfl) :
    PE X (.Call (.Name "list" p) [.Call (.Name "reversed" p2) [e] [] pos2] [] pos) (tLstRev X.K te) := by
  constructor
  intro pins s σ H Q I h
  refine Call_ (ld_blt I hg hm boot_list (PyProof.Rows.callWith_type1 (args_cons (Call_ (ld_blt I hg2 hm2 PyProof.Rows.boot_reversed (PyProof.Rows.callWith_type1 (args_cons (thn (he.run pins s σ H _ I h) fun u s1 hv => args_nil ?_) hs) hs rfl))) hs2) hs2 rfl))
  obtain ⟨v, H1, I1, r1, a, xs, ev, hq, q⟩ := hv
  subst ev
  obtain rfl : u = Value.ref a := r1
  obtain ⟨its, rv, p', hz⟩ := I1.list hq
  refine call_reversed_list p'.isList (args_nil ?_)
  have k0 : ∀ b o, s1.heap.get? b = some o → (s1.heap.push (revObj a ((its.toArray.size : Int) - 1))).get? b = some o := fun b o e => Heap.get?_push_of_some _ e
  have I2 : Inv X pins σ H1 { s1 with heap := s1.heap.push (revObj a ((its.toArray.size : Int) - 1)) } := I1.kept (t' := s1.toks) k0
  obtain ⟨f0, f1, f2, f3, f4, f5⟩ := I1.fpOk (H' := H1) (b := s1.heap.objs.size) (Nat.le_refl _) (I1.hok.fresh (Nat.le_refl _))
  have hl := p'.isList
  obtain ⟨ol, hol, _⟩ := id hl
  have hne : a ≠ s1.heap.objs.size := Nat.ne_of_lt (Heap.lt_size hol)
  have hn : its.toArray.size ≤ sizeLine := by rw [List.size_toArray, ← rv.length]; exact hz
  refine lrev_call (s := { s1 with heap := s1.heap.push (revObj a ((its.toArray.size : Int) - 1)) }) (I1.ok.hd hc) ⟨_, Heap.get?_push_size _ rfl, rfl, rfl⟩ (hl.push _) hne hn fun h' tk acc c' hk hS hi => ?_
  have hsz : (s1.heap.push (revObj a ((its.toArray.size : Int) - 1))).objs.size = s1.heap.objs.size + 1 := Heap.size_push ..
  have f0' := f0
  refine ⟨.ref _, upd H1 (s1.heap.push (revObj a ((its.toArray.size : Int) - 1))).objs.size (.lst xs.reverse), Inv.turnedNew (t' := tk) (ch := [s1.heap.objs.size]) I2 (fun b o hb e => hk b o (fun z => hb (by simp [z])) e) (fun b hb => ?_) (Nat.le_refl _)
    (show ObjOk X.prog X.w _ _ _ (.lst xs.reverse) from ⟨by rw [List.length_reverse]; exact hz, acc.toList, c', vals_rev rv hi, by rw [Array.toArray_toList]; exact hS⟩), rfl, q _ (I2.hok.fresh (Nat.le_refl _))⟩
  have eb : b = s1.heap.objs.size := List.mem_singleton.mp hb
  rw [eb]
  exact ⟨f0, f1, f2, f3, f4, f5⟩
end
end K70
/-! x not in (a tuple of data); isinstance of a caught error, a tuple of classes; an empty tuple told by its object; dict(()); d.update({}). -/
namespace K70
open PySem PySem.Spec PyProof.Rows L2
section
variable {X : Cx}
def rNotInT (K : PySem.W.Frag) : R2 := fun x y H Q => ∃ d ds, Dp K H x d ∧ Dp K H y (.tuple ds) ∧ SeqAt.shaped d = true ∧ SeqAt.shaped (.tuple ds) = true ∧ Q (.bl (!ds.any fun z => PyData.eqv z d)) H
theorem op_notInT (hu : X.A.units + 65 < cLine) : OpR X (compareOp .NotIn) (rNotInT X.K) := by
  intro pins s σ H x y v u Q I rx ry h
  obtain ⟨d, ds, hd, he, sd, se, q⟩ := h
  obtain ⟨as, r1⟩ := Dp.reads I d x v hd rx
  obtain ⟨bs, r2⟩ := Dp.reads I (.tuple ds) y u he ry
  exact SeqAt.notIn_tuple_reads r2 r1 (SeqAt.canLay_of_shaped se) (SeqAt.canLay_of_shaped sd) (room_in_shaped sd hu) ⟨.bl _, H, I, rfl, q⟩
/-- isinstance(e, (C1, C2, ..)), e the error that the suite holds -/
def rIsET (K : PySem.W.Frag) (D a : Addr) : List V → Hp → VK → Prop := fun xs H Q => ∃ (tp : Addr) (cs : List V) (us : List Value) (b : Bool), xs = [.ref a, .ref tp] ∧ H tp = some (.tup cs) ∧ Paired ClsV cs us ∧ PySem.W.kitAny K (.ref D) us = some b ∧ Q (.bl b) H
theorem call_isET {a D : Addr} {oe : Obj} {pn : List (Addr × Obj)} (C : ExcC X.K D) (hz : Zc (.ref D) none oe) (hf : ∃ vs, oe.data = .fields vs) : CallR (X.suite a ((a, oe) :: pn)) (.builtin "isinstance") (rIsET X.K D a) := by
  intro pins s σ H xs us Q I r h
  obtain ⟨tp, cs, ws, b, rfl, hT, k, e, q⟩ := h
  obtain ⟨u1, u2, rfl, r1, r2⟩ := vals2 r
  cases r1
  cases r2
  obtain ⟨_, its, rv, o, h1, h2, n, h3⟩ := (show ObjOk X.prog X.w H s.heap tp (.tup cs) from I.hok tp _ hT)
  have e3 := ClsV.all k rv
  subst e3
  obtain ⟨oc, od, dt, sl⟩ := o
  simp only at h2 h3
  subst h2 h3
  obtain ⟨hget, _⟩ := I.pin (a, oe) (List.mem_append.mpr (.inl List.mem_cons_self))
  obtain ⟨vs, hv⟩ := hf
  have J : PySem.W.InstAt s.heap a oe D none := by
    obtain ⟨oc, od, oda, osl⟩ := oe
    obtain ⟨g1, g2⟩ := hz
    dsimp only at g1 g2 hv
    subst g1 g2 hv
    exact ⟨hget, rfl, rfl, trivial⟩
  exact PySem.W.kia_tup (PySem.W.handS_kitx_exc C.hg C.hk C.hs C.hd C.ha C.hn C.ht C.hm) I.kIn J h1 e (fun z => nomatch z) fun tk => ⟨.bl b, H, I.kept (t' := tk) fun _ _ z => z, rfl, q⟩
/-- the empty tuple's object -/
abbrev tupO : Obj := { cls := .type "tuple", data := .seq #[] }
def E0At (H : Hp) (a : Addr) : Prop := H a = some (.frz tupO (.tup []))
theorem E0At.seq {K : PySem.W.Frag} {H : Hp} {a : Addr} (h : E0At H a) : SqT K H a [] := .inl (.inr ⟨_, h⟩)
def tTup0 : TE := fun _ H Q => ∀ p, H p = none → Q (.ref p) (upd H p (.frz tupO (.tup [])))
theorem pe_tup0 {x1 : Nat} {pos : Pos} : PE X (.Tuple [] x1 pos) tTup0 := by
  constructor
  intro pins s σ H Q I q
  refine wpAny_Tuple_spliced (thn ((pa_nil (X := X)).run pos pins s σ H (fun vs H1 => vs = [] ∧ H1 = H) I ⟨rfl, rfl⟩) fun us s1 hr => ?_)
  obtain ⟨xs, H1, I1, r, ex, eH⟩ := hr
  subst ex eH
  cases r
  refine ⟨Nat.zero_le _, ?_⟩
  have hf : H1 s1.heap.objs.size = none := I1.hok.fresh (Nat.le_refl _)
  have ho : (s1.heap.push tupO).get? s1.heap.objs.size = some tupO := Heap.get?_push_size _ rfl
  exact ⟨.ref s1.heap.objs.size, upd H1 s1.heap.objs.size (.frz tupO (.tup [])), I1.laid (t' := s1.toks) (fun b u e => Heap.get?_push_of_some _ e) (Nat.le_refl _) ⟨ho, Nat.zero_le _, [], .nil, ⟨_, ho, rfl, _, rfl⟩⟩, rfl, q _ hf⟩
/-- dict(()) -/
def rDict0 : List V → Hp → VK → Prop := fun xs H Q => ∃ a, xs = [.ref a] ∧ E0At H a ∧ ∀ p, H p = none → Q (.ref p) (upd H p (.dK []))
theorem call_dict0 (hcalm : X.calm = true) : CallR X (.type "dict") rDict0 := by
  intro pins s σ H xs us Q I r h
  obtain ⟨a, rfl, ha, q⟩ := h
  obtain ⟨u, eu, rx⟩ := vals1 r
  subst eu
  cases rx
  have ho : s.heap.get? a = some tupO := (I.hok a _ ha).1
  refine PySem.call_dict_pairs (knd := mixKind X.prog X.w) (kvs := []) (PySem.PairArg.tuple a #[] (fun _ => 0) []) (I.ok.hd hcalm) ⟨⟨tupO, 0, ho, rfl, rfl, rfl⟩, rfl, fun j k v e => by simp at e⟩ ⟨rfl, fun i k v e => by simp [PySem.PairRel] at e⟩ (Nat.zero_le _) fun h' tk hd' hk => ?_
  have hm : (s.heap.objs.size == sysModules) = false := beq_eq_false_iff_ne.mpr (Nat.ne_of_gt I.big)
  exact ⟨.ref s.heap.objs.size, upd H s.heap.objs.size (.dK []), I.laid (t' := tk) (fun b o e => hk b o (by simp) e) (Nat.le_refl _) (show ObjOk X.prog X.w _ _ _ (.dK []) from ⟨Nat.zero_le _, hm, [], .nil, hd'⟩), rfl, q _ (I.hok.fresh (Nat.le_refl _))⟩
/-- d.update(e), e an empty dict -/
def rUpd0 : V → List V → Hp → VK → Prop := fun x vs H Q => ∃ (a b : Addr) (kvs : List (Key × V)), x = .ref a ∧ vs = [.ref b] ∧ a ≠ b ∧ H a = some (.dK kvs) ∧ H b = some (.dK []) ∧ Q .non H
theorem upd_id {H : Hp} {a : Addr} {o : HO} (h : H a = some o) : upd H a o = H := by
  funext b
  by_cases e : b = a
  · subst e; rw [upd_same, h]
  · rw [upd_ne e]
theorem mt_upd0 : MtR X "dict.update" rUpd0 := by
  intro pins s σ H x xs v us Q I rx rxs h
  obtain ⟨a, b, kvs, rfl, rfl, hab, ha, hb, q⟩ := h
  cases rx
  obtain ⟨u, eu, ry⟩ := vals1 rxs
  subst eu
  cases ry
  obtain ⟨za, da, vs, ra, dda⟩ := dk_of I.hok ha
  obtain ⟨zb, db, ws, rb, ddb⟩ := dk_of I.hok hb
  cases rb
  refine call_meetsIn PySem.F.slot_dict_update dda.typeIs PySem.F.entry_dict_update (PySem.F.args_dict_update_2 _ _) (meets_dict_update (mixKind X.prog X.w) a b hab db) ⟨vs, [], dda, ddb, (by rw [← ra.length]; simpa using za), fun h' dd' _ hs => ?_⟩
  have he : ∃ q, h'.get? a = some q := let ⟨q, _, _, hq, _⟩ := dd'; ⟨q, hq⟩
  have I2 := d_write (t' := s.toks) (ob := .dK kvs) I (by rw [ha]; exact True.intro) hs he (dk_new za da ra dd')
  rw [upd_id ha] at I2
  exact ⟨.non, H, I2, rfl, q⟩
end
end K70
/-! sets of texts: set(list of texts), sorted(set of texts). -/
namespace K70
open PySem PySem.Spec PyProof.Rows L2
def txKey (e : Int × Value) : Str := match e.2 with | .str x _ => x | _ => Str.empty
def TxE (w : World) (e : Int × Value) : Prop := ∃ x tk, e.2 = Value.str x tk ∧ e.1 = hashStr w x
/-- the set at a holds just the texts of xs; its table can be walked -/
def TxR (w : World) (h : Heap) (a : Addr) (xs : List Str) : Prop :=
  ∃ o es ep t, h.get? a = some o ∧ o.ExactSet ∧ o.data = .set es ep t ∧ (∀ e ∈ es.toList, TxE w e) ∧ (es.toList.map txKey).Nodup ∧ (∀ k, k ∈ xs ↔ k ∈ es.toList.map txKey) ∧
    es.size < scanBound ∧ t.fits es.size = true ∧ es.size ≤ xs.length ∧ Ris t.place.toList ∧ (w.params.followText "set-order" = true ∨ t.led = true)
section
variable {P : Program} {w : World} {h h' : Heap} {a : Addr} {xs : List Str}
theorem TxR.at (R : TxR w h a xs) (k : ∀ o, h.get? a = some o → h'.get? a = some o) : TxR w h' a xs := by
  obtain ⟨o, es, ep, t, ho, r⟩ := R
  exact ⟨o, es, ep, t, k o ho, r⟩
theorem tx_elems {l : List (Int × Value)} (g : ∀ e ∈ l, TxE w e) : ElemsOf (PySem.strKind P w) l := fun e he => by
  obtain ⟨x, tk, h1, h2⟩ := g e he
  exact ⟨⟨x, by rw [h1]; exact strKind_is P w x tk, h2⟩, by rw [h1] <;> rfl⟩
theorem tx_is {e : Int × Value} (g : TxE w e) (k : Str) : (PySem.strKind P w).is k e.2 = true ↔ txKey e = k := by
  obtain ⟨x, tk, h1, _⟩ := g
  unfold txKey
  rw [h1]
  constructor
  · intro q
    obtain ⟨u, q2⟩ := Value.isStrOf_shape (show Value.isStrOf k (Value.str x tk) = true from q)
    injection q2
  · intro q
    subst q
    exact strKind_is P w x tk
theorem tx_mem {l : List (Int × Value)} (g : ∀ e ∈ l, TxE w e) (k : Str) : k ∈ l.map txKey ↔ ∃ e ∈ l, (PySem.strKind P w).is k e.2 = true := by
  rw [List.mem_map]
  exact ⟨fun ⟨e, he, q⟩ => ⟨e, he, (tx_is (g e he) k).2 q⟩, fun ⟨e, he, q⟩ => ⟨e, he, (tx_is (g e he) k).1 q⟩⟩
end
section
variable {P : Program} {w : World} {A : Around} {E : Value → Shared → Prop} {s : Shared} {a : Addr} {xs : List Str}
theorem tx_tail {g : Bool → Sem Unit} (hg : ∀ (b : Bool) (s₁ : Shared) (Q' : Unit → Shared → Prop), Q' () s₁ → wpAny (model P w) A (g b) Q' E s₁)
    {o : Obj} {es : Array (Int × Value)} {ep : Nat} {t : SetTable} (ho : s.heap.get? a = some o) (hex : o.ExactSet) (hd : o.data = .set es ep t)
    {es1 : Array (Int × Value)} {t2 : SetTable} {ys : List Str} (g1 : ∀ e ∈ es1.toList, TxE w e) (nd1 : (es1.toList.map txKey).Nodup) (m1 : ∀ k, k ∈ ys ↔ k ∈ es1.toList.map txKey)
    (hb1 : es1.size < scanBound) (hf2 : t2.fits es1.size = true) (hn : es1.size ≤ ys.length) (hr : Ris t2.place.toList) (hl : w.params.followText "set-order" = true ∨ t2.led = true) {wasDummy : Bool} {R : Option Bool → Shared → Prop}
    (hR : ∀ h', Heap.SameBut a s.heap h' → TxR w h' a ys → R (some true) { s with heap := h' }) :
    wpAny (model P w) A (do
        storeSet a es1 t2
        if (!wasDummy && t2.tooFull) = true then do
            g (relayAll t2 es1 (SetTable.grown es1.size)).2.2
            storeSet a (relayAll t2 es1 (SetTable.grown es1.size)).1 (relayAll t2 es1 (SetTable.grown es1.size)).2.1
            pure (some true)
          else pure (some true)) R E s := by
  refine wpAny_bind (wpAny_storeSet_of ho hd ?_ (fits_of_scanBound hb1))
  have ho1 := store_at (es' := es1) (t' := t2) ho hd
  have sb1 := Heap.SameBut.update s.heap a (Obj.putSet es1 t2)
  split
  · have pm := relayAll_perm t2 es1 (SetTable.grown es1.size)
    have hf3 := relayAll_fits t2 es1 (SetTable.grown es1.size)
    have hr3 := relayAll_ris t2 es1 (SetTable.grown es1.size)
    have hl3 := relayAll_led t2 es1 (SetTable.grown es1.size)
    generalize relayAll t2 es1 (SetTable.grown es1.size) = Z at pm hf3 hr3 hl3 ⊢
    obtain ⟨es2, t3, gave⟩ := Z
    dsimp only at pm hf3 hr3 hl3 ⊢
    have hsz : es2.size = es1.size := by rw [← Array.length_toList, pm.length_eq, Array.length_toList]
    refine wpAny_bind (hg _ _ _ ?_)
    refine wpAny_bind (wpAny_storeSet_of ho1 rfl ?_ (fits_of_scanBound (by rw [hsz]; exact hb1)))
    have ho2 := store_at (es' := es2) (t' := t3) ho1 rfl
    refine wpAny_pure (hR _ (sb1.trans (Heap.SameBut.update _ a _)) ?_)
    exact ⟨_, es2, _, t3, ho2, hex, rfl, fun e he => g1 e (pm.mem_iff.mp he), (pm.map txKey).nodup_iff.mpr nd1, fun k => (m1 k).trans (pm.map txKey).mem_iff.symm, by rw [hsz]; exact hb1, hf3, by rw [hsz]; exact hn, hr3,
      hl.imp id fun z => by rw [hl3]; exact z⟩
  · exact wpAny_pure (hR _ sb1 ⟨_, es1, _, t2, ho1, hex, rfl, g1, nd1, m1, hb1, hf2, hn, hr, hl⟩)
theorem tx_add {k : Str} {tk : Tok} {Q : Bool → Shared → Prop} (R : TxR w s.heap a xs) (room : xs.length + 1 < scanBound)
    (hQ : ∀ h' b, Heap.SameBut a s.heap h' → TxR w h' a (xs ++ [k]) → Q b { s with heap := h' }) :
    wpAny (model P w) A (setAddHashed a (.str k tk) ((PySem.strKind P w).hash k)) Q E s := by
  obtain ⟨o, es, ep, t, ho, hex, hd, g, nd, hm, hb, hf, hn, hr, hl⟩ := R
  have hkey : (PySem.strKind P w).is k (.str k tk) = true := strKind_is P w k tk
  have hsc : (Value.str k tk).scannable = true := rfl
  have hel : ElemsOf (PySem.strKind P w) es.toList := tx_elems g
  unfold setAddHashed setAddHashedIn
  refine wpAny_holding (wpAny_bind (wpAny_setState_of ho hd hf ?_))
  dsimp only
  rw [byScan_of hsc hb hel]
  simp only [↓reduceIte]
  unfold setAddByScan
  refine wpAny_bind ?_
  refine wpAny_bind (wpAny_rule ?_)
  refine wpAny_bind (wpAny_setScan_of hkey ho hd hf hel ?_)
  cases hfi : List.findIdx? (fun e => (PySem.strKind P w).is k e.2) es.toList with
  | some j =>
    dsimp only
    obtain ⟨hj, pj, _⟩ := List.findIdx?_eq_some_iff_getElem.mp hfi
    have hk : k ∈ es.toList.map txKey := (tx_mem (P := P) (w := w) g k).2 ⟨es.toList[j], List.getElem_mem hj, pj⟩
    refine wpAny_pure (wpAny_pure ?_)
    refine hQ s.heap _ (Heap.SameBut.refl a s.heap) ⟨o, es, ep, t, ho, hex, hd, g, nd, fun i => ?_, hb, hf, ?_, hr, hl⟩
    · rw [List.mem_append, List.mem_singleton, ← hm i]
      exact ⟨fun z => z.elim id (fun e => e ▸ (hm k).2 hk), .inl⟩
    · rw [List.length_append, List.length_singleton]
      exact Nat.le_succ_of_le hn
  | none =>
    dsimp only
    have hnk : k ∉ es.toList.map txKey := fun z => by
      obtain ⟨e, he, q⟩ := (tx_mem (P := P) (w := w) g k).1 z
      have c := List.findIdx?_eq_none_iff.mp hfi e he
      rw [q] at c
      cases c
    have hgw : ∀ (b : Bool) {s₁ : Shared} {Q' : Unit → Shared → Prop}, Q' () s₁ → wpAny (model P w) A (match b with | true => rule "set.scan.the-table-gave-way" | false => pure ()) Q' E s₁ :=
      fun b s₁ Q' q => by cases b <;> first | exact wpAny_pure q | exact wpAny_rule q
    have pm := layNew_perm t es ((PySem.strKind P w).hash k) (.str k tk)
    have hf1 := layNew_fits t es ((PySem.strKind P w).hash k) (.str k tk)
    have hr1 := layNew_ris t es ((PySem.strKind P w).hash k) (.str k tk) hr
    have hl1 := layNew_led t es ((PySem.strKind P w).hash k) (.str k tk)
    generalize layNew t es ((PySem.strKind P w).hash k) (.str k tk) = Z at pm hf1 hr1 hl1 ⊢
    obtain ⟨es1, t1, wasDummy, gave⟩ := Z
    dsimp only at pm hf1 hr1 hl1 ⊢
    rw [Array.toList_push] at pm
    have pc : es1.toList.Perm (((PySem.strKind P w).hash k, Value.str k tk) :: es.toList) := pm.trans (List.perm_append_singleton _ _)
    have pk : (es1.toList.map txKey).Perm (k :: es.toList.map txKey) := pc.map txKey
    have g1 : ∀ e ∈ es1.toList, TxE w e := fun e he => by
      rcases List.mem_cons.mp (pc.mem_iff.mp he) with z | z
      · rw [z]; exact ⟨k, tk, rfl, rfl⟩
      · exact g e z
    have nd1 : (es1.toList.map txKey).Nodup := pk.nodup_iff.mpr (List.nodup_cons.mpr ⟨hnk, nd⟩)
    have m1 : ∀ i, i ∈ xs ++ [k] ↔ i ∈ es1.toList.map txKey := fun i => by
      rw [List.mem_append, List.mem_singleton, hm i, pk.mem_iff, List.mem_cons]
      exact Or.comm
    have hsz : es1.size = es.size + 1 := by rw [← Array.length_toList, pc.length_eq, List.length_cons, Array.length_toList]
    have hb1 : es1.size < scanBound := by rw [hsz]; omega
    have hn1 : es1.size ≤ (xs ++ [k]).length := by rw [hsz, List.length_append, List.length_singleton]; omega
    have hled : w.params.followText "set-order" = true ∨ t1.led = true := hl.imp id fun z => by rw [hl1]; exact z
    refine wpAny_bind (hgw _ ?_)
    split
    · refine wpAny_bind ?_
      rw [hashByValue_scannable 8 hsc]
      refine wpAny_pure ?_
      refine tx_tail ?_ ho hex hd g1 nd1 m1 hb1 ?_ hn1 ?_ ?_ ?_
      · intro b s₁ Q' q; cases b <;> first | exact wpAny_pure q | exact wpAny_rule q
      · first | (split <;> first | exact hf1 | exact SetTable.fits_plain_off hf1) | exact hf1
      · first | (split <;> exact hr1) | exact hr1
      · first | (split <;> exact hled) | exact hled
      · intro h' sb r; dsimp only; exact wpAny_pure (hQ h' _ sb r)
    · refine wpAny_bind (wpAny_pure ?_)
      simp only [↓reduceIte]
      refine tx_tail ?_ ho hex hd g1 nd1 m1 hb1 hf1 hn1 hr1 hled ?_
      · intro b s₁ Q' q; cases b <;> first | exact wpAny_pure q | exact wpAny_rule q
      · intro h' sb r; dsimp only; exact wpAny_pure (hQ h' _ sb r)
theorem tx_fresh {h : Heap} (w : World) : TxR w (h.push { cls := .type "set", dict := none, data := .set #[] 0 (.fresh 0 0 (!w.params.followText "set-order")) }) h.objs.size [] :=
  ⟨_, #[], 0, _, Heap.get?_push_size _ rfl, ⟨rfl, rfl, rfl⟩, rfl, (fun e he => by simp at he), (by simp), (fun k => by simp), (by decide), (by rfl), Nat.le_refl _, List.Pairwise.nil, by
    show _ ∨ (!w.params.followText "set-order") = true
    cases w.params.followText "set-order"
    · exact .inr rfl
    · exact .inl rfl⟩
end
/-! ### the loop of set.update -/
section
variable {prog : Program} {w : World} {A : Around} {R : Result → Shared → Prop} {I : Addr} {fp wr : List Addr} {G : Array GenState → Array GenState → Prop} {n : Nat} {P : Nat → Value → Prop} {St : Nat → Shared → Prop}
theorem tx_loop (W : WalksS prog w A.in1 I fp wr G n P St) (S : Addr) (hSf : S ∉ fp) (xs : List Str) (hsz : xs.length = n) (hb : n + 1 < scanBound)
    (hval : ∀ i v, P i v → ∃ t, v = .str (xs.getD i Str.empty) t) :
    ∀ (k i : Nat) (s : Shared), n - i = k → i ≤ n → St i s → TxR w s.heap S (xs.take i) →
      (∀ s', Moved (S :: wr) G s s' → TxR w s'.heap S xs → R (.ok (.ret .none)) s') →
      codeAny (model prog w) A (.builtin "set.update.loop" ⟨[.ref S, .ref I], []⟩) R s := by
  have hSw : S ∉ wr := fun h => hSf (W.sub _ h)
  have hsub : ∀ b ∈ wr, b ∈ S :: wr := fun b hb => List.mem_cons_of_mem _ hb
  intro k
  induction k with
  | zero =>
    intro i s hk hi hst hS hR
    have hin : i = n := by omega
    subst hin
    refine codeAny_builtin PyProof.Rows.F.entry_set_update_loop ?_; rw [Around.under_plainId PyProof.Rows.F.plain_set_update_loop _]
    show wpAny _ A.in1 (pyNext (.ref I) >>= _) _ _ s
    refine wpAny_bind (W.done s _ _ hst fun s' hm => ?_)
    show wpAny _ A.in1 (ret Value.none) _ _ s'
    rw [List.take_of_length_le (Nat.le_of_eq hsz)] at hS
    exact wpAny_pure (hR s' (hm.mono hsub) (hS.at fun o e => hm.heap S _ hSw e))
  | succ k ih =>
    intro i s hk hi hst hS hR
    have hlt : i < n := by omega
    refine codeAny_builtin PyProof.Rows.F.entry_set_update_loop ?_; rw [Around.under_plainId PyProof.Rows.F.plain_set_update_loop _]
    show wpAny _ A.in1 (pyNext (.ref I) >>= _) _ _ s
    refine wpAny_bind (W.item i s _ _ hlt hst fun v s' hP hst' hm => ?_)
    obtain ⟨t, rfl⟩ := hval i v hP
    have hS' : TxR w s'.heap S (xs.take i) := hS.at fun o e => hm.heap S _ hSw e
    show wpAny _ A.in1 (holding [Value.str (xs.getD i Str.empty) t] (setAdd S (.str (xs.getD i Str.empty) t)) >>= _) _ _ s'
    refine wpAny_bind (wpAny_holding ?_)
    unfold setAdd
    refine wpAny_holding ?_
    refine wpAny_bind ((PySem.strKind prog w).pyHash (k := xs.getD i Str.empty) (strKind_is _ _ _ _) ?_)
    refine tx_add (s := { s' with toks := s'.toks + 1 }) hS' (by rw [List.length_take]; omega) fun h' b hsb hS2 => ?_
    have e1 : xs.take i ++ [xs.getD i Str.empty] = xs.take (i + 1) := by
      rw [List.take_add_one, List.getD_eq_getElem?_getD, List.getElem?_eq_getElem (by omega)]
      rfl
    rw [e1] at hS2
    refine wpAny_pure ⟨plainId_quiet PyProof.Rows.F.plain_set_update_loop _, ih (i + 1) _ (by omega) hlt (W.frame _ s' _ _ hst' (Nat.le_succ _) fun b hb o e => ?_) hS2 fun s'' hm'' hS'' => ?_⟩
    · rw [hsb.2 b (fun h : b = S => hSf (by rw [← h]; exact hb))]; exact e
    · refine hR s'' (Moved.trans W.gtrans ((hm.mono hsub).then_heap (Nat.le_succ _) fun b o hb e => ?_) hm'') hS''
      rw [hsb.2 b (fun h : b = S => hb (by rw [h]; exact List.mem_cons_self))]; exact e
end
end K70
namespace K70
open PySem PySem.Spec PyProof.Rows L2
abbrev newSetO (w : World) : Obj := { cls := .type "set", dict := none, data := .set #[] 0 (.fresh 0 0 (!w.params.followText "set-order")) }
section
variable {P : Program} {w : World} {A : Around} {E : Value → Shared → Prop} {s : Shared}
theorem tx_call_set {l : Addr} {items : Array Value} {xs : List Str} {Q : Value → Shared → Prop} (hh : A.handled = none) (hl : s.heap.IsList l items) (hi : StrsAre items.toList xs) (hfew : xs.length < 64)
    (h : ∀ (h' : Heap) (tk : Nat), TxR w h' s.heap.objs.size xs → (∀ b o, s.heap.get? b = some o → h'.get? b = some o) → Q (.ref s.heap.objs.size) { s with heap := h', toks := tk }) :
    wpAny (model P w) A (call (.type "set") [.ref l]) Q E s := by
  have hisz : items.size = xs.length := by rw [← StrsAre.len_eq hi, Array.length_toList]
  obtain ⟨c, tl, hmro⟩ := F.called_set.mro
  have hmade := F.called_set.made
  have hsub := F.called_set.sub
  refine wpAny_call (codeAny_of_tree ?_)
  show wpAny _ _ (callAny (.type "set") _) _ _ _
  refine wpAny_pure ⟨Code.quiet_builtin _ (by decide +kernel), codeAny_builtin F.entry_type_call ?_⟩
  rw [Around.under_plain (weight_type_call_type "set" [.ref l] []) rfl]
  have h1 := F.called_set.notType
  have h2 := F.called_set.canCreate
  have hct := F.typeCall_set_1 (.ref l)
  repeat (any_goals (first | assumption | wp_step))
  refine codeAny_mono (code_set_led1 (.ref l) (E := E) (Q₁ := fun obj s₁ => obj = .ref s.heap.objs.size ∧ s₁ = { s with heap := s.heap.push (newSetO w) }) ⟨rfl, rfl⟩) fun r s₁ hr => ?_
  cases r with
  | error e => exact hr
  | ok fl =>
    cases fl with
    | ret obj =>
      obtain ⟨rfl, rfl⟩ := hr
      have hS : (s.heap.push (newSetO w)).get? s.heap.objs.size = some (newSetO w) := Heap.get?_push_size _ rfl
      have hT : Shared.TypeIs { s with heap := s.heap.push (newSetO w) } (.ref s.heap.objs.size) "set" := ⟨_, hS, rfl⟩
      have hli := F.called_set.init.lookup
      have hbi := F.called_set.init.bind (.ref s.heap.objs.size)
      repeat (any_goals (first | assumption | wp_step))
      refine codeAny_mono (codeAny_call_builtin (R := wants (fun r s₂ => r = .none ∧ ∃ h' tk, s₂ = { s with heap := h', toks := tk } ∧ TxR w h' s.heap.objs.size xs ∧
          (∀ b o, s.heap.get? b = some o → h'.get? b = some o)) E) F.called_set.init.plain F.entry_set_init (check_set_init_1 hT ?_)) fun r₂ s₂ hr₂ => ?_
      · obtain ⟨ol, hol, hcl, nl, hdl⟩ := hl
        obtain ⟨ocls, odict, odata, oslots⟩ := ol
        simp only at hcl hdl
        subst hcl; subst hdl
        have hol' : (s.heap.push (newSetO w)).get? l = some { cls := .type "list", dict := odict, data := .seq items nl, slots := oslots } := Heap.get?_push_of_some _ hol
        have hsls := F.sub_list_set
        have hslf := F.sub_list_frozenset
        have hne : (Value.type "list" == Value.type "dict") = false := by decide
        have hl1 : (s.heap.push (newSetO w)).IsList l items := ⟨_, hol', rfl, nl, rfl⟩
        unfold Builtin.«set.__init__» noKeywords Builtin.Frozenset.updateFrom
        generalize hPI : pyIter = PI
        wp_walk
        subst hPI
        refine wpAny_pyIter_list hl1 ?_
        refine wpAny_bind (wpAny_runValue ?_)
        have hlS : l < s.heap.objs.size := Heap.lt_size hol
        have hh3 : A.in1.in1.in1.handled = none := by simp [hh]
        have hneI : l ≠ (s.heap.push (newSetO w)).objs.size := by
          rw [Heap.size_push]; exact Nat.ne_of_lt (Nat.lt_succ_of_lt hlS)
        have hSf : s.heap.objs.size ∉ [(s.heap.push (newSetO w)).objs.size, l] := by
          rw [Heap.size_push]; simp only [List.mem_cons, List.mem_singleton, List.not_mem_nil, or_false, not_or]
          exact ⟨Nat.ne_of_lt (Nat.lt_succ_self _), Nat.ne_of_gt hlS⟩
        have hval : ∀ (i : Nat) (v : Value), items[i]? = some v → ∃ t, v = .str (xs.getD i Str.empty) t := fun i v hv => SS.strs_at hi i v (by rw [Array.getElem?_toList]; exact hv)
        refine tx_loop ((Walks.list hh3 _ l hneI items).toS) s.heap.objs.size hSf xs hisz.symm (by rw [hisz]; unfold scanBound; omega) hval (items.size - 0) 0 _ (by omega) (Nat.zero_le _)
          ⟨⟨_, Heap.get?_push_size _ rfl, rfl, rfl⟩, (hl1.push _)⟩ ((tx_fresh w).at fun o e => Heap.get?_push_of_some _ e) ?hR
        case hR =>
          intro s' hm hS'
          obtain ⟨h', g2, d', tk', os'⟩ := s'
          have eg : g2 = s.gens := hm.gens
          have ed : d' = s.drawn := hm.drawn
          have eo : os' = s.os := hm.os
          subst eg; subst ed; subst eo
          show wpAny _ _ _ _ _ _
          refine wpAny_pure ?_
          show wpAny _ _ (ret Value.none) _ _ _
          refine wpAny_pure ⟨rfl, h', tk', rfl, hS', fun b o e => ?_⟩
          have hlt := Heap.lt_size e
          refine hm.heap b o ?_ (Heap.get?_push_of_some _ (Heap.get?_push_of_some _ e))
          simp only [List.mem_cons, List.mem_singleton, List.not_mem_nil, or_false, not_or]
          exact ⟨Nat.ne_of_lt hlt, by rw [Heap.size_push]; exact Nat.ne_of_lt (Nat.lt_succ_of_lt hlt)⟩
      · cases r₂ with
        | error e => exact hr₂
        | ok fl₂ =>
          cases fl₂ with
          | ret r =>
            obtain ⟨rfl, h', tk, rfl, hS', hk'⟩ := hr₂
            repeat (any_goals (first | assumption | wp_step))
            exact h _ _ hS' hk'
          | _ => exact hr₂.elim
    | _ => exact hr.elim
theorem tx_strs : ∀ (l : List Value), (∀ v ∈ l, ∃ x tk, v = Value.str x tk) → StrsAre l (l.map fun v => match v with | .str x _ => x | _ => Str.empty)
  | [], _ => .nil
  | v :: l, h => by
    obtain ⟨x, tk, rfl⟩ := h v List.mem_cons_self
    exact .cons x tk (tx_strs l fun u hu => h u (List.mem_cons_of_mem _ hu))
theorem tx_sorted {a : Addr} {xs : List Str} {Q : Value → Shared → Prop} (R : TxR w s.heap a xs) (hh : A.handled = none) (h64 : xs.length < 64)
    (hQ : ∀ s' p (out : Array Value) (c : Nat) (ys : List Str), (∀ b o, s.heap.get? b = some o → s'.heap.get? b = some o) → s'.gens = s.gens → s'.os = s.os → s.heap.objs.size ≤ p →
      s'.heap.get? p = some (seqObj "list" out c) → StrsAre out.toList ys → ys.Nodup → (∀ k, k ∈ ys ↔ k ∈ xs) → ys.length ≤ xs.length → Q (.ref p) s') :
    wpAny (model P w) A (call (.builtin "sorted") [.ref a]) Q E s := by
  obtain ⟨o, es, ep, t, ho, hex, hd, g, nd, hm, hb, hf, hn, hr, hl⟩ := R
  refine Calls.call_function_entry kind_sorted plain_sorted entry_sorted (args_sorted1 _) ?_
  unfold Builtin.«sorted»
  refine wpAny_bind (m := checkCount "sorted" 1 1 _) (wpAny_pure ?_)
  refine wpAny_bind (collect_set (A := A.in1) hh ⟨o, ho, hex.1, hd⟩ hf hb hr hl fun s1 vs k1 hz g1 o1 pm => ?_)
  have hvl : vs.length = es.size := by rw [pm.length_eq, List.length_map, Array.length_toList]
  have hI := tx_strs vs fun v hv => by
    obtain ⟨e, he, q⟩ := List.mem_map.mp (pm.mem_iff.mp hv)
    obtain ⟨k, tk, h1, _⟩ := g e he
    exact ⟨k, tk, by rw [← q]; exact h1⟩
  have pk : (vs.map fun v => match v with | .str x _ => x | _ => Str.empty).Perm (es.toList.map txKey) := by
    have q := pm.map (fun v => match v with | .str x _ => x | _ => Str.empty)
    rw [List.map_map] at q
    exact q
  refine wpAny_bind (wpAny_newList ?_ (by rw [hvl, sizeLine_eq]; omega))
  have hoL : (s1.heap.push (seqObj "list" vs.toArray 0)).get? s1.heap.objs.size = some (seqObj "list" vs.toArray 0) := Heap.get?_push_size _ rfl
  refine wpAny_bind (wpAny_holding (wpAny_call_entry slot_list_sort ⟨_, hoL, rfl⟩ entry_list_sort
    (list_sort_treeK strKind_oneLt hoL hI.keysOf (fun v₁ v₂ rest e => keyKind_strs (by rw [← e]; exact hI)) (by rw [hvl]; omega) fun st' hp hs => ⟨_, rfl, ?_⟩) (args_list_sort _)))
  obtain ⟨ys, a1, a2, _⟩ := sorted_out_str hI hp hs
  obtain ⟨c, hc⟩ := sortedHeap_at (vs := vs) (out := (arrOf st').map (·.2)) hoL
  have pn := a2.trans pk
  refine wpAny_pure ⟨_, rfl, hQ _ s1.heap.objs.size _ c ys (fun b u e => ?_) g1 o1 hz hc a1 (pn.nodup_iff.mpr nd) (fun k => by rw [pn.mem_iff, ← hm k]) ?_⟩
  · have q := k1 b u e
    have hlt := Heap.lt_size q
    show (sortedHeap (s1.heap.push (seqObj "list" vs.toArray 0)) s1.heap.objs.size vs _).get? b = some u
    rw [sortedHeap_old (Nat.ne_of_lt hlt) (by rw [size_push']; exact Nat.lt_succ_of_lt hlt)]
    exact Heap.get?_push_of_some _ q
  · rw [pn.length_eq, List.length_map, Array.length_toList]; exact hn
end
/-! ### the rules -/
def TxO (w : World) (a : Addr) (xs : List Str) : HO := .ext fun h => TxR w h a xs
section
variable {X : Cx}
theorem txO_new {w : World} {P : Program} {H : Hp} {h : Heap} {a : Addr} {xs : List Str} (R : TxR w h a xs) : ObjOk P w H h a (TxO w a xs) := by
  have ⟨o, _, _, _, ho, _⟩ := R
  exact ⟨R, ⟨o, ho⟩, fun h1 h2 p k => p.at k⟩
def rSetTx (K : PySem.W.Frag) (w : World) : List V → Hp → VK → Prop := fun vs H Q => ∃ (a : Addr) (xs : List Str), vs = [.ref a] ∧ SqL K H a (xs.map V.str) ∧ xs.length < 64 ∧ ∀ p, H p = none → Q (.ref p) (upd H p (TxO w p xs))
theorem cr_setTx (hc : X.calm = true) : CallR X (.type "set") (rSetTx X.K X.w) := by
  intro pins s σ H vs us Q I r h
  obtain ⟨a, xs, rfl, hs, hz, q⟩ := h
  obtain ⟨its, rv, hl, _⟩ := I.list hs
  rw [Vals.ref1 r]
  refine tx_call_set (I.ok.hd hc) hl.isList rv.strs hz fun h' tk R hk => ?_
  exact ⟨.ref s.heap.objs.size, upd H s.heap.objs.size (TxO X.w s.heap.objs.size xs), I.laid (t' := tk) hk (Nat.le_refl _) (txO_new R), rfl, q _ (I.hok.fresh (Nat.le_refl _))⟩
def rSortTx (w : World) : List V → Hp → VK → Prop := fun vs H Q => ∃ (a : Addr) (xs : List Str), vs = [.ref a] ∧ H a = some (TxO w a xs) ∧ xs.length < 64 ∧
  ∀ (ys : List Str) (p : Addr), ys.Nodup → (∀ k, k ∈ ys ↔ k ∈ xs) → H p = none → Q (.ref p) (upd H p (.lst (ys.map V.str)))
theorem cr_sortTx (hc : X.calm = true) : CallR X (.builtin "sorted") (rSortTx X.w) := by
  intro pins s σ H vs us Q I r h
  obtain ⟨a, xs, rfl, ha, h64, q⟩ := h
  have R : TxR X.w s.heap a xs := (I.hok a _ ha).1
  rw [Vals.ref1 r]
  refine tx_sorted R (I.ok.hd hc) h64 fun s' p out c ys k g o hp hg hi nd hm hl => ?_
  have hlen : (ys.map V.str).length ≤ sizeLine := by rw [List.length_map, sizeLine_eq]; omega
  have hn : H p = none := I.hok.fresh hp
  have J : Inv X pins σ (upd H p (.lst (ys.map V.str))) { s with heap := s'.heap, gens := s'.gens, drawn := s'.drawn, toks := s'.toks } :=
    I.call (ch := []) (Un.laid k hp hn) (I.hok.laid k hp ⟨hlen, out.toList, c, vals_of_strs hi, hg⟩) (by rw [g]; exact I.bare) (fun _ z => nomatch z)
  have e : s' = { s with heap := s'.heap, gens := s'.gens, drawn := s'.drawn, toks := s'.toks } := by
    cases s'
    cases s
    cases o
    rfl
  rw [e]
  exact ⟨.ref p, _, J, rfl, q ys p nd hm hn⟩
end
end K70
/-! The mirror's data: kinds and terms, how they stand in the heap. -/
namespace K70
open PySem PySem.Spec PyProof.Rows L2
/-! ### heaps: the tuples stay -/
def isT : HO → Bool
  | .tup _ => true
  | .frz _ (.tup _) => true
  | _ => false
/-- all tuples that stood still stand -/
def Tps (H H' : Hp) : Prop := ∀ b o, H b = some o → isT o = true → H' b = some o
theorem Tps.refl (H : Hp) : Tps H H := fun _ _ h _ => h
theorem Tps.trans {H H1 H2 : Hp} (a : Tps H H1) (b : Tps H1 H2) : Tps H H2 := fun c o h t => b c o (a c o h t) t
theorem tps {H H' : Hp} (s : Same H H') : Tps H H' := fun b o h _ => s b o h
theorem tps_mut {H : Hp} {p : Addr} {u o : HO} (h : H p = some u) (hu : isT u = false) : Tps H (upd H p o) := fun b v e t => by
  have hb : b ≠ p := fun z => by
    subst z
    rw [h] at e
    cases e
    rw [hu] at t
    cases t
  rw [upd_ne hb]
  exact e
theorem same_new {H : Hp} {p : Addr} (h : H p = none) (o : HO) : Same H (upd H p o) := fun b u q => by rw [upd_ne (ne_of_none q h)]; exact q
/-- what was made since H may change -/
theorem same_mut {H H' : Hp} {p : Addr} {o : HO} (s : Same H H') (h : H p = none) : Same H (upd H' p o) := fun b u q => by rw [upd_ne (ne_of_none q h)]; exact s b u q
theorem Tps.seq {K : PySem.W.Frag} {H H' : Hp} {a : Addr} {xs : List V} (e : Tps H H') (h : SqT K H a xs) : SqT K H' a xs :=
  h.elim (fun h => .inl (h.elim (fun h => .inl (e _ _ h rfl)) fun ⟨o, h⟩ => .inr ⟨o, e _ _ h rfl⟩)) fun h => .inr h
theorem Tps.e0 {H H' : Hp} {a : Addr} (e : Tps H H') (h : E0At H a) : E0At H' a := e _ _ h rfl
/-! ### kinds -/
inductive Kd where
  | num | truth | pair (a b : Kd) | eith (a b : Kd) | fn (a b : Kd)
  deriving DecidableEq
namespace Kd
def word : Kd → Str
  | .num => "num" | .truth => "truth" | .pair _ _ => "pair" | .eith _ _ => "either" | .fn _ _ => "fun"
def subs : Kd → List Kd
  | .num => [] | .truth => [] | .pair a b => [a, b] | .eith a b => [a, b] | .fn a b => [a, b]
def enc : Kd → PyData
  | .num => .tuple [.str "num"]
  | .truth => .tuple [.str "truth"]
  | .pair a b => .tuple [.str "pair", a.enc, b.enc]
  | .eith a b => .tuple [.str "either", a.enc, b.enc]
  | .fn a b => .tuple [.str "fun", a.enc, b.enc]
def depth : Kd → Nat
  | .num => 1 | .truth => 1
  | .pair a b => max a.depth b.depth + 1
  | .eith a b => max a.depth b.depth + 1
  | .fn a b => max a.depth b.depth + 1
def isData : Kd → Bool
  | .num => true | .truth => true
  | .pair a b => a.isData && b.isData
  | .eith a b => a.isData && b.isData
  | .fn _ _ => false
theorem depth_pos (k : Kd) : 0 < k.depth := by cases k <;> simp [depth]
theorem sub_lt {k j : Kd} (h : j ∈ k.subs) : j.depth < k.depth := by
  cases k <;> simp [subs] at h <;> (rcases h with h | h <;> subst h <;> simp only [depth] <;> omega)
end Kd
inductive KdAt (K : PySem.W.Frag) (H : Hp) : V → Kd → Prop
  | num {a : Addr} : SqT K H a [.str "num"] → KdAt K H (.ref a) .num
  | truth {a : Addr} : SqT K H a [.str "truth"] → KdAt K H (.ref a) .truth
  | pair {a : Addr} {u v : V} {j k : Kd} : SqT K H a [.str "pair", u, v] → KdAt K H u j → KdAt K H v k → KdAt K H (.ref a) (.pair j k)
  | eith {a : Addr} {u v : V} {j k : Kd} : SqT K H a [.str "either", u, v] → KdAt K H u j → KdAt K H v k → KdAt K H (.ref a) (.eith j k)
  | fn {a : Addr} {u v : V} {j k : Kd} : SqT K H a [.str "fun", u, v] → KdAt K H u j → KdAt K H v k → KdAt K H (.ref a) (.fn j k)
section
variable {K : PySem.W.Frag} {H H' : Hp}
theorem KdAt.mono (e : Tps H H') {v : V} {k : Kd} (h : KdAt K H v k) : KdAt K H' v k := by
  induction h with
  | num s => exact .num (e.seq s)
  | truth s => exact .truth (e.seq s)
  | pair s _ _ i j => exact .pair (e.seq s) i j
  | eith s _ _ i j => exact .eith (e.seq s) i j
  | fn s _ _ i j => exact .fn (e.seq s) i j
theorem KdAt.same (e : Same H H') {v : V} {k : Kd} (h : KdAt K H v k) : KdAt K H' v k := h.mono (tps e)
theorem KdAt.dp {v : V} {k : Kd} (h : KdAt K H v k) : Dp K H v k.enc := by
  induction h with
  | num s => exact .tup s (.cons (.str _) .nil)
  | truth s => exact .tup s (.cons (.str _) .nil)
  | pair s _ _ i j => exact .tup s (.cons (.str _) (.cons i (.cons j .nil)))
  | eith s _ _ i j => exact .tup s (.cons (.str _) (.cons i (.cons j .nil)))
  | fn s _ _ i j => exact .tup s (.cons (.str _) (.cons i (.cons j .nil)))
/-- its word, then its kinds -/
theorem KdAt.view {v : V} {k : Kd} (h : KdAt K H v k) : ∃ (a : Addr) (xs : List V), v = .ref a ∧ SqT K H a (.str k.word :: xs) ∧ Paired (KdAt K H) xs k.subs := by
  cases h with
  | num s => exact ⟨_, _, rfl, s, .nil⟩
  | truth s => exact ⟨_, _, rfl, s, .nil⟩
  | pair s a b => exact ⟨_, _, rfl, s, .cons a (.cons b .nil)⟩
  | eith s a b => exact ⟨_, _, rfl, s, .cons a (.cons b .nil)⟩
  | fn s a b => exact ⟨_, _, rfl, s, .cons a (.cons b .nil)⟩
theorem KdAt.mk {a : Addr} {xs : List V} : ∀ {k : Kd}, SqT K H a (.str k.word :: xs) → Paired (KdAt K H) xs k.subs → KdAt K H (.ref a) k
  | .num, s, p => by cases p; exact .num s
  | .truth, s, p => by cases p; exact .truth s
  | .pair _ _, s, p => by
    cases p with
    | cons a p => cases p with
      | cons b p => cases p; exact .pair s a b
  | .eith _ _, s, p => by
    cases p with
    | cons a p => cases p with
      | cons b p => cases p; exact .eith s a b
  | .fn _ _, s, p => by
    cases p with
    | cons a p => cases p with
      | cons b p => cases p; exact .fn s a b
end
/-! ### terms: the ones of this law -/
inductive Tm where
  | nm | one | told | fn (t : Tm) | call (s t : Tm) | plus (s t : Tm) | pair (s t : Tm) | left (t : Tm)
  deriving DecidableEq
/-- what stands behind a term's word -/
inductive It where
  | x (s : Str) | t (t : Tm) | a (k : Kd) | d (k : Kd) | n (i : Int) | f
namespace Tm
def word : Tm → Str
  | .nm => "name" | .one => "num" | .told => "told" | .fn _ => "fun" | .call _ _ => "call" | .plus _ _ => "plus" | .pair _ _ => "pair" | .left _ => "left"
def form : Tm → Str
  | .nm => "x" | .one => "k" | .told => "xf" | .fn _ => "xat" | .call _ _ => "tt" | .plus _ _ => "tt" | .pair _ _ => "tt" | .left _ => "td"
def its : Tm → List It
  | .nm => [.x "x"] | .one => [.n 1] | .told => [.x "one", .f] | .fn t => [.x "x", .a .num, .t t] | .call s t => [.t s, .t t] | .plus s t => [.t s, .t t] | .pair s t => [.t s, .t t] | .left t => [.t t, .d .truth]
def inner : Tm → List Tm
  | .nm => [] | .one => [] | .told => [] | .fn t => [t] | .call s t => [s, t] | .plus s t => [s, t] | .pair s t => [s, t] | .left t => [t]
def enc : Tm → PyData
  | .nm => .tuple [.str "name", .str "x"]
  | .one => .tuple [.str "num", .int 1]
  | .told => .tuple [.str "told", .str "one", .tuple []]
  | .fn t => .tuple [.str "fun", .str "x", Kd.num.enc, t.enc]
  | .call s t => .tuple [.str "call", s.enc, t.enc]
  | .plus s t => .tuple [.str "plus", s.enc, t.enc]
  | .pair s t => .tuple [.str "pair", s.enc, t.enc]
  | .left t => .tuple [.str "left", t.enc, Kd.truth.enc]
def depth : Tm → Nat
  | .nm => 1 | .one => 1 | .told => 1 | .fn t => t.depth + 1 | .call s t => max s.depth t.depth + 1 | .plus s t => max s.depth t.depth + 1 | .pair s t => max s.depth t.depth + 1 | .left t => t.depth + 1
def parts : Tm → Nat
  | .nm => 1 | .one => 1 | .told => 1 | .fn t => 1 + t.parts | .call s t => 1 + s.parts + t.parts | .plus s t => 1 + s.parts + t.parts | .pair s t => 1 + s.parts + t.parts | .left t => 1 + t.parts
theorem depth_pos (t : Tm) : 0 < t.depth := by cases t <;> simp [depth]
theorem inner_lt {t s : Tm} (h : s ∈ t.inner) : s.depth < t.depth := by
  cases t <;> simp [inner] at h <;> (first | (rcases h with h | h <;> subst h <;> simp only [depth] <;> omega) | (subst h; simp only [depth]; omega))
end Tm
def It.sign : It → Nat
  | .x _ => 120 | .t _ => 116 | .a _ => 97 | .d _ => 100 | .n _ => 107 | .f => 102
theorem cps_tt : ("tt" : Str).cps = #[116, 116] := by decide +kernel
theorem form_cps : ∀ t : Tm, t.form.cps = (t.its.map It.sign).toArray
  | .nm => (by decide +kernel : ("x" : Str).cps = #[120])
  | .one => (by decide +kernel : ("k" : Str).cps = #[107])
  | .told => (by decide +kernel : ("xf" : Str).cps = #[120, 102])
  | .fn _ => (by decide +kernel : ("xat" : Str).cps = #[120, 97, 116])
  | .call _ _ => cps_tt
  | .plus _ _ => cps_tt
  | .pair _ _ => cps_tt
  | .left _ => (by decide +kernel : ("td" : Str).cps = #[116, 100])
inductive TmAt (K : PySem.W.Frag) (H : Hp) : V → Tm → Prop
  | nm {a : Addr} : SqT K H a [.str "name", .str "x"] → TmAt K H (.ref a) .nm
  | one {a : Addr} : SqT K H a [.str "num", .int 1] → TmAt K H (.ref a) .one
  | told {a e : Addr} : SqT K H a [.str "told", .str "one", .ref e] → E0At H e → TmAt K H (.ref a) .told
  | fn {a : Addr} {u v : V} {t : Tm} : SqT K H a [.str "fun", .str "x", u, v] → KdAt K H u .num → TmAt K H v t → TmAt K H (.ref a) (.fn t)
  | call {a : Addr} {u v : V} {s t : Tm} : SqT K H a [.str "call", u, v] → TmAt K H u s → TmAt K H v t → TmAt K H (.ref a) (.call s t)
  | plus {a : Addr} {u v : V} {s t : Tm} : SqT K H a [.str "plus", u, v] → TmAt K H u s → TmAt K H v t → TmAt K H (.ref a) (.plus s t)
  | pair {a : Addr} {u v : V} {s t : Tm} : SqT K H a [.str "pair", u, v] → TmAt K H u s → TmAt K H v t → TmAt K H (.ref a) (.pair s t)
  | left {a : Addr} {u v : V} {t : Tm} : SqT K H a [.str "left", u, v] → TmAt K H u t → KdAt K H v .truth → TmAt K H (.ref a) (.left t)
def ItAt (K : PySem.W.Frag) (H : Hp) (v : V) : It → Prop
  | .x s => v = .str s
  | .t t => TmAt K H v t
  | .a k => KdAt K H v k
  | .d k => KdAt K H v k
  | .n i => v = .int i
  | .f => ∃ e, v = .ref e ∧ E0At H e
section
variable {K : PySem.W.Frag} {H H' : Hp}
theorem TmAt.mono (e : Tps H H') {v : V} {t : Tm} (h : TmAt K H v t) : TmAt K H' v t := by
  induction h with
  | nm s => exact .nm (e.seq s)
  | one s => exact .one (e.seq s)
  | told s z => exact .told (e.seq s) (e.e0 z)
  | fn s k _ i => exact .fn (e.seq s) (k.mono e) i
  | call s _ _ i j => exact .call (e.seq s) i j
  | plus s _ _ i j => exact .plus (e.seq s) i j
  | pair s _ _ i j => exact .pair (e.seq s) i j
  | left s _ k i => exact .left (e.seq s) i (k.mono e)
theorem TmAt.same (e : Same H H') {v : V} {t : Tm} (h : TmAt K H v t) : TmAt K H' v t := h.mono (tps e)
theorem ItAt.mono (e : Tps H H') {v : V} : ∀ {i : It}, ItAt K H v i → ItAt K H' v i
  | .x _, h => h
  | .t _, h => TmAt.mono e h
  | .a _, h => KdAt.mono e h
  | .d _, h => KdAt.mono e h
  | .n _, h => h
  | .f, ⟨z, ez, h⟩ => ⟨z, ez, e.e0 h⟩
theorem TmAt.dp {v : V} {t : Tm} (h : TmAt K H v t) : Dp K H v t.enc := by
  induction h with
  | nm s => exact .tup s (.cons (.str _) (.cons (.str _) .nil))
  | one s => exact .tup s (.cons (.str _) (.cons (.int _) .nil))
  | told s z => exact .tup s (.cons (.str _) (.cons (.str _) (.cons (.tup z.seq .nil) .nil)))
  | fn s k _ i => exact .tup s (.cons (.str _) (.cons (.str _) (.cons k.dp (.cons i .nil))))
  | call s _ _ i j => exact .tup s (.cons (.str _) (.cons i (.cons j .nil)))
  | plus s _ _ i j => exact .tup s (.cons (.str _) (.cons i (.cons j .nil)))
  | pair s _ _ i j => exact .tup s (.cons (.str _) (.cons i (.cons j .nil)))
  | left s _ k i => exact .tup s (.cons (.str _) (.cons i (.cons k.dp .nil)))
/-- its word, then what its form says -/
theorem TmAt.view {v : V} {t : Tm} (h : TmAt K H v t) : ∃ (a : Addr) (xs : List V), v = .ref a ∧ SqT K H a (.str t.word :: xs) ∧ Paired (ItAt K H) xs t.its := by
  cases h with
  | nm s => exact ⟨_, _, rfl, s, .cons rfl .nil⟩
  | one s => exact ⟨_, _, rfl, s, .cons rfl .nil⟩
  | told s z => exact ⟨_, _, rfl, s, .cons rfl (.cons ⟨_, rfl, z⟩ .nil)⟩
  | fn s k a => exact ⟨_, _, rfl, s, .cons rfl (.cons k (.cons a .nil))⟩
  | call s a b => exact ⟨_, _, rfl, s, .cons a (.cons b .nil)⟩
  | plus s a b => exact ⟨_, _, rfl, s, .cons a (.cons b .nil)⟩
  | pair s a b => exact ⟨_, _, rfl, s, .cons a (.cons b .nil)⟩
  | left s a k => exact ⟨_, _, rfl, s, .cons a (.cons k .nil)⟩
theorem Paired.two {α β : Type} {F : α → β → Prop} {xs : List α} {b c : β} (p : Paired F xs [b, c]) : ∃ x y, xs = [x, y] ∧ F x b ∧ F y c := by
  cases p with
  | cons h p => cases p with
    | cons h' p => cases p; exact ⟨_, _, rfl, h, h'⟩
theorem Paired.one {α β : Type} {F : α → β → Prop} {xs : List α} {b : β} (p : Paired F xs [b]) : ∃ x, xs = [x] ∧ F x b := by
  cases p with
  | cons h p => cases p; exact ⟨_, rfl, h⟩
theorem Paired.three {α β : Type} {F : α → β → Prop} {xs : List α} {b c d : β} (p : Paired F xs [b, c, d]) : ∃ x y z, xs = [x, y, z] ∧ F x b ∧ F y c ∧ F z d := by
  cases p with
  | cons h p =>
    obtain ⟨y, z, rfl, h1, h2⟩ := Paired.two p
    exact ⟨_, _, _, rfl, h, h1, h2⟩
theorem TmAt.mk {a : Addr} {xs : List V} : ∀ {t : Tm}, SqT K H a (.str t.word :: xs) → Paired (ItAt K H) xs t.its → TmAt K H (.ref a) t
  | .nm, s, p => by
    obtain ⟨x, rfl, h⟩ := Paired.one p
    cases (show x = V.str "x" from h)
    exact .nm s
  | .one, s, p => by
    obtain ⟨x, rfl, h⟩ := Paired.one p
    cases (show x = V.int 1 from h)
    exact .one s
  | .told, s, p => by
    obtain ⟨x, y, rfl, h, e, rfl, h2⟩ := Paired.two p
    cases (show x = V.str "one" from h)
    exact .told s h2
  | .fn _, s, p => by
    obtain ⟨x, y, z, rfl, h, h2, h3⟩ := Paired.three p
    cases (show x = V.str "x" from h)
    exact .fn s h2 h3
  | .call _ _, s, p => by
    obtain ⟨x, y, rfl, h, h2⟩ := Paired.two p
    exact .call s h h2
  | .plus _ _, s, p => by
    obtain ⟨x, y, rfl, h, h2⟩ := Paired.two p
    exact .plus s h h2
  | .pair _ _, s, p => by
    obtain ⟨x, y, rfl, h, h2⟩ := Paired.two p
    exact .pair s h h2
  | .left _, s, p => by
    obtain ⟨x, y, rfl, h, h2⟩ := Paired.two p
    exact .left s h h2
end
end K70
/-! The program's defs by their places; what the top leaves (Txt); calls of such defs. -/
namespace K70
open PySem PySem.Spec PyProof.Rows L2
theorem sc_is_name : FnScope ["thing", "sign"] ["thing"] (defScope s_is_name) := ⟨rfl, rfl, rfl, by decide +kernel, rfl, by decide +kernel, by decide +kernel⟩
theorem sc_is_worded : FnScope ["thing"] ["thing"] (defScope s_is_worded) := ⟨rfl, rfl, rfl, by decide +kernel, rfl, by decide +kernel, by decide +kernel⟩
theorem sc_is_data : FnScope ["thing"] ["thing"] (defScope s_is_data) := ⟨rfl, rfl, rfl, by decide +kernel, rfl, by decide +kernel, by decide +kernel⟩
theorem sc_opens_in : FnScope ["kind", "found", "part"] ["kind"] (defScope s_opens_in) := ⟨rfl, rfl, rfl, by decide +kernel, rfl, by decide +kernel, by decide +kernel⟩
theorem sc_term_spots : FnScope ["term", "at", "sign"] ["term"] (defScope s_term_spots) := ⟨rfl, rfl, rfl, by decide +kernel, rfl, by decide +kernel, by decide +kernel⟩
theorem sc_inner_terms : FnScope ["term", "at"] ["term"] (defScope s_inner_terms) := ⟨rfl, rfl, rfl, by decide +kernel, rfl, by decide +kernel, by decide +kernel⟩
theorem sc_with_inner : FnScope ["term", "some", "found", "at", "inner"] ["term", "some"] (defScope s_with_inner) := ⟨rfl, rfl, rfl, by decide +kernel, rfl, by decide +kernel, by decide +kernel⟩
theorem sc_parts_of_term : FnScope ["term", "inner"] ["term"] (defScope s_parts_of_term) := ⟨rfl, rfl, rfl, by decide +kernel, rfl, by decide +kernel, by decide +kernel⟩
theorem sc_depth_of_term : FnScope ["term", "inner"] ["term"] (defScope s_depth_of_term) := ⟨rfl, rfl, rfl, by decide +kernel, rfl, by decide +kernel, by decide +kernel⟩
theorem sc_put_in : FnScope ["kind", "table", "part"] ["kind", "table"] (defScope s_put_in) := ⟨rfl, rfl, rfl, by decide +kernel, rfl, by decide +kernel, by decide +kernel⟩
theorem sc_filled_kind : FnScope ["kind", "fills"] ["kind", "fills"] (defScope s_filled_kind) := ⟨rfl, rfl, rfl, by decide +kernel, rfl, by decide +kernel, by decide +kernel⟩
theorem sc_opens_of : FnScope ["term", "found", "sort", "part", "name", "kind", "one"] ["term"] (defScope s_opens_of) := ⟨rfl, rfl, rfl, by decide +kernel, rfl, by decide +kernel, by decide +kernel⟩
theorem sc_opens_brought : FnScope ["kinds", "found", "kind", "one"] ["kinds"] (defScope s_opens_brought) := ⟨rfl, rfl, rfl, by decide +kernel, rfl, by decide +kernel, by decide +kernel⟩
theorem sc_put_in_term : FnScope ["term", "table", "taken", "found", "sort", "part", "name", "kind"] ["term", "table", "taken"] (defScope s_put_in_term) := ⟨rfl, rfl, rfl, by decide +kernel, rfl, by decide +kernel, by decide +kernel⟩
theorem sc_filled_beside : FnScope ["term", "fills", "taken", "names", "name", "kind"] ["term", "fills", "taken"] (defScope s_filled_beside) := ⟨rfl, rfl, rfl, by decide +kernel, rfl, by decide +kernel, by decide +kernel⟩
theorem sc_filled_term : FnScope ["term", "fills"] ["term", "fills"] (defScope s_filled_term) := ⟨rfl, rfl, rfl, by decide +kernel, rfl, by decide +kernel, by decide +kernel⟩
theorem sc_Scope_init : FnScope ["self", "looked", "told", "names"] ["self", "looked", "told", "names"] (defScope s_Scope_init) := ⟨rfl, rfl, rfl, by decide +kernel, rfl, by decide +kernel, by decide +kernel⟩
theorem sc_Scope_bound : FnScope ["self", "pairs", "names", "name", "kind"] ["self", "pairs"] (defScope s_Scope_bound) := ⟨rfl, rfl, rfl, by decide +kernel, rfl, by decide +kernel, by decide +kernel⟩
theorem sc_ask : FnScope ["good"] ["good"] (defScope s_ask) := ⟨rfl, rfl, rfl, by decide +kernel, rfl, by decide +kernel, by decide +kernel⟩
theorem sc_data_in : FnScope ["scope", "term", "found"] ["scope", "term"] (defScope s_data_in) := ⟨rfl, rfl, rfl, by decide +kernel, rfl, by decide +kernel, by decide +kernel⟩
theorem sc_word_in : FnScope ["scope", "term", "word", "found"] ["scope", "term", "word"] (defScope s_word_in) := ⟨rfl, rfl, rfl, by decide +kernel, rfl, by decide +kernel, by decide +kernel⟩
theorem sc_name_kind : FnScope ["scope", "term"] ["scope", "term"] (defScope s_name_kind) := ⟨rfl, rfl, rfl, by decide +kernel, rfl, by decide +kernel, by decide +kernel⟩
theorem sc_fun_kind : FnScope ["scope", "term"] ["scope", "term"] (defScope s_fun_kind) := ⟨rfl, rfl, rfl, by decide +kernel, rfl, by decide +kernel, by decide +kernel⟩
theorem sc_call_kind : FnScope ["scope", "term", "one"] ["scope", "term"] (defScope s_call_kind) := ⟨rfl, rfl, rfl, by decide +kernel, rfl, by decide +kernel, by decide +kernel⟩
theorem sc_bare_kind : FnScope ["scope", "term"] ["scope", "term"] (defScope s_bare_kind) := ⟨rfl, rfl, rfl, by decide +kernel, rfl, by decide +kernel, by decide +kernel⟩
theorem sc_plus_kind : FnScope ["scope", "term"] ["scope", "term"] (defScope s_plus_kind) := ⟨rfl, rfl, rfl, by decide +kernel, rfl, by decide +kernel, by decide +kernel⟩
theorem sc_pair_kind : FnScope ["scope", "term", "one"] ["scope", "term"] (defScope s_pair_kind) := ⟨rfl, rfl, rfl, by decide +kernel, rfl, by decide +kernel, by decide +kernel⟩
theorem sc_left_kind : FnScope ["scope", "term"] ["scope", "term"] (defScope s_left_kind) := ⟨rfl, rfl, rfl, by decide +kernel, rfl, by decide +kernel, by decide +kernel⟩
theorem sc_told_kind : FnScope ["scope", "term", "looked", "kind", "name", "one"] ["scope", "term"] (defScope s_told_kind) := ⟨rfl, rfl, rfl, by decide +kernel, rfl, by decide +kernel, by decide +kernel⟩
theorem sc_kind_in : FnScope ["scope", "term"] ["scope", "term"] (defScope s_kind_in) := ⟨rfl, rfl, rfl, by decide +kernel, rfl, by decide +kernel, by decide +kernel⟩
theorem sc_kind_of : FnScope ["term", "looked", "known", "told", "name", "looks", "kind"] ["term", "looked", "known"] (defScope s_kind_of) := ⟨rfl, rfl, rfl, by decide +kernel, rfl, by decide +kernel, by decide +kernel⟩
theorem sc_uses_of : FnScope ["term", "found", "inner"] ["term"] (defScope s_uses_of) := ⟨rfl, rfl, rfl, by decide +kernel, rfl, by decide +kernel, by decide +kernel⟩
theorem sc_whole_parts : FnScope ["term", "wholes", "inner"] ["term", "wholes"] (defScope s_whole_parts) := ⟨rfl, rfl, rfl, by decide +kernel, rfl, by decide +kernel, by decide +kernel⟩
theorem sc_whole_depth : FnScope ["term", "wholes", "inner"] ["term", "wholes"] (defScope s_whole_depth) := ⟨rfl, rfl, rfl, by decide +kernel, rfl, by decide +kernel, by decide +kernel⟩
theorem sc_scope_within : FnScope ["scope", "term", "at", "ahead", "word", "own"] ["scope", "term", "at", "ahead"] (defScope s_scope_within) := ⟨rfl, rfl, rfl, by decide +kernel, rfl, by decide +kernel, by decide +kernel⟩
theorem sc_put_together : FnScope ["scope", "term", "wholes", "some", "at", "inner"] ["scope", "term", "wholes"] (defScope s_put_together) := ⟨rfl, rfl, rfl, by decide +kernel, rfl, by decide +kernel, by decide +kernel⟩
theorem sc_whole_of : FnScope ["looked", "term", "told", "wholes"] ["looked", "term", "told", "wholes"] (defScope s_whole_of) := ⟨rfl, rfl, rfl, by decide +kernel, rfl, by decide +kernel, by decide +kernel⟩
theorem sc_Function_init : FnScope ["self", "looks", "term", "times"] ["self", "looks", "term", "times"] (defScope s_Function_init) := ⟨rfl, rfl, rfl, by decide +kernel, rfl, by decide +kernel, by decide +kernel⟩
theorem sc_told_by : FnScope ["functions", "names", "name"] ["functions", "names"] (defScope s_told_by) := ⟨rfl, rfl, rfl, by decide +kernel, rfl, by decide +kernel, by decide +kernel⟩
theorem sc_give_kind : FnScope ["functions", "one", "told", "known", "name", "found"] ["functions", "one"] (defScope s_give_kind) := ⟨rfl, rfl, rfl, by decide +kernel, rfl, by decide +kernel, by decide +kernel⟩
theorem sc_give_whole : FnScope ["functions", "one", "wholes", "name"] ["functions", "one"] (defScope s_give_whole) := ⟨rfl, rfl, rfl, by decide +kernel, rfl, by decide +kernel, by decide +kernel⟩
theorem sc_reach_of : FnScope ["functions", "names", "found", "left", "name"] ["functions", "names"] (defScope s_reach_of) := ⟨rfl, rfl, rfl, by decide +kernel, rfl, by decide +kernel, by decide +kernel⟩
theorem sc_by_uses : FnScope ["functions", "names", "found", "left", "ready", "name", "other"] ["functions", "names"] (defScope s_by_uses) := ⟨rfl, rfl, rfl, by decide +kernel, rfl, by decide +kernel, by decide +kernel⟩
theorem sc_kinds_anew : FnScope ["functions", "names", "broken", "name", "one", "other"] ["functions", "names"] (defScope s_kinds_anew) := ⟨rfl, rfl, rfl, by decide +kernel, rfl, by decide +kernel, by decide +kernel⟩
theorem sc_Stand_init : FnScope ["self"] ["self"] (defScope s_Stand_init) := ⟨rfl, rfl, rfl, by decide +kernel, rfl, by decide +kernel, by decide +kernel⟩
theorem sc_Stand_function : FnScope ["self", "name"] ["self", "name"] (defScope s_Stand_function) := ⟨rfl, rfl, rfl, by decide +kernel, rfl, by decide +kernel, by decide +kernel⟩
theorem sc_Stand_tell : FnScope ["self", "name", "looked", "term", "functions", "one"] ["self", "name", "looked", "term"] (defScope s_Stand_tell) := ⟨rfl, rfl, rfl, by decide +kernel, rfl, by decide +kernel, by decide +kernel⟩
theorem sc_Stand_retell : FnScope ["self", "name", "looked", "term", "before", "one", "functions", "others", "other", "kept", "broken"] ["self", "name", "looked", "term"] (defScope s_Stand_retell) := ⟨rfl, rfl, rfl, by decide +kernel, rfl, by decide +kernel, by decide +kernel⟩
theorem sc_Stand_names : FnScope ["self"] ["self"] (defScope s_Stand_names) := ⟨rfl, rfl, rfl, by decide +kernel, rfl, by decide +kernel, by decide +kernel⟩
theorem sc_Stand_whole : FnScope ["self", "name"] ["self", "name"] (defScope s_Stand_whole) := ⟨rfl, rfl, rfl, by decide +kernel, rfl, by decide +kernel, by decide +kernel⟩
theorem sc_Stand_made : FnScope ["self", "name"] ["self", "name"] (defScope s_Stand_made) := ⟨rfl, rfl, rfl, by decide +kernel, rfl, by decide +kernel, by decide +kernel⟩
theorem sc_l_deck : FnScope ["_law_script", "_law_cells"] ["_law_script"] (defScope s_l_deck) := ⟨rfl, rfl, rfl, by decide +kernel, rfl, by decide +kernel, by decide +kernel⟩
theorem sc_l_draw : FnScope ["_law_deck_here", "_law_most", "_law_cell", "_law_number"] ["_law_deck_here", "_law_most"] (defScope s_l_draw) := ⟨rfl, rfl, rfl, by decide +kernel, rfl, by decide +kernel, by decide +kernel⟩
theorem sc_l_sum : FnScope ["_law_many", "_law_less"] ["_law_many"] (defScope s_l_sum) := ⟨rfl, rfl, rfl, by decide +kernel, rfl, by decide +kernel, by decide +kernel⟩
theorem sc_l_lefts : FnScope ["_law_term", "_law_many", "_law_k"] ["_law_term", "_law_many"] (defScope s_l_lefts) := ⟨rfl, rfl, rfl, by decide +kernel, rfl, by decide +kernel, by decide +kernel⟩
theorem sc_l_fun : FnScope ["_law_body"] ["_law_body"] (defScope s_l_fun) := ⟨rfl, rfl, rfl, by decide +kernel, rfl, by decide +kernel, by decide +kernel⟩
theorem sc_l_measured : FnScope ["_law_term", "_law_inner", "_law_part", "_law_some", "_law_many", "_law_deep"] ["_law_term"] (defScope s_l_measured) := ⟨rfl, rfl, rfl, by decide +kernel, rfl, by decide +kernel, by decide +kernel⟩
theorem sc_l_refused : FnScope ["_law_stand", "_law_word", "_law_name", "_law_term", "_law_found", "e"] ["_law_stand", "_law_word", "_law_name", "_law_term"] (defScope s_l_refused) := ⟨rfl, rfl, rfl, by decide +kernel, rfl, by decide +kernel, by decide +kernel⟩
theorem sc_l_due_parts : FnScope ["_law_extra", "_law_call"] ["_law_extra"] (defScope s_l_due_parts) := ⟨rfl, rfl, rfl, by decide +kernel, rfl, by decide +kernel, by decide +kernel⟩
theorem sc_l_due_deep : FnScope ["_law_extra"] ["_law_extra"] (defScope s_l_due_deep) := ⟨rfl, rfl, rfl, by decide +kernel, rfl, by decide +kernel, by decide +kernel⟩
theorem sc_l_put_in : FnScope ["_law_term", "_law_body", "_law_part"] ["_law_term", "_law_body"] (defScope s_l_put_in) := ⟨rfl, rfl, rfl, by decide +kernel, rfl, by decide +kernel, by decide +kernel⟩
theorem sc_l_right : FnScope ["_law_first", "_law_less", "_law_other", "_law_again", "_law_stand", "_law_body", "_law_many", "_law_deep", "_law_great", "_law_start", "_law_found", "_law_kept", "_law_here", "_law_name"] ["_law_first", "_law_less", "_law_other", "_law_again"] (defScope s_l_right) := ⟨rfl, rfl, rfl, by decide +kernel, rfl, by decide +kernel, by decide +kernel⟩
theorem sc_law : FnScope ["_law_script", "_law_deck_here", "_law_turn", "_law_way", "_law_again", "_law_extra", "_law_more", "_law_first", "_law_less", "_law_other"] ["_law_script"] (defScope s_law) := ⟨rfl, rfl, rfl, by decide +kernel, rfl, by decide +kernel, by decide +kernel⟩
/-- a def of the program's as the top leaves it -/
structure Df (K : PySem.W.Frag) (mg : Str → Option Value) (x : Str) (st : Stmt) (ps : List Str) (f : Addr) (fd : FuncData) : Prop where
  fn : FunD K x x (defArgs st) (defBody st) (defScope st) [] [] f fd
  gl : mg x = some (.ref f)
  bd : Binds K fd ps []
/-- a method -/
structure Dm (K : PySem.W.Frag) (C : Addr) (m q : Str) (st : Stmt) (ps : List Str) (f : Addr) (fd : FuncData) : Prop where
  fn : FunD K m q (defArgs st) (defBody st) (defScope st) [] [] f fd
  me : Meth K C m f
  bd : Binds K fd ps []
/-- an own class with an __init__ -/
structure Dc (K : PySem.W.Frag) (mg : Str → Option Value) (x : Str) (q : Str) (st : Stmt) (ps : List Str) (C f : Addr) (fd : FuncData) : Prop where
  cl : Cls K C
  gl : mg x = some (.ref C)
  mkr : Mk K C f
  fn : FunD K "__init__" q (defArgs st) (defBody st) (defScope st) [] [] f fd
  bd : Binds K fd ps []
/-- the defs' promises: a def that stands under the name x keeps sp, by at most level k -/
def Has (P : Program) (w : World) (K : PySem.W.Frag) (mg : Str → Option Value) (base : Heap) (CX : CXT) (k : Nat) (x : Str) (sp : Sp) : Prop :=
  ∃ (f : Addr) (fd : FuncData) (ps : List Str), FnOk P w K mg base CX k f fd ps sp ∧ mg x = some (.ref f) ∧ PySem.W.keepIn K (.ref f) = true ∧ Binds K fd ps []
def HasM (P : Program) (w : World) (K : PySem.W.Frag) (mg : Str → Option Value) (base : Heap) (CX : CXT) (k : Nat) (C : Addr) (m : Str) (sp : Sp) : Prop :=
  ∃ (f : Addr) (fd : FuncData) (ps : List Str), FnOk P w K mg base CX k f fd ps sp ∧ Meth K C m f ∧ Binds K fd ps []
def HasC (P : Program) (w : World) (K : PySem.W.Frag) (mg : Str → Option Value) (base : Heap) (k : Nat) (x : Str) (C : Addr) (sp : Sp) : Prop :=
  ∃ (f : Addr) (fd : FuncData) (ps : List Str), FnOk P w K mg base CX0 k f fd ps sp ∧ Mk K C f ∧ mg x = some (.ref C) ∧ Binds K fd ps []
section
variable {P : Program} {w : World} {K : PySem.W.Frag} {mg : Str → Option Value} {base : Heap} {CX : CXT} {j k : Nat} {x q : Str} {sp sp' : Sp} {C f : Addr} {fd : FuncData} {st : Stmt} {N ps : List Str}
theorem Has.mono (h : Has P w K mg base CX j x sp) (l : j ≤ k) : Has P w K mg base CX k x sp := let ⟨f, fd, ps, F, r⟩ := h; ⟨f, fd, ps, F.mono l, r⟩
theorem Has.imp (h : Has P w K mg base CX k x sp) (l : ∀ vs H Q E, sp' vs H Q E → sp vs H Q E) : Has P w K mg base CX k x sp' := let ⟨f, fd, ps, F, r⟩ := h; ⟨f, fd, ps, F.imp l, r⟩
theorem HasM.mono (h : HasM P w K mg base CX j C x sp) (l : j ≤ k) : HasM P w K mg base CX k C x sp := let ⟨f, fd, ps, F, r⟩ := h; ⟨f, fd, ps, F.mono l, r⟩
theorem HasC.mono (h : HasC P w K mg base j x C sp) (l : j ≤ k) : HasC P w K mg base k x C sp := let ⟨f, fd, ps, F, r⟩ := h; ⟨f, fd, ps, F.mono l, r⟩
theorem Has.kept (h : Has P w K mg base CX0 k x sp) : ∃ f, mg x = some (.ref f) ∧ Kept P w K mg base k f sp := let ⟨f, fd, ps, F, g, r⟩ := h; ⟨f, g, fd, ps, F, r⟩
theorem Df.ok0 (D : Df K mg x st ps f fd) (S : FnScope N ps (defScope st)) (len : ∀ vs H Q E, sp vs H Q E → vs.length = ps.length)
    (hbody : ∀ (cdv : Value) (A : Around) (outer : List Env) (s : Shared) (H : Hp) (vs : List V) (Q : VK) (E : XK), Room k (A.deeper (envOfC x (defScope st) s.heap.objs.size f cdv)) → sp vs H Q E →
      ∃ t, PSs (cxOf CX0 P w K mg base N x (defScope st) f cdv A outer s H E).nox (defBody st) t ∧ t { nx := fun _ H' => Q .non H', rt := Q } (start N vs) H) : Has P w K mg base CX0 (k + 1) x sp :=
  ⟨f, fd, ps, D.fn.ok S len fun cdv A outer s H vs Q E hr h => let ⟨t, a, b⟩ := hbody cdv A outer s H vs Q E hr h; ⟨t, PSs.nox a, b⟩, D.gl, D.fn.kp, D.bd⟩
theorem Dm.ok0 (D : Dm K C x q st ps f fd) (S : FnScope N ps (defScope st)) (len : ∀ vs H Q E, sp vs H Q E → vs.length = ps.length)
    (hbody : ∀ (cdv : Value) (A : Around) (outer : List Env) (s : Shared) (H : Hp) (vs : List V) (Q : VK) (E : XK), Room k (A.deeper (envOfC q (defScope st) s.heap.objs.size f cdv)) → sp vs H Q E →
      ∃ t, PSs (cxOf CX0 P w K mg base N q (defScope st) f cdv A outer s H E).nox (defBody st) t ∧ t { nx := fun _ H' => Q .non H', rt := Q } (start N vs) H) : HasM P w K mg base CX0 (k + 1) C x sp :=
  ⟨f, fd, ps, D.fn.ok S len fun cdv A outer s H vs Q E hr h => let ⟨t, a, b⟩ := hbody cdv A outer s H vs Q E hr h; ⟨t, PSs.nox a, b⟩, D.me, D.bd⟩
theorem Dc.ok0 (D : Dc K mg x q st ps C f fd) (S : FnScope N ps (defScope st)) (len : ∀ vs H Q E, sp vs H Q E → vs.length = ps.length)
    (hbody : ∀ (cdv : Value) (A : Around) (outer : List Env) (s : Shared) (H : Hp) (vs : List V) (Q : VK) (E : XK), Room k (A.deeper (envOfC q (defScope st) s.heap.objs.size f cdv)) → sp vs H Q E →
      ∃ t, PSs (cxOf CX0 P w K mg base N q (defScope st) f cdv A outer s H E).nox (defBody st) t ∧ t { nx := fun _ H' => Q .non H', rt := Q } (start N vs) H) : HasC P w K mg base (k + 1) x C sp :=
  ⟨f, fd, ps, D.fn.ok S len fun cdv A outer s H vs Q E hr h => let ⟨t, a, b⟩ := hbody cdv A outer s H vs Q E hr h; ⟨t, PSs.nox a, b⟩, D.mkr, D.gl, D.bd⟩
end
/-! ### calls -/
section
variable {X : Cx} {k j : Nat} {x m : Str} {sp : Sp} {C : Addr} {e o : Expr} {es : List Expr} {t : TA} {ta : TE} {p pos apos : Pos}
theorem pe_c (h : Has X.prog X.w X.K X.mg X.base CX0 k x sp) (hr : Room j X.A) (hk : k ≤ j) (ha : PA X (e :: es) t) (hg : Gl X x := by rfl) (hdb : (x == ("__debug__" : Str)) = false := by decide)
    (he : starEach (e :: es) X.env = (false, eval e X.env) :: starEach es X.env := by rfl) (hpl : (backTo pos (starEach es X.env)).any (·.1) = false := by rfl) : PE X (.Call (.Name x p) (e :: es) [] pos) (tCall sp [] E0 t) := by
  obtain ⟨f, fd, ps, F, g, kp, b⟩ := h
  exact pe_call F (hr.mono hk) hg g kp b .nil pass0 ha hdb he hpl
theorem pe_m {pl : Sem Bool} (h : HasM X.prog X.w X.K X.mg X.base CX0 k C m sp) (c : Cls X.K C) (hr : Room j X.A) (hk : k ≤ j) (ho : PE X o ta) (ha : PA X (e :: es) t)
    (hst : starEach (e :: es) X.env = (false, eval e X.env) :: starEach es X.env := by rfl) (hpl : (backTo pos (starEach es X.env)).any (·.1) = false := by rfl)
    (ht : eval (.Call (.Attribute o m apos) (e :: es) [] pos) X.env = (do
      let ov ← eval o X.env
      standAt apos.atName
      let (f, first) ← holding [ov] (getMethod ov m pl)
      callWith pos f first (backTo pos (starEach (e :: es) X.env)) (backToKw pos (keywordEach [] X.env))) := by rfl) :
    PE X (.Call (.Attribute o m apos) (e :: es) [] pos) (tMeth C m sp [] E0 ta t) := by
  obtain ⟨f, fd, ps, F, g, b⟩ := h
  exact L2.pe_meth ho c g F (hr.mono hk) b .nil pass0 ha hst hpl ht
theorem pe_m0 {pl : Sem Bool} (h : HasM X.prog X.w X.K X.mg X.base CX0 k C m sp) (c : Cls X.K C) (hr : Room j X.A) (hk : k ≤ j) (ho : PE X o ta)
    (ht : eval (.Call (.Attribute o m apos) [] [] pos) X.env = (do
      let ov ← eval o X.env
      standAt apos.atName
      let (f, first) ← holding [ov] (getMethod ov m pl)
      callWith pos f first (backTo pos (starEach [] X.env)) (backToKw pos (keywordEach [] X.env))) := by rfl) :
    PE X (.Call (.Attribute o m apos) [] [] pos) (tMeth C m sp [] E0 ta tNil) := by
  obtain ⟨f, fd, ps, F, g, b⟩ := h
  exact L2.pe_meth0 ho c g F (hr.mono hk) b .nil pass0 ht
theorem pe_new (h : HasC X.prog X.w X.K X.mg X.base k x C sp) (hr : Room j X.A) (hk : k + 1 ≤ j) (ha : PA X (e :: es) t) (hg : Gl X x := by rfl) (hdb : (x == ("__debug__" : Str)) = false := by decide)
    (he : starEach (e :: es) X.env = (false, eval e X.env) :: starEach es X.env := by rfl) (hpl : (backTo pos (starEach es X.env)).any (·.1) = false := by rfl) : PE X (.Call (.Name x p) (e :: es) [] pos) (tMake C sp [] E0 t) := by
  obtain ⟨f, fd, ps, F, M, g, b⟩ := h
  exact L2.pe_make M F (hr.mono hk) hg g b .nil pass0 ha hdb he hpl
theorem pe_new0 (h : HasC X.prog X.w X.K X.mg X.base k x C sp) (hr : Room j X.A) (hk : k + 1 ≤ j) (hg : Gl X x := by rfl) (hdb : (x == ("__debug__" : Str)) = false := by decide) : PE X (.Call (.Name x p) [] [] pos) (tMake C sp [] E0 tNil) := by
  obtain ⟨f, fd, ps, F, M, g, b⟩ := h
  exact L2.pe_make0 M F (hr.mono hk) hg g b .nil pass0 hdb
end
/-- what the walk asks of the state behind the top -/
structure Txt (w : World) (K : PySem.W.Frag) (mg : Str → Option Value) : Prop where
  b_isinstance : mg "isinstance" = none
  b_str : mg "str" = none
  b_tuple : mg "tuple" = none
  b_len : mg "len" = none
  b_all : mg "all" = none
  b_any : mg "any" = none
  b_sum : mg "sum" = none
  b_max : mg "max" = none
  b_zip : mg "zip" = none
  b_enumerate : mg "enumerate" = none
  b_list : mg "list" = none
  b_dict : mg "dict" = none
  b_set : mg "set" = none
  b_sorted : mg "sorted" = none
  b_int : mg "int" = none
  b_range : mg "range" = none
  b_reversed : mg "reversed" = none
  b_ValueError : mg "ValueError" = none
  i_letters : ∃ t, mg "MOST_LETTERS" = some (.int 8 t)
  i_parts : ∃ t, mg "MOST_PARTS" = some (.int 200 t)
  i_deep : ∃ t, mg "MOST_DEEP" = some (.int 30 t)
  z_letters : ∃ t, mg "LETTERS_kinds" = some (.str "abcdefghijklmnopqrstuvwxyz" t)
  t_plain : ∃ a, mg "PLAIN" = some (.ref a) ∧ ∀ H, SqT K H a [.str "num", .str "truth"]
  t_two : ∃ a, mg "OF_TWO" = some (.ref a) ∧ ∀ H, SqT K H a [.str "pair", .str "either"]
  t_num : ∃ a, mg "NUM" = some (.ref a) ∧ ∀ H, SqT K H a [.str "num"]
  d_forms : ∃ a, mg "FORMS" = some (.ref a) ∧ ∀ t : Tm, KDct K w a t.word (.str t.form)
  d_rules : ∃ a, mg "RULES" = some (.ref a) ∧ (∀ f, mg "name_kind" = some (.ref f) → KDct K w a "name" (.ref f)) ∧ (∀ f, mg "fun_kind" = some (.ref f) → KDct K w a "fun" (.ref f)) ∧ (∀ f, mg "call_kind" = some (.ref f) → KDct K w a "call" (.ref f)) ∧ (∀ f, mg "bare_kind" = some (.ref f) → KDct K w a "num" (.ref f)) ∧ (∀ f, mg "plus_kind" = some (.ref f) → KDct K w a "plus" (.ref f)) ∧ (∀ f, mg "pair_kind" = some (.ref f) → KDct K w a "pair" (.ref f)) ∧ (∀ f, mg "left_kind" = some (.ref f) → KDct K w a "left" (.ref f)) ∧ (∀ f, mg "told_kind" = some (.ref f) → KDct K w a "told" (.ref f))
  f_is_name : ∃ f fd, Df K mg "is_name" s_is_name ["thing"] f fd
  f_is_worded : ∃ f fd, Df K mg "is_worded" s_is_worded ["thing"] f fd
  f_is_data : ∃ f fd, Df K mg "is_data" s_is_data ["thing"] f fd
  f_opens_in : ∃ f fd, Df K mg "opens_in" s_opens_in ["kind"] f fd
  f_term_spots : ∃ f fd, Df K mg "term_spots" s_term_spots ["term"] f fd
  f_inner_terms : ∃ f fd, Df K mg "inner_terms" s_inner_terms ["term"] f fd
  f_with_inner : ∃ f fd, Df K mg "with_inner" s_with_inner ["term", "some"] f fd
  f_parts_of_term : ∃ f fd, Df K mg "parts_of_term" s_parts_of_term ["term"] f fd
  f_depth_of_term : ∃ f fd, Df K mg "depth_of_term" s_depth_of_term ["term"] f fd
  f_put_in : ∃ f fd, Df K mg "put_in" s_put_in ["kind", "table"] f fd
  f_filled_kind : ∃ f fd, Df K mg "filled_kind" s_filled_kind ["kind", "fills"] f fd
  f_opens_of : ∃ f fd, Df K mg "opens_of" s_opens_of ["term"] f fd
  f_opens_brought : ∃ f fd, Df K mg "opens_brought" s_opens_brought ["kinds"] f fd
  f_put_in_term : ∃ f fd, Df K mg "put_in_term" s_put_in_term ["term", "table", "taken"] f fd
  f_filled_beside : ∃ f fd, Df K mg "filled_beside" s_filled_beside ["term", "fills", "taken"] f fd
  f_filled_term : ∃ f fd, Df K mg "filled_term" s_filled_term ["term", "fills"] f fd
  f_ask : ∃ f fd, Df K mg "ask" s_ask ["good"] f fd
  f_data_in : ∃ f fd, Df K mg "data_in" s_data_in ["scope", "term"] f fd
  f_word_in : ∃ f fd, Df K mg "word_in" s_word_in ["scope", "term", "word"] f fd
  f_name_kind : ∃ f fd, Df K mg "name_kind" s_name_kind ["scope", "term"] f fd
  f_fun_kind : ∃ f fd, Df K mg "fun_kind" s_fun_kind ["scope", "term"] f fd
  f_call_kind : ∃ f fd, Df K mg "call_kind" s_call_kind ["scope", "term"] f fd
  f_bare_kind : ∃ f fd, Df K mg "bare_kind" s_bare_kind ["scope", "term"] f fd
  f_plus_kind : ∃ f fd, Df K mg "plus_kind" s_plus_kind ["scope", "term"] f fd
  f_pair_kind : ∃ f fd, Df K mg "pair_kind" s_pair_kind ["scope", "term"] f fd
  f_left_kind : ∃ f fd, Df K mg "left_kind" s_left_kind ["scope", "term"] f fd
  f_told_kind : ∃ f fd, Df K mg "told_kind" s_told_kind ["scope", "term"] f fd
  f_kind_in : ∃ f fd, Df K mg "kind_in" s_kind_in ["scope", "term"] f fd
  f_kind_of : ∃ f fd, FunD K "kind_of" "kind_of" (defArgs s_kind_of) (defBody s_kind_of) (defScope s_kind_of) [.non] [] f fd ∧ mg "kind_of" = some (.ref f) ∧ Binds K fd ["term", "looked", "known"] []
  f_uses_of : ∃ f fd, Df K mg "uses_of" s_uses_of ["term"] f fd
  f_whole_parts : ∃ f fd, Df K mg "whole_parts" s_whole_parts ["term", "wholes"] f fd
  f_whole_depth : ∃ f fd, Df K mg "whole_depth" s_whole_depth ["term", "wholes"] f fd
  f_scope_within : ∃ f fd, Df K mg "scope_within" s_scope_within ["scope", "term", "at", "ahead"] f fd
  f_put_together : ∃ f fd, Df K mg "put_together" s_put_together ["scope", "term", "wholes"] f fd
  f_whole_of : ∃ f fd, Df K mg "whole_of" s_whole_of ["looked", "term", "told", "wholes"] f fd
  f_told_by : ∃ f fd, Df K mg "told_by" s_told_by ["functions", "names"] f fd
  f_give_kind : ∃ f fd, Df K mg "give_kind" s_give_kind ["functions", "one"] f fd
  f_give_whole : ∃ f fd, Df K mg "give_whole" s_give_whole ["functions", "one"] f fd
  f_reach_of : ∃ f fd, Df K mg "reach_of" s_reach_of ["functions", "names"] f fd
  f_by_uses : ∃ f fd, Df K mg "by_uses" s_by_uses ["functions", "names"] f fd
  f_kinds_anew : ∃ f fd, Df K mg "kinds_anew" s_kinds_anew ["functions", "names"] f fd
  f_l_deck : ∃ f fd, Df K mg "_law_deck" s_l_deck ["_law_script"] f fd
  f_l_draw : ∃ f fd, Df K mg "_law_draw" s_l_draw ["_law_deck_here", "_law_most"] f fd
  f_l_sum : ∃ f fd, Df K mg "_law_sum" s_l_sum ["_law_many"] f fd
  f_l_lefts : ∃ f fd, Df K mg "_law_lefts" s_l_lefts ["_law_term", "_law_many"] f fd
  f_l_fun : ∃ f fd, Df K mg "_law_fun" s_l_fun ["_law_body"] f fd
  f_l_measured : ∃ f fd, Df K mg "_law_measured" s_l_measured ["_law_term"] f fd
  f_l_refused : ∃ f fd, Df K mg "_law_refused" s_l_refused ["_law_stand", "_law_word", "_law_name", "_law_term"] f fd
  f_l_due_parts : ∃ f fd, Df K mg "_law_due_parts" s_l_due_parts ["_law_extra"] f fd
  f_l_due_deep : ∃ f fd, Df K mg "_law_due_deep" s_l_due_deep ["_law_extra"] f fd
  f_l_put_in : ∃ f fd, Df K mg "_law_put_in" s_l_put_in ["_law_term", "_law_body"] f fd
  f_l_right : ∃ f fd, Df K mg "_law_right" s_l_right ["_law_first", "_law_less", "_law_other", "_law_again"] f fd
/-- the own classes -/
structure Own (w : World) (K : PySem.W.Frag) (mg : Str → Option Value) (CS CF CT : Addr) : Prop where
  c_Scope : ∃ f fd, Dc K mg "Scope" "Scope.__init__" s_Scope_init ["self", "looked", "told", "names"] CS f fd
  c_Function : ∃ f fd, Dc K mg "Function" "Function.__init__" s_Function_init ["self", "looks", "term", "times"] CF f fd
  c_Stand : ∃ f fd, Dc K mg "Stand" "Stand.__init__" s_Stand_init ["self"] CT f fd
  m_Scope_bound : ∃ f fd, Dm K CS "bound" "Scope.bound" s_Scope_bound ["self", "pairs"] f fd
  m_Stand_function : ∃ f fd, Dm K CT "function" "Stand.function" s_Stand_function ["self", "name"] f fd
  m_Stand_tell : ∃ f fd, Dm K CT "tell" "Stand.tell" s_Stand_tell ["self", "name", "looked", "term"] f fd
  m_Stand_retell : ∃ f fd, Dm K CT "retell" "Stand.retell" s_Stand_retell ["self", "name", "looked", "term"] f fd
  m_Stand_names : ∃ f fd, Dm K CT "names" "Stand.names" s_Stand_names ["self"] f fd
  m_Stand_whole : ∃ f fd, Dm K CT "whole" "Stand.whole" s_Stand_whole ["self", "name"] f fd
  m_Stand_made : ∃ f fd, Dm K CT "made" "Stand.made" s_Stand_made ["self", "name"] f fd
  n_CS_looks : NoAttr K CS "looks"
  n_CS_knowns : NoAttr K CS "knowns"
  n_CS_binds : NoAttr K CS "binds"
  n_CF_looks : NoAttr K CF "looks"
  n_CF_term : NoAttr K CF "term"
  n_CF_others : NoAttr K CF "others"
  n_CF_leads : NoAttr K CF "leads"
  n_CF_body : NoAttr K CF "body"
  n_CF_times : NoAttr K CF "times"
  n_CT_states : NoAttr K CT "states"
/-- the errors: DM is TooMany, DK KindError, DN NoKind -/
structure Err (w : World) (K : PySem.W.Frag) (mg : Str → Option Value) (DM DK DN : Addr) : Prop where
  gM : mg "TooMany" = some (.ref DM)
  gK : mg "KindError" = some (.ref DK)
  gN : mg "NoKind" = some (.ref DN)
  ve : PySem.W.excIn K DM He.veBase "ValueError.__new__" = true
  kp : PySem.W.keepIn K (.ref DM) = true
  sb : PySem.W.subIn K (.ref DM) (.type "BaseException") = some true
  ty : PySem.W.typeIn K (.ref DM) = some (.type "type")
  ex : PySem.W.exmOne K (.ref DM) (.ref DK) = some true
  cx : ExcC K DM
  k1 : PySem.W.kitOne K (.ref DM) (.ref DM) = some true
  k2 : PySem.W.kitOne K (.ref DM) (.type "ValueError") = some true
  k3 : ∃ D1 D2 D3 D4 D5 D6, mg "Broken" = some (.ref D1) ∧ mg "NoBack" = some (.ref D2) ∧ mg "NoName" = some (.ref D3) ∧ mg "Ring" = some (.ref D4) ∧ mg "Taken" = some (.ref D5) ∧ mg "Used" = some (.ref D6) ∧
    PySem.W.kitAny K (.ref DM) [.ref D1, .ref D2, .ref DN, .ref D3, .ref D4, .ref D5, .ref D6] = some false
end K70
/-! Comprehensions whose items leave all that stood as it was. -/
namespace K70
open PySem PySem.Spec PyProof.Rows L2
section
variable {J : L2.It} {n : Nat} {G : Hp → Prop} {Y : Nat → Hp → V → Hp → Prop}
theorem same_back {H H' : Hp} (s : Same H H') {D : Addr} (h : H' D = none) : H D = none := s.free h
/-- f i: whether the i-th is kept; R: what is known of it -/
theorem lc_flt (w : Walk J n G Y) {g : TG} {tt : TT} {te : TE} {vs : List Nat} {σ : L2.St} {H1 : Hp} {D : Addr} {Qd : Hp → Prop} (f : Nat → Bool) (R : Nat → V → Hp → Prop)
    (hD : H1 D = none) (hn : n ≤ 1000) (mono : ∀ i y H H', Tps H H' → R i y H → R i y H') (hG : ∀ H, Same H1 H → G H)
    (hs : ∀ (i : Nat) (x : V) (H H' : Hp) (Qk : V → Hp → Prop) (Qn : Hp → Prop), i < n → Same H1 H → Y i H x H' → (f i = true → ∀ y H3, Same H H3 → R i y H3 → Qk y H3) → (f i = false → ∀ H3, Same H H3 → Qn H3) →
      g x (wipe σ vs) H' fun σ2 H2 => wipe σ2 vs = wipe σ vs ∧ tt σ2 H2 fun b H3 => if b = true then te σ2 H3 Qk else Qn H3)
    (hd : ∀ H ys, Same H1 H → H D = some (.lst ys) → Paired (fun y i => R i y H) ys ((List.range n).filter f) → Qd H) :
    ∃ W : Nat → Nat → Hp → Prop, (∃ m, W 0 m (upd H1 D (.lst []))) ∧ ∀ i m H, W i m H →
      (J.stop i H ∧ Qd H) ∨ (J.go i H ∧ ∃ Nx : Hp → Prop, (∀ H', Nx H' → ∃ m', m' < m ∧ W (i + 1) m' H') ∧ ∀ x H', J.yld i H x H' → g x (wipe σ vs) H' fun σ2 H2 => wipe σ2 vs = wipe σ vs ∧ tt σ2 H2 fun b H3 =>
        if b = true then te σ2 H3 fun y H4 => ∃ acc, H4 D = some (.lst acc) ∧ acc.length < sizeLine ∧ Nx (upd H4 D (.lst (acc ++ [y]))) else Nx H3) := by
  have psnoc : ∀ {F : V → Nat → Prop} {xs : List V} {ys : List Nat} {x : V} {y : Nat}, Paired F xs ys → F x y → Paired F (xs ++ [x]) (ys ++ [y]) := by
    intro F xs ys x y p h
    induction p with
    | nil => exact .cons h .nil
    | cons a _ ih => exact .cons a ih
  have plen : ∀ {F : V → Nat → Prop} {xs : List V} {ys : List Nat}, Paired F xs ys → xs.length = ys.length := fun p => Paired.length p
  refine lc_it w (fun i H => ∃ ys, Same H1 H ∧ H D = some (.lst ys) ∧ Paired (fun y i => R i y H) ys ((List.range i).filter f)) ⟨[], same_new hD _, upd_same, .nil⟩ (fun i H _ ⟨_, s, _⟩ => hG H s) ?_ (fun H ⟨ys, s, e, p⟩ => hd H ys s e p)
  rintro i x H H' hi ⟨ys, s, e, p⟩ y
  have nd : ∀ H3, Same H H3 → H3 D = some (.lst ys) := fun H3 s3 => s3 D _ e
  refine hs i x H H' _ _ hi s y (fun hf z H3 s3 r => ?_) (fun hf H3 s3 => ?_)
  · refine ⟨ys, nd H3 s3, ?_, ys ++ [z], same_mut (s.trans s3) hD, upd_same, ?_⟩
    · have h1 := plen p
      have h2 : ((List.range i).filter f).length ≤ i := by
        have := List.length_filter_le f (List.range i)
        rwa [List.length_range] at this
      exact small1000 (by omega)
    · have t1 : Tps H3 (upd H3 D (.lst (ys ++ [z]))) := tps_mut (nd H3 s3) rfl
      have t2 : Tps H (upd H3 D (.lst (ys ++ [z]))) := (tps s3).trans t1
      rw [List.range_succ, List.filter_append, show [i].filter f = [i] by simp [hf]]
      exact psnoc (Paired.mapP p fun a b c => mono _ _ _ _ t2 c) (mono _ _ _ _ t1 r)
  · refine ⟨ys, s.trans s3, nd H3 s3, ?_⟩
    rw [List.range_succ, List.filter_append, show [i].filter f = [] by simp [hf], List.append_nil]
    exact Paired.mapP p fun a b c => mono _ _ _ _ (tps s3) c
theorem paired_get {α β : Type} {F : α → β → Prop} : ∀ {xs : List α} {ys : List β} {i : Nat} {x : α} {y : β}, Paired F xs ys → xs[i]? = some x → ys[i]? = some y → F x y
  | _, _, i, _, _, .nil, e, _ => by simp at e
  | _, _, 0, _, _, .cons h _, e1, e2 => by
    simp at e1 e2
    subst e1 e2
    exact h
  | _, _, i + 1, _, _, .cons _ t, e1, e2 => paired_get (i := i) t (by simpa using e1) (by simpa using e2)
theorem lc_map (w : Walk J n G Y) {g : TG} {te : TE} {vs : List Nat} {σ : L2.St} {H1 : Hp} {D : Addr} {Qd : Hp → Prop} (R : Nat → V → Hp → Prop)
    (hD : H1 D = none) (hn : n ≤ 1000) (mono : ∀ i y H H', Tps H H' → R i y H → R i y H') (hG : ∀ H, Same H1 H → G H)
    (hs : ∀ (i : Nat) (x : V) (H H' : Hp) (Qk : V → Hp → Prop), i < n → Same H1 H → Y i H x H' → (∀ y H3, Same H H3 → R i y H3 → Qk y H3) →
      g x (wipe σ vs) H' fun σ2 H2 => wipe σ2 vs = wipe σ vs ∧ te σ2 H2 Qk)
    (hd : ∀ H ys, Same H1 H → H D = some (.lst ys) → ys.length = n → (∀ i y, ys[i]? = some y → R i y H) → Qd H)
    (gm : ∀ (x : V) (σ : L2.St) (H : Hp) (Q Q' : L2.St → Hp → Prop), (∀ σ2 H2, Q σ2 H2 → Q' σ2 H2) → g x σ H Q → g x σ H Q') :
    ∃ W : Nat → Nat → Hp → Prop, (∃ m, W 0 m (upd H1 D (.lst []))) ∧ ∀ i m H, W i m H →
      (J.stop i H ∧ Qd H) ∨ (J.go i H ∧ ∃ Nx : Hp → Prop, (∀ H', Nx H' → ∃ m', m' < m ∧ W (i + 1) m' H') ∧ ∀ x H', J.yld i H x H' → g x (wipe σ vs) H' fun σ2 H2 => wipe σ2 vs = wipe σ vs ∧ tYes σ2 H2 fun b H3 =>
        if b = true then te σ2 H3 fun y H4 => ∃ acc, H4 D = some (.lst acc) ∧ acc.length < sizeLine ∧ Nx (upd H4 D (.lst (acc ++ [y]))) else Nx H3) := by
  refine lc_flt w (fun _ => true) R hD hn mono hG (fun i x H H' Qk Qn hi s y h _ => gm _ _ _ _ _ (fun σ2 H2 q => ⟨q.1, (show (if true = true then te σ2 H2 Qk else Qn H2) from iteT q.2)⟩) (hs i x H H' Qk hi s y (h rfl))) fun H ys s e p => ?_
  have ef : (List.range n).filter (fun _ => true) = List.range n := List.filter_eq_self.mpr fun _ _ => rfl
  rw [ef] at p
  have hl := Paired.length p
  rw [List.length_range] at hl
  refine hd H ys s e hl fun i y hy => ?_
  have hi : i < n := by
    have := (List.getElem?_eq_some_iff.mp hy).1
    omega
  exact paired_get (F := fun y i => R i y H) p hy (by rw [List.getElem?_range hi])
theorem gm_name {i : Nat} (x : V) (σ : L2.St) (H : Hp) (Q Q' : L2.St → Hp → Prop) (h : ∀ σ2 H2, Q σ2 H2 → Q' σ2 H2) (q : gName i x σ H Q) : gName i x σ H Q' := h _ _ q
end
/-- an object's list of items, seen one by one -/
theorem paired_at {α β : Type} {F : α → β → Prop} : ∀ {xs : List α} {ys : List β} {i : Nat} {x : α}, Paired F xs ys → xs[i]? = some x → ∃ y, ys[i]? = some y ∧ F x y
  | _, _, i, _, .nil, e => by simp at e
  | _, _, 0, _, .cons h _, e => by simp at e; subst e; exact ⟨_, rfl, h⟩
  | _, _, i + 1, x, .cons _ t, e => by
    obtain ⟨y, e1, e2⟩ := paired_at (i := i) t (by simpa using e)
    exact ⟨y, by simpa using e1, e2⟩
theorem paired_of {α β : Type} {F : α → β → Prop} : ∀ {xs : List α} {ys : List β}, xs.length = ys.length → (∀ (i : Nat) (x : α) (y : β), xs[i]? = some x → ys[i]? = some y → F x y) → Paired F xs ys
  | [], [], _, _ => .nil
  | [], _ :: _, h, _ => by simp at h
  | _ :: _, [], h, _ => by simp at h
  | x :: xs, y :: ys, h, f => .cons (f 0 x y rfl rfl) (paired_of (by simpa using h) fun i a b ha hb => f (i + 1) a b (by simpa using ha) (by simpa using hb))
/-- what is handed back: all that stood stands, P of the value -/
abbrev Ret (H : Hp) (Q : VK) (R : V → Hp → Prop) : Prop := ∀ v H', Same H H' → R v H' → Q v H'
end K70
namespace K70
open PySem PySem.Spec PyProof.Rows L2
theorem at0 {α : Type} {x : α} {r : List α} : atI (x :: r) 0 = some x := atI_nat (j := 0) rfl
theorem at1 {α : Type} {x y : α} {r : List α} : atI (x :: y :: r) 1 = some y := atI_nat (j := 1) rfl
theorem at2 {α : Type} {x y z : α} {r : List α} : atI (x :: y :: z :: r) 2 = some z := atI_nat (j := 2) rfl
theorem at3 {α : Type} {x y z u : α} {r : List α} : atI (x :: y :: z :: u :: r) 3 = some u := atI_nat (j := 3) rfl
theorem tyx_tup {K : PySem.W.Frag} {H : Hp} {a : Addr} {xs : List V} (h : SqT K H a xs) : TyX K H (.ref a) (.type "tuple") := by
  rcases h with (h | ⟨o, h⟩) | ⟨o, its, n, h, hc, _⟩
  · exact .base (.tup h)
  · exact .fTuple h
  · exact .kTuple h hc
theorem kit_tt {K : PySem.W.Frag} : PySem.W.kitOne K (.type "tuple") (.type "tuple") = some true := kit_ty (by decide +kernel)
theorem kit_ss {K : PySem.W.Frag} : PySem.W.kitOne K (.type "str") (.type "str") = some true := kit_ty (by decide +kernel)
theorem kit_st {K : PySem.W.Frag} : PySem.W.kitOne K (.type "str") (.type "tuple") = some false := kit_ty (by decide +kernel)
theorem kit_it {K : PySem.W.Frag} : PySem.W.kitOne K (.type "int") (.type "tuple") = some false := kit_ty (by decide +kernel)
section
variable {P : Program} {w : World} {K : PySem.W.Frag} {mg : Str → Option Value} {base : Heap}
/-! ### is_worded -/
def spWorded (K : PySem.W.Frag) : Sp := fun vs H Q _ => ∃ v k, vs = [v] ∧ KdAt K H v k ∧ Q (.bl true) H
theorem has_worded (T : Txt w K mg) : Has P w K mg base CX0 1 "is_worded" (spWorded K) := by
  obtain ⟨f, fd, D⟩ := T.f_is_worded
  refine D.ok0 sc_is_worded (fun vs H Q E h => ?_) (fun cdv A outer s H vs Q E hr h => ?_)
  · obtain ⟨_, _, rfl, _⟩ := h
    rfl
  obtain ⟨v, k, rfl, hk, q⟩ := h
  obtain ⟨a, xs, rfl, hs, _⟩ := hk.view
  refine ⟨_, pss_one (ps_ret (pe_and (pe_callB call_isi (by rfl) T.b_isinstance (by decide +kernel) (pa_cons (pv 0) (pa_cons (pe_bltn (v := .ty "tuple") rfl T.b_tuple (by decide +kernel) rfl) pa_nil)))
    (pe_and (pe_cmpR op_gt (pe_callB call_len_seq (by rfl) T.b_len PySem.boot_len (pa_cons (pv 0) pa_nil)) pe_int (nomark _))
    (pe_one (pe_callB call_isi (by rfl) T.b_isinstance (by decide +kernel) (pa_cons (pe_ix ix_tup (pv 0) pe_int (fun _ _ => rfl)) (pa_cons (pe_bltn (v := .ty "str") rfl T.b_str (by decide +kernel) rfl) pa_nil))))))), ?_⟩
  refine ⟨_, rfl, _, _, _, _, _, rfl, .ty "tuple", tyx_tup hs, kit_tt, _, rfl, iteT ?_⟩
  refine ⟨_, rfl, a, _, rfl, .inr hs, _, _, rfl, rfl, true, ?_, iteT ?_⟩
  · have e : (0 : Int) < ((V.str k.word :: xs).length : Nat) := by rw [List.length_cons]; omega
    exact congrArg V.bl (decide_eq_true e)
  · exact ⟨_, rfl, a, _, _, _, rfl, rfl, hs, at0, _, _, _, _, _, rfl, .ty "str", .base (.str _), kit_ss, q⟩
end
end K70
namespace K70
open PySem PySem.Spec PyProof.Rows L2
theorem bt_isinstance : bootBuiltins "isinstance" = some (.builtin "isinstance") := by decide +kernel
theorem bt_len : bootBuiltins "len" = some (.builtin "len") := by decide +kernel
theorem bt_all : bootBuiltins "all" = some (.builtin "all") := by decide +kernel
theorem bt_any : bootBuiltins "any" = some (.builtin "any") := by decide +kernel
theorem bt_sum : bootBuiltins "sum" = some (.builtin "sum") := by decide +kernel
theorem bt_max : bootBuiltins "max" = some (.builtin "max") := by decide +kernel
theorem bt_sorted : bootBuiltins "sorted" = some (.builtin "sorted") := by decide +kernel
theorem bt_str : bootBuiltins "str" = some (.type "str") := by decide +kernel
theorem bt_tuple : bootBuiltins "tuple" = some (.type "tuple") := by decide +kernel
theorem bt_list : bootBuiltins "list" = some (.type "list") := by decide +kernel
theorem bt_dict : bootBuiltins "dict" = some (.type "dict") := by decide +kernel
theorem bt_set : bootBuiltins "set" = some (.type "set") := by decide +kernel
theorem bt_int : bootBuiltins "int" = some (.type "int") := by decide +kernel
theorem bt_ValueError : bootBuiltins "ValueError" = some (.type "ValueError") := by decide +kernel
/-! globals of the program -/
section
variable {X : Cx} {pos : Pos}
theorem g_PLAIN (T : Txt X.w X.K X.mg) (hg : Gl X "PLAIN" := by rfl) : ∃ a, (∀ H, SqT X.K H a [.str "num", .str "truth"]) ∧ PE X (.Name "PLAIN" pos) (tC (.ref a)) :=
  let ⟨a, e, h⟩ := T.t_plain; ⟨a, h, pe_glob hg e rfl⟩
end
end K70
namespace K70
open PySem PySem.Spec PyProof.Rows L2
theorem ifT {b : Bool} {A B : Prop} (h : b = true) (x : A) : if b = true then A else B := by rw [if_pos h]; exact x
theorem ifF {b : Bool} {A B : Prop} (h : b = false) (x : B) : if b = true then A else B := by subst h; exact x
section
variable {P : Program} {w : World} {K : PySem.W.Frag} {mg : Str → Option Value} {base : Heap}
theorem Df.none {x : Str} {st : Stmt} {N ps : List Str} {f : Addr} {fd : FuncData} {sp : Sp} {k : Nat} (D : Df K mg x st ps f fd) (S : FnScope N ps (defScope st)) (h : ∀ vs H Q E, ¬ sp vs H Q E) : Has P w K mg base CX0 (k + 1) x sp :=
  D.ok0 S (fun vs H Q E q => (h vs H Q E q).elim) fun _ _ _ _ H vs Q E _ q => (h vs H Q E q).elim
def spIsData (K : PySem.W.Frag) (n : Nat) : Sp := fun vs H Q _ => ∃ v k, vs = [v] ∧ KdAt K H v k ∧ k.depth ≤ n ∧ Q (.bl k.isData) H
theorem has_is_data (T : Txt w K mg) : ∀ n, Has P w K mg base CX0 (n + 2) "is_data" (spIsData K n) := by
  intro n
  have h_is_worded := has_worded (P := P) (base := base) T
  obtain ⟨f, fd, D⟩ := T.f_is_data
  induction n with
  | zero => exact D.none sc_is_data fun vs H Q E ⟨_, k, _, _, l, _⟩ => by have := k.depth_pos; omega
  | succ n h_is_data =>
    refine D.ok0 sc_is_data (fun vs H Q E h => ?_) (fun cdv A outer s H vs Q E hr h => ?_)
    · obtain ⟨_, _, rfl, _⟩ := h
      rfl
    obtain ⟨v, k, rfl, hk, hl, q⟩ := h
    obtain ⟨a, xs, rfl, hs, hp⟩ := hk.view
    have hu := hu_of hr
    obtain ⟨a_PLAIN, m_PLAIN, x_PLAIN⟩ := T.t_plain
    obtain ⟨a_OF_TWO, m_OF_TWO, x_OF_TWO⟩ := T.t_two
    refine ⟨_, (pss_cons (ps_if (pt_not (pt_val (pe_c h_is_worded hr (by omega) (pa_cons (pv 0) pa_nil)))) (pss_one (ps_ret pe_bl)) pss_nil) (pss_cons (ps_if (pt_cmpR op_in_seq (pe_ix ix_tup (pv 0) pe_int (fun _ _ => rfl)) (pe_glob (v := .ref a_PLAIN) rfl m_PLAIN rfl) rfl) (pss_one (ps_ret (pe_cmpR op_eq (pe_callB call_len_seq (by rfl) T.b_len bt_len (pa_cons (pv 0) pa_nil)) pe_int (nomark _)))) pss_nil) (pss_cons (ps_if (pt_cmpR op_eq (pe_ix ix_tup (pv 0) pe_int (fun _ _ => rfl)) pe_str (nomark _)) pss_never pss_nil) (pss_cons (ps_if (pt_cmpR op_eq (pe_ix ix_tup (pv 0) pe_int (fun _ _ => rfl)) pe_str (nomark _)) pss_never pss_nil) (pss_one (ps_ret (pe_and (pe_cmpR op_in_seq (pe_ix ix_tup (pv 0) pe_int (fun _ _ => rfl)) (pe_glob (v := .ref a_OF_TWO) rfl m_OF_TWO rfl) rfl) (pe_and (pe_cmpR op_eq (pe_callB call_len_seq (by rfl) T.b_len bt_len (pa_cons (pv 0) pa_nil)) pe_int (nomark _)) (pe_and (pe_c h_is_data hr (by omega) (pa_cons (pe_ix ix_tup (pv 0) pe_int (fun _ _ => rfl)) pa_nil)) (pe_one (pe_c h_is_data hr (by omega) (pa_cons (pe_ix ix_tup (pv 0) pe_int (fun _ _ => rfl)) pa_nil)))))))))))), ?_⟩
    refine ⟨_, rfl, _, k, rfl, hk, true, rfl, iteF ?_⟩
    refine ⟨_, rfl, a, _, _, _, rfl, rfl, hs, at0, _, _, rfl, .inr (x_PLAIN _), rfl, rfl, _, rfl, ?_⟩
    cases k with
    | num | truth =>
      cases hp
      refine ifT (by dsimp only [Kd.word, Tm.word, Tm.form]; decide +kernel) ?_
      exact ⟨_, rfl, a, _, rfl, .inr hs, rfl, q⟩
    | pair j k | eith j k =>
      refine ifF (by dsimp only [Kd.word, Tm.word, Tm.form]; decide +kernel) ?_
      refine ⟨_, rfl, a, _, _, _, rfl, rfl, hs, at0, rfl, _, rfl, ifF (decide_eq_false (by dsimp only [Kd.word, Tm.word, Tm.form]; decide +kernel)) ?_⟩
      refine ⟨_, rfl, a, _, _, _, rfl, rfl, hs, at0, rfl, _, rfl, ifF (decide_eq_false (by dsimp only [Kd.word, Tm.word, Tm.form]; decide +kernel)) ?_⟩
      obtain ⟨x, y, rfl, hx, hy⟩ := Paired.two hp
      have l1 : j.depth ≤ n := by have : max j.depth k.depth + 1 ≤ n + 1 := hl; omega
      have l2 : k.depth ≤ n := by have : max j.depth k.depth + 1 ≤ n + 1 := hl; omega
      refine ⟨_, rfl, a, _, _, _, rfl, rfl, hs, at0, _, _, rfl, .inr (x_OF_TWO _), rfl, rfl, _, rfl, ifT (by dsimp only [Kd.word, Tm.word, Tm.form]; decide +kernel) ?_⟩
      refine ⟨_, rfl, a, _, rfl, .inr hs, rfl, _, rfl, iteT ?_⟩
      refine ⟨_, rfl, a, _, _, _, rfl, rfl, hs, at1, x, j, rfl, hx, l1, _, rfl, ite2 (fun h1 => ?_) (fun h1 => ?_)⟩
      · refine ⟨_, rfl, a, _, _, _, rfl, rfl, hs, at2, y, k, rfl, hy, l2, ?_⟩
        have e : (Kd.isData j && Kd.isData k) = Kd.isData k := by rw [h1]; rfl
        exact e ▸ q
      · have e : (Kd.isData j && Kd.isData k) = false := by rw [Bool.not_eq_true] at h1; rw [h1]; rfl
        exact e ▸ q
    | fn j k =>
      refine ifF (by dsimp only [Kd.word, Tm.word, Tm.form]; decide +kernel) ?_
      refine ⟨_, rfl, a, _, _, _, rfl, rfl, hs, at0, rfl, _, rfl, ifF (decide_eq_false (by dsimp only [Kd.word, Tm.word, Tm.form]; decide +kernel)) ?_⟩
      refine ⟨_, rfl, a, _, _, _, rfl, rfl, hs, at0, rfl, _, rfl, ifF (decide_eq_false (by dsimp only [Kd.word, Tm.word, Tm.form]; decide +kernel)) ?_⟩
      exact ⟨_, rfl, a, _, _, _, rfl, rfl, hs, at0, _, _, rfl, .inr (x_OF_TWO _), rfl, rfl, _, rfl, ifF (by dsimp only [Kd.word, Tm.word, Tm.form]; decide +kernel) q⟩
end
end K70
namespace K70
open PySem PySem.Spec PyProof.Rows L2
section
open PyProof PySem.AutoSeq1
/-- a list takes up a tuple's items, whatever the tuple's own dict and slots -/
theorem ext_tup {to src : Addr} {ys zs : Array Value} {cy cz : Nat} {own : Option Addr} {slots : Array (Option Value)} (few : ¬(!ys.isEmpty && Builtin.List.listTooLong (ys.size + zs.size)) = true) (fit : ys.size ≤ sizeLine) (room : (ys ++ zs).size ≤ sizeLine + 1) :
    Meets (Builtin.«list.extend» ⟨[.ref to, .ref src], []⟩) (fun _ R st => st.heap.get? to = some { cls := .type "list", dict := none, data := .seq ys cy, slots := #[] } ∧ st.heap.get? src = some { cls := .type "tuple", dict := own, data := .seq zs cz, slots := slots } ∧
      R (.ok (.ret Value.none)) { st with heap := st.heap.update to (Obj.mapSeq (· ++ zs)), toks := st.toks }) :=
  .of_wp fun _ _ _ _ st given => by
    rcases st with ⟨heap, gens, drawn, toks, os⟩
    rcases given with ⟨atTo, atSrc, goal⟩
    have i1 := AutoSeq1.idx_int
    have i2 := AutoSeq1.sub_tuple_tuple
    have i3 := AutoSeq1.sub_list_list
    have i4 := AutoSeq1.sub_tuple_list
    have i5 := AutoSeq1.sub_list_tuple
    wp_walk using (wpAny_updateSeq atTo rfl (hz := fit) (_hz' := room)), wpAny_loadPart' atTo, wpAny_loadPart' atSrc
    exact ⟨_, rfl, goal⟩
end
section
variable {X : Cx}
def rExtendT (K : PySem.W.Frag) : V → List V → Hp → VK → Prop := fun x vs H Q => ∃ l b xs zs, x = .ref l ∧ vs = [.ref b] ∧ H l = some (.lst xs) ∧ SqT K H b zs ∧ xs.length + zs.length ≤ sizeLine ∧ Q .non (upd H l (.lst (xs ++ zs)))
theorem mt_extendT : MtM X "list.extend" (rExtendT X.K) := by
  intro pins s σ H x vs v us Q I rx rv asked
  obtain ⟨to, src, ys, zs, rfl, rfl, isL, isT, small, next⟩ := asked
  cases rx
  obtain ⟨arg, rfl, ra⟩ := rv.one
  cases ra
  obtain ⟨_, own, cnt, rel, _, got⟩ := I.lstM isL
  obtain ⟨other, rel2, ⟨ob, got2, cls2, _, dat2⟩, _⟩ := I.tuple isT
  have n1 := rel.length
  have n2 := rel2.length
  have both : own.toArray.size + other.toArray.size ≤ sizeLine := by
    simp only [List.size_toArray]
    omega
  have few : ¬ (!own.toArray.isEmpty && Builtin.List.listTooLong (own.toArray.size + other.toArray.size)) = true := fun z => by
    rw [notLongL both, Bool.and_false] at z
    cases z
  cases ob
  cases cls2
  cases dat2
  have room : (own.toArray ++ other.toArray).size ≤ sizeLine + 1 := by
    rw [Array.size_append]
    omega
  refine call_meets F.slot_list_extend ⟨_, got, rfl⟩ F.entry_list_extend (F.args_list_extend_2 _ _) (ext_tup few (by omega) room) ⟨got, got2, .non, _, I.lset (its' := own ++ other) isL got (by simp) (rel.append rel2) ?_, rfl, next⟩
  simp only [List.length_append]
  omega
end
end K70
namespace K70
open PySem PySem.Spec PyProof.Rows L2
theorem cut1 {x : V} {r : List V} : cutV (x :: r) (some 1) none = r := by
  show ((x :: r).drop (min 1 (x :: r).length)).take ((x :: r).length - min 1 (x :: r).length) = r
  rw [List.length_cons, Nat.min_eq_left (by omega : 1 ≤ r.length + 1), List.drop_succ_cons, List.drop_zero, Nat.add_sub_cancel, List.take_length]
theorem rSl1 {K : PySem.W.Frag} {σ : L2.St} {H : Hp} {a : Addr} {x : V} {r : List V} {Q : VK} (hs : SqT K H a (x :: r)) (q : ∀ p, H p = none → Q (.ref p) (upd H p (.tup r))) : tNoPart σ H fun u H3 => rSlA K (.ref a) (some 1) u H3 Q := by
  show rSlA K (.ref a) (some 1) none H Q
  refine ⟨a, x :: r, rfl, hs, fun h => ?_, fun _ p hp => ?_⟩
  · have h1 : min 1 (x :: r).length = 0 := h.1
    rw [List.length_cons] at h1
    omega
  · rw [cut1]
    exact q p hp
theorem updN {H H' : Hp} {p : Addr} {o : HO} (s : Same H H') (h : H' p = none) : Same H (upd H' p o) := s.trans (same_new h o)
theorem same_has {H H' : Hp} {p : Addr} {o : HO} (s : Same H H') (h : H p = some o) : H' p = some o := s p o h
section
variable {P : Program} {w : World} {K : PySem.W.Frag} {mg : Str → Option Value} {base : Heap}
/-! ### opens_in: none is open -/
def spOpens (K : PySem.W.Frag) (n : Nat) : Sp := fun vs H Q _ => ∃ v k, vs = [v] ∧ KdAt K H v k ∧ k.depth ≤ n ∧ Ret H Q fun u H' => ∃ a, u = .ref a ∧ SqT K H' a []
theorem has_opens_in (T : Txt w K mg) : ∀ n, Has P w K mg base CX0 (n + 2) "opens_in" (spOpens K n) := by
  intro n
  obtain ⟨f, fd, D⟩ := T.f_opens_in
  induction n with
  | zero => exact D.none sc_opens_in fun vs H Q E ⟨_, k, _, _, l, _⟩ => by have := k.depth_pos; omega
  | succ n h_opens_in =>
    refine D.ok0 sc_opens_in (fun vs H Q E h => ?_) (fun cdv A outer s H vs Q E hr h => ?_)
    · obtain ⟨_, _, rfl, _⟩ := h
      rfl
    obtain ⟨v, k, rfl, hk, hl, q⟩ := h
    obtain ⟨a, xs, rfl, hs, hp⟩ := hk.view
    refine ⟨_, (pss_cons (ps_set (i := 1) sc_opens_in.nd rfl (Or.inl rfl) (pe_lst pa_nil)) (pss_cons (ps_if (pt_cmpR op_eq (pe_ix ix_tup (pv 0) pe_int (fun _ _ => rfl)) pe_str (nomark _)) pss_never (pss_one (ps_for PassesOwn.never rfl (pi_tup (pe_slice sl_tupA (pv 0) (po_some pe_int) po_none)) (pg_name (i := 2) sc_opens_in.nd rfl (Or.inl rfl)) (pss_one (ps_expr (pe_bm PySem.F.plainAttrs_list PySem.F.slot_list_extend PySem.F.type_list_extend mt_extendT (pv 1) (pa_cons (pe_c h_opens_in hr (by omega) (pa_cons (pv 2) pa_nil)) pa_nil))))))) (pss_one (ps_ret (pe_tupleOf rfl T.b_tuple (pe_callB (cr_sortTx rfl) (by rfl) T.b_sorted bt_sorted (pa_cons (pe_callTy (cr_setTx rfl) (by rfl) T.b_set bt_set (pa_cons (pv 1) pa_nil)) pa_nil))))))), ?_⟩
    refine ⟨by decide, fun l hnl => ?_⟩
    have s1 : Same H (upd H l (.lst [])) := same_new hnl _
    refine ⟨_, rfl, a, _, _, _, rfl, rfl, (tps s1).seq hs, at0, rfl, _, rfl, ifF (decide_eq_false (by cases k <;> (dsimp only [Kd.word]; decide +kernel))) ?_⟩
    refine ⟨_, rfl, _, rfl, rSl1 ((tps s1).seq hs) fun p hnp => ⟨p, rfl, ⟨xs, .of upd_same⟩, ?_⟩⟩
    refine for_it (walk_tup (K := K) (a := p) (xs := xs)) (fun i σ H2 => Same H H2 ∧ H2 l = some (.lst []) ∧ SqT K H2 p xs ∧ ∃ u, σ = [some (.ref a), some (.ref l), u]) ?_ ?_ ?_ ?_
    · have hlp : l ≠ p := fun z => by rw [← z, upd_same] at hnp; cases hnp
      exact ⟨updN s1 hnp, by rw [upd_ne hlp]; exact upd_same, .of upd_same, _, rfl⟩
    · exact fun i σ H2 _ h => h.2.2.1
    · rintro i x σ H2 H3 hi ⟨sh, hl2, hp2, u, rfl⟩ ⟨rfl, hx⟩
      obtain ⟨j, hj, kj⟩ := paired_at hp hx
      have lj : j.depth ≤ n := by have := Kd.sub_lt (List.mem_of_getElem? hj); omega
      refine ⟨_, rfl, .inl ⟨rfl, _, SqL.of hl2⟩, _, rfl, _, j, rfl, kj.same sh, lj, fun v H4 s4 ⟨b, e, hb⟩ => ?_⟩
      subst e
      refine ⟨l, b, [], [], rfl, rfl, s4 _ _ hl2, hb, by decide, ?_⟩
      exact ⟨same_mut (sh.trans s4) hnl, upd_same, (tps_mut (s4 _ _ hl2) rfl).seq ((tps s4).seq hp2), _, rfl⟩
    · rintro σ H2 ⟨sh, hl2, _, u, rfl⟩
      refine ⟨_, rfl, l, [], rfl, .of hl2, by decide, fun p2 hn2 => ?_⟩
      refine ⟨p2, [], rfl, upd_same, by decide, ?_⟩
      intro ys p3 nd hy hn3
      have ey : ys = [] := by
        cases ys with
        | nil => rfl
        | cons y r => exact absurd ((hy y).mp (.head _)) List.not_mem_nil
      subst ey
      refine .inl ⟨p3, _, rfl, .of upd_same, fun p4 hn4 => ?_⟩
      exact q _ _ (updN (updN (updN sh hn2) hn3) hn4) ⟨p4, rfl, .of upd_same⟩
end
end K70
namespace K70
open PySem PySem.Spec PyProof.Rows L2
/-- the places of the terms within a term -/
def spots (t : Tm) : List Nat := ((List.range t.form.cps.size).filter fun i => decide (t.form.cps[i]? = some 116)).map (· + 1)
theorem cps_x : ("x" : Str).cps = #[120] := by decide +kernel
theorem spots_nm : spots .nm = [] := (by decide +kernel : ((List.range ("x" : Str).cps.size).filter fun i => decide (("x" : Str).cps[i]? = some 116)).map (· + 1) = [])
theorem spots_one : spots .one = [] := (by decide +kernel : ((List.range ("k" : Str).cps.size).filter fun i => decide (("k" : Str).cps[i]? = some 116)).map (· + 1) = [])
theorem spots_told : spots .told = [] := (by decide +kernel : ((List.range ("xf" : Str).cps.size).filter fun i => decide (("xf" : Str).cps[i]? = some 116)).map (· + 1) = [])
theorem spots_fn (t : Tm) : spots (.fn t) = [3] := (by decide +kernel : ((List.range ("xat" : Str).cps.size).filter fun i => decide (("xat" : Str).cps[i]? = some 116)).map (· + 1) = [3])
theorem spots_tt : ((List.range ("tt" : Str).cps.size).filter fun i => decide (("tt" : Str).cps[i]? = some 116)).map (· + 1) = [1, 2] := by decide +kernel
theorem spots_call (s t : Tm) : spots (.call s t) = [1, 2] := spots_tt
theorem spots_plus (s t : Tm) : spots (.plus s t) = [1, 2] := spots_tt
theorem spots_pair (s t : Tm) : spots (.pair s t) = [1, 2] := spots_tt
theorem spots_left (t : Tm) : spots (.left t) = [1] := (by decide +kernel : ((List.range ("td" : Str).cps.size).filter fun i => decide (("td" : Str).cps[i]? = some 116)).map (· + 1) = [1])
theorem spots_len (t : Tm) : (spots t).length = t.inner.length := by
  cases t <;> simp only [spots_nm, spots_one, spots_told, spots_fn, spots_call, spots_plus, spots_pair, spots_left] <;> rfl
theorem form_size (t : Tm) : t.form.cps.size ≤ 3 := by
  cases t
  case nm => exact (by decide +kernel : ("x" : Str).cps.size ≤ 3)
  case one => exact (by decide +kernel : ("k" : Str).cps.size ≤ 3)
  case told => exact (by decide +kernel : ("xf" : Str).cps.size ≤ 3)
  case fn => exact (by decide +kernel : ("xat" : Str).cps.size ≤ 3)
  case left => exact (by decide +kernel : ("td" : Str).cps.size ≤ 3)
  all_goals exact (by decide +kernel : ("tt" : Str).cps.size ≤ 3)
theorem inner_len (t : Tm) : t.inner.length ≤ 2 := by cases t <;> simp [Tm.inner]
theorem sign_t {c : Nat} : decide (V.str ⟨#[c]⟩ = V.str (Str.ofString "t")) = decide (some c = some 116) := by
  have e : (Str.ofString "t") = ⟨#[116]⟩ := by decide +kernel
  rw [e]
  exact decide_eq_decide.mpr ⟨fun h => by cases h; rfl, fun h => by cases h; rfl⟩
theorem ints_of {α : Type} {ys : List V} {ss : List α} (f : α → Int) (hl : ys.length = ss.length) (h : ∀ (i : Nat) (y : V), ys[i]? = some y → ∃ s, ss[i]? = some s ∧ y = V.int (f s)) : ys = (ss.map f).map V.int := by
  refine List.ext_getElem? fun i => ?_
  cases e : ys[i]? with
  | none =>
    have : ys.length ≤ i := List.getElem?_eq_none_iff.mp e
    rw [List.getElem?_eq_none (by rw [List.length_map, List.length_map]; omega)]
  | some y =>
    obtain ⟨s, e1, rfl⟩ := h i y e
    rw [List.getElem?_map, List.getElem?_map, e1]
    rfl
theorem paired_ints {ys : List V} {ns : List Nat} (h : Paired (fun y n => y = V.int ((n + 1 : Nat) : Int)) ys ns) : ys = (ns.map (· + 1)).map fun (i : Nat) => V.int i := by
  induction h with
  | nil => rfl
  | cons a _ ih => rw [a, ih]; rfl
section
variable {K : PySem.W.Frag} {H : Hp}
/-- the terms within a term stand at its spots -/
theorem tm_spot {a : Addr} {t : Tm} (h : TmAt K H (.ref a) t) : ∃ xs : List V, SqT K H a xs ∧ ∀ (i : Nat) (s : Tm), t.inner[i]? = some s → ∃ (j : Nat) (v : V), (spots t)[i]? = some j ∧ xs[j]? = some v ∧ TmAt K H v s := by
  have none : ∀ (i : Nat) (s : Tm) (Z : Prop), ([] : List Tm)[i]? = some s → Z := fun i s Z e => by simp at e
  have two : ∀ {F : Nat → Tm → Prop} {s t : Tm}, F 0 s → F 1 t → ∀ i r, [s, t][i]? = some r → F i r := by
    intro F s t h0 h1 i r e
    match i, e with
    | 0, e => cases e; exact h0
    | 1, e => cases e; exact h1
    | i + 2, e => simp at e
  have one : ∀ {F : Nat → Tm → Prop} {s : Tm}, F 0 s → ∀ i r, [s][i]? = some r → F i r := by
    intro F s h0 i r e
    match i, e with
    | 0, e => cases e; exact h0
    | i + 1, e => simp at e
  cases h with
  | nm s => exact ⟨_, s, fun i s e => none i s _ e⟩
  | one s => exact ⟨_, s, fun i s e => none i s _ e⟩
  | told s z => exact ⟨_, s, fun i s e => none i s _ e⟩
  | fn s k h => rw [spots_fn]; exact ⟨_, s, one ⟨3, _, rfl, rfl, h⟩⟩
  | call s h1 h2 => rw [spots_call]; exact ⟨_, s, two ⟨1, _, rfl, rfl, h1⟩ ⟨2, _, rfl, rfl, h2⟩⟩
  | plus s h1 h2 => rw [spots_plus]; exact ⟨_, s, two ⟨1, _, rfl, rfl, h1⟩ ⟨2, _, rfl, rfl, h2⟩⟩
  | pair s h1 h2 => rw [spots_pair]; exact ⟨_, s, two ⟨1, _, rfl, rfl, h1⟩ ⟨2, _, rfl, rfl, h2⟩⟩
  | left s h k => rw [spots_left]; exact ⟨_, s, one ⟨1, _, rfl, rfl, h⟩⟩
end
section
variable {P : Program} {w : World} {K : PySem.W.Frag} {mg : Str → Option Value} {base : Heap}
/-! ### is_name -/
def okName (z : Str) : Bool := decide (1 ≤ z.length ∧ z.length ≤ 8) && z.cps.toList.all fun c => decide (c ∈ (Str.ofString "abcdefghijklmnopqrstuvwxyz").cps.toList)
def spIsName : Sp := fun vs H Q _ => ∃ z, vs = [.str z] ∧ okName z = true ∧ Ret H Q fun u _ => u = .bl true
theorem has_is_name (T : Txt w K mg) : Has P w K mg base CX0 1 "is_name" spIsName := by
  obtain ⟨f, fd, D⟩ := T.f_is_name
  refine D.ok0 sc_is_name (fun vs H Q E h => ?_) (fun cdv A outer s H vs Q E hr h => ?_)
  · obtain ⟨_, rfl, _⟩ := h
    rfl
  obtain ⟨z, rfl, hz, q⟩ := h
  obtain ⟨tl, m_MOST_LETTERS⟩ := T.i_letters
  obtain ⟨tz, m_LETTERS_kinds⟩ := T.z_letters
  unfold okName at hz
  rw [Bool.and_eq_true, decide_eq_true_eq] at hz
  obtain ⟨⟨z1, z8⟩, za⟩ := hz
  refine ⟨_, (pss_one (ps_ret (pe_and (pe_callB call_isi (by rfl) T.b_isinstance bt_isinstance (pa_cons (pv 0) (pa_cons (pe_bltn (v := .ty "str") rfl T.b_str bt_str rfl) pa_nil))) (pe_and (pe_chain op_le op_le pe_int (pe_callB call_len_str (by rfl) T.b_len bt_len (pa_cons (pv 0) pa_nil)) (pe_glob (v := .int 8) rfl m_MOST_LETTERS ⟨_, rfl⟩)) (pe_one (pe_callB (cr_all rfl) (by rfl) T.b_all bt_all (pa_cons (pe_lc (own := [("sign", 1)]) (tt := tYes) rfl sc_is_name.nd (pi_str (pv 0)) (blkOk_by (own := [("sign", 1)]) (N := ["thing", "sign"]) (sc := defScope s_is_name) (by decide +kernel)) (fun _ _ _ _ _ => (pg_name (i := 1) sc_is_name.nd rfl (Or.inl rfl) (hf := .inr rfl))) (fun _ _ _ _ _ => pts_nil) (fun _ _ _ _ _ => (pe_cmpR op_in_sign (pv 1) (pe_glob (v := .str "abcdefghijklmnopqrstuvwxyz") rfl m_LETTERS_kinds ⟨_, rfl⟩) rfl))) pa_nil))))))), ?_⟩
  refine ⟨_, rfl, _, _, _, _, _, rfl, .ty "str", .base (.str _), kit_ss, _, rfl, iteT ?_⟩
  refine ⟨_, rfl, z, rfl, Nat.le_trans z8 (by decide), _, _, rfl, rfl, _, rfl, ifT (decide_eq_true (by omega)) ?_⟩
  refine ⟨_, _, rfl, rfl, _, rfl, ifT (decide_eq_true (by omega)) ?_⟩
  refine ⟨_, rfl, _, rfl, fun D hD => ?_⟩
  refine lc_map walk_str (fun i y _ => y = .bl true) hD (Nat.le_trans z8 (by decide)) (fun _ _ _ _ _ h => h) (fun _ _ => trivial) ?_ ?_ gm_name
  · rintro i x H1 H2 Qk hi sh ⟨rfl, c, hc, rfl⟩ qk
    refine ⟨rfl, _, rfl, c, _, rfl, rfl, qk _ _ (Same.refl _) ?_⟩
    have hm : c ∈ z.cps.toList := by
      rw [Array.getElem?_eq_some_iff] at hc
      obtain ⟨h1, rfl⟩ := hc
      exact Array.mem_toList_iff.mpr (Array.getElem_mem h1)
    exact congrArg V.bl (List.all_eq_true.mp za c hm)
  · intro H1 ys sh e hl hy
    have ey : ys = (List.replicate ys.length true).map V.bl := by
      refine List.ext_getElem? fun i => ?_
      cases e1 : ys[i]? with
      | none =>
        have : ys.length ≤ i := List.getElem?_eq_none_iff.mp e1
        rw [List.getElem?_eq_none (by rw [List.length_map, List.length_replicate]; omega)]
      | some y =>
        have hi : i < ys.length := (List.getElem?_eq_some_iff.mp e1).1
        rw [hy i y e1, List.getElem?_map, List.getElem?_replicate, if_pos hi]
        rfl
    refine ⟨D, List.replicate ys.length true, rfl, .of (ey ▸ e), ?_⟩
    have ea : ∀ n, (List.replicate n true).all id = true := fun n => by induction n with
      | zero => rfl
      | succ n ih => rw [List.replicate_succ, List.all_cons, ih]; rfl
    rw [ea]
    exact q _ _ sh rfl
/-! ### term_spots -/
def spSpots (K : PySem.W.Frag) : Sp := fun vs H Q _ => ∃ v t, vs = [v] ∧ TmAt K H v t ∧ Ret H Q fun u H' => ∃ a, u = .ref a ∧ H a = none ∧ H' a = some (.lst ((spots t).map fun (i : Nat) => V.int i))
theorem has_term_spots (T : Txt w K mg) : Has P w K mg base CX0 1 "term_spots" (spSpots K) := by
  obtain ⟨f, fd, D⟩ := T.f_term_spots
  refine D.ok0 sc_term_spots (fun vs H Q E h => ?_) (fun cdv A outer s H vs Q E hr h => ?_)
  · obtain ⟨_, _, rfl, _⟩ := h
    rfl
  obtain ⟨v, t, rfl, ht, q⟩ := h
  obtain ⟨a, xs, rfl, hs, hp⟩ := ht.view
  obtain ⟨a_FORMS, m_FORMS, x_FORMS⟩ := T.d_forms
  refine ⟨_, (pss_one (ps_ret (pe_lc (own := [("at", 1), ("sign", 2)]) (g := gTup K 2 (gCons (gName 1) (gCons (gName 2) gNil))) rfl sc_term_spots.nd (pi_enumS rfl T.b_enumerate (pa_cons (pe_ix ix_kdict (pe_glob (v := .ref a_FORMS) rfl m_FORMS rfl) (pe_ix ix_tup (pv 0) pe_int (fun _ _ => rfl)) (fun _ _ => rfl)) pa_nil)) (blkOk_by (own := [("at", 1), ("sign", 2)]) (N := ["term", "at", "sign"]) (sc := defScope s_term_spots) (by decide +kernel)) (fun _ _ _ _ _ => (pg_tup rfl (pgs_cons (pg_name (i := 1) sc_term_spots.nd rfl (Or.inl rfl) (hf := .inr rfl)) (pgs_cons (pg_name (i := 2) sc_term_spots.nd rfl (Or.inl rfl) (hf := .inr rfl)) pgs_nil)))) (fun _ _ _ _ _ => pts_one (pt_cmpR op_eq (pv 2) pe_str (nomark _))) (fun _ _ _ _ _ => (pe_op op_add (pv 1) pe_int))))), ?_⟩
  refine ⟨_, rfl, a, _, _, _, rfl, rfl, hs, at0, a_FORMS, _, _, rfl, rfl, x_FORMS t, t.form, rfl, fun D hD => ?_⟩
  refine lc_flt walk_q (fun i => decide (t.form.cps[i]? = some 116)) (fun i y _ => y = .int ((i + 1 : Nat) : Int)) hD (Nat.le_trans (form_size t) (by decide)) (fun _ _ _ _ _ h => h) (fun _ _ => trivial) ?_ ?_
  · rintro i x H1 H2 Qk Qn hi sh ⟨Tp, x1, x2, rfl, hT, rfl, e1, e2⟩ qk qn
    obtain ⟨c, hc, rfl⟩ : ∃ c, t.form.cps[i]? = some c ∧ V.str ⟨#[c]⟩ = x2 := by
      have : (t.form.cps[i]?).map (fun c => V.str ⟨#[c]⟩) = some x2 := e2
      cases e : t.form.cps[i]? with
      | none => rw [e] at this; cases this
      | some c => rw [e] at this; cases this; exact ⟨c, rfl, rfl⟩
    cases (show some (V.int (i : Nat)) = some x1 from e1)
    refine ⟨Tp, _, rfl, .of upd_same, rfl, _, _, rfl, _, _, rfl, rfl, rfl, _, rfl, rfl, _, rfl, ?_⟩
    rw [hc] at qk qn
    rw [sign_t]
    refine ite2 (fun h => ?_) (fun h => ?_)
    · refine ⟨_, rfl, _, _, rfl, rfl, qk h _ _ (same_new hT _) rfl⟩
    · exact qn (by rw [Bool.not_eq_true] at h; exact h) _ (same_new hT _)
  · intro H1 ys sh e p
    refine q _ _ sh ⟨D, rfl, hD, ?_⟩
    rw [e, paired_ints p]
    rfl
/-! ### inner_terms -/
def spInner (K : PySem.W.Frag) : Sp := fun vs H Q _ => ∃ v t, vs = [v] ∧ TmAt K H v t ∧ Ret H Q fun u H' => ∃ a ys, u = .ref a ∧ H a = none ∧ H' a = some (.lst ys) ∧ Paired (TmAt K H') ys t.inner
theorem has_inner_terms (T : Txt w K mg) : Has P w K mg base CX0 2 "inner_terms" (spInner K) := by
  obtain ⟨f, fd, D⟩ := T.f_inner_terms
  have h_term_spots := has_term_spots (P := P) (base := base) T
  refine D.ok0 sc_inner_terms (fun vs H Q E h => ?_) (fun cdv A outer s H vs Q E hr h => ?_)
  · obtain ⟨_, _, rfl, _⟩ := h
    rfl
  obtain ⟨v, t, rfl, ht, q⟩ := h
  obtain ⟨a, _, rfl, _, _⟩ := ht.view
  obtain ⟨xs, hs, hp⟩ := tm_spot ht
  refine ⟨_, (pss_one (ps_ret (pe_lc (own := [("at", 1)]) (tt := tYes) rfl sc_inner_terms.nd (pi_list (pe_c h_term_spots hr (by omega) (pa_cons (pv 0) pa_nil))) (blkOk_by (own := [("at", 1)]) (N := ["term", "at"]) (sc := defScope s_inner_terms) (by decide +kernel)) (fun _ _ _ _ _ => (pg_name (i := 1) sc_inner_terms.nd rfl (Or.inl rfl) (hf := .inr rfl))) (fun _ _ _ _ _ => pts_nil) (fun _ _ _ _ _ => (pe_ix (r := rIxT K) ix_tup (pv 0) (pv 1) (fun _ _ => rfl)))))), ?_⟩
  refine ⟨_, rfl, _, t, rfl, ht, fun u H1 s1 ⟨b, e, hnb, hb⟩ => ?_⟩
  subst e
  refine ⟨b, rfl, ⟨_, .of hb⟩, fun D hD => ?_⟩
  have hn : ((spots t).map fun (i : Nat) => V.int i).length = t.inner.length := by rw [List.length_map, spots_len]
  refine lc_map (walk_list (xs := (spots t).map fun (i : Nat) => V.int i)) (fun i y H' => ∃ s, t.inner[i]? = some s ∧ TmAt K H' y s) hD (by have := inner_len t; omega) (fun _ _ _ _ e ⟨s, h1, h2⟩ => ⟨s, h1, h2.mono e⟩) (fun H' sh => .of (sh _ _ hb)) ?_ ?_ gm_name
  · rintro i x H2 H3 Qk hi sh ⟨rfl, hx⟩ qk
    have hi2 : i < t.inner.length := by omega
    obtain ⟨j, v, e1, e2, e3⟩ := hp i _ (List.getElem?_eq_getElem hi2)
    rw [List.getElem?_map, e1] at hx
    cases hx
    refine ⟨rfl, _, rfl, _, rfl, a, xs, _, v, rfl, rfl, (tps (s1.trans sh)).seq hs, atI_nat e2, qk _ _ (Same.refl _) ⟨_, List.getElem?_eq_getElem hi2, e3.same (s1.trans sh)⟩⟩
  · intro H2 ys sh e hl hy
    refine q _ _ (s1.trans sh) ⟨D, ys, rfl, s1.free hD, e, paired_of (by omega) fun i x y h1 h2 => ?_⟩
    obtain ⟨s, h3, h4⟩ := hy i x h1
    rw [h2] at h3
    cases h3
    exact h4
/-! ### parts_of_term, depth_of_term -/
def spParts (K : PySem.W.Frag) (n : Nat) : Sp := fun vs H Q _ => ∃ v t, vs = [v] ∧ TmAt K H v t ∧ t.depth ≤ n ∧ Ret H Q fun u _ => u = .int t.parts
theorem parts_sum (t : Tm) : (1 : Int) + (t.inner.map fun s => (s.parts : Int)).sum = t.parts := by
  cases t <;> simp only [Tm.inner, Tm.parts, List.map_cons, List.map_nil, List.sum_cons, List.sum_nil] <;> omega
theorem has_parts_of_term (T : Txt w K mg) : ∀ n, Has P w K mg base CX0 (n + 3) "parts_of_term" (spParts K n) := by
  intro n
  obtain ⟨f, fd, D⟩ := T.f_parts_of_term
  have h_inner_terms := has_inner_terms (P := P) (base := base) T
  induction n with
  | zero => exact D.none sc_parts_of_term fun vs H Q E ⟨_, k, _, _, l, _⟩ => by have := k.depth_pos; omega
  | succ n h_parts_of_term =>
    refine D.ok0 sc_parts_of_term (fun vs H Q E h => ?_) (fun cdv A outer s H vs Q E hr h => ?_)
    · obtain ⟨_, _, rfl, _⟩ := h
      rfl
    obtain ⟨v, t, rfl, ht, hl, q⟩ := h
    refine ⟨_, (pss_one (ps_ret (pe_op op_add pe_int (pe_callB (cr_sum rfl) (by rfl) T.b_sum bt_sum (pa_cons (pe_lc (own := [("inner", 1)]) (tt := tYes) rfl sc_parts_of_term.nd (pi_list (pe_c h_inner_terms hr (by omega) (pa_cons (pv 0) pa_nil))) (blkOk_by (own := [("inner", 1)]) (N := ["term", "inner"]) (sc := defScope s_parts_of_term) (by decide +kernel)) (fun _ _ _ _ _ => (pg_name (i := 1) sc_parts_of_term.nd rfl (Or.inl rfl) (hf := .inr rfl))) (fun _ _ _ _ _ => pts_nil) (fun _ _ _ _ _ => (pe_c h_parts_of_term hr (by omega) (pa_cons (pv 1) pa_nil)))) pa_nil))))), ?_⟩
    refine ⟨_, rfl, v, t, rfl, ht, fun u H1 s1 ⟨b, xs, e, hnb, hb, hp⟩ => ?_⟩
    subst e
    refine ⟨b, rfl, ⟨_, .of hb⟩, fun D hD => ?_⟩
    have hn := hp.length
    refine lc_map (walk_list (xs := xs)) (fun i y _ => ∃ s, t.inner[i]? = some s ∧ y = V.int (s.parts : Nat)) hD (by have := inner_len t; omega) (fun _ _ _ _ _ h => h) (fun H' sh => .of (sh _ _ hb)) ?_ ?_ gm_name
    · rintro i x H2 H3 Qk hi sh ⟨rfl, hx⟩ qk
      obtain ⟨j, hj, hxj⟩ := paired_at hp hx
      have lj : j.depth ≤ n := by have := Tm.inner_lt (List.mem_of_getElem? hj); omega
      exact ⟨rfl, _, rfl, x, j, rfl, hxj.same sh, lj, fun v H4 s4 e => qk _ _ s4 ⟨j, hj, e⟩⟩
    · intro H2 ys sh e hy hys
      have ey := ints_of (fun (s : Tm) => (s.parts : Int)) (by omega) hys
      have fin : ∀ m : Int, m = t.parts → Q (.int m) H2 := fun m e => by rw [e]; exact q _ _ (s1.trans sh) rfl
      exact ⟨D, t.inner.map fun s => (s.parts : Int), rfl, .of (ey ▸ e), _, _, rfl, rfl, fin _ (parts_sum t)⟩
def spDepth (K : PySem.W.Frag) (n : Nat) : Sp := fun vs H Q _ => ∃ v t, vs = [v] ∧ TmAt K H v t ∧ t.depth ≤ n ∧ Ret H Q fun u _ => u = .int t.depth
theorem depth_max (t : Tm) (m : Int) (h0 : t.inner.map (fun s => (s.depth : Int)) = [] → m = 0) (h : t.inner.map (fun s => (s.depth : Int)) ≠ [] → m ∈ t.inner.map (fun s => (s.depth : Int)) ∧ ∀ y ∈ t.inner.map (fun s => (s.depth : Int)), y ≤ m) : (1 : Int) + m = t.depth := by
  cases t <;> simp only [Tm.inner, Tm.depth, List.map_cons, List.map_nil, ne_eq, not_true_eq_false, reduceCtorEq, not_false_eq_true, List.mem_cons, List.not_mem_nil, or_false, forall_eq_or_imp, forall_eq, forall_const, false_implies, true_implies] at * <;> first | omega | (rcases h with ⟨h1 | h1, h2, h3⟩ <;> omega)
theorem has_depth_of_term (T : Txt w K mg) : ∀ n, Has P w K mg base CX0 (n + 3) "depth_of_term" (spDepth K n) := by
  intro n
  obtain ⟨f, fd, D⟩ := T.f_depth_of_term
  have h_inner_terms := has_inner_terms (P := P) (base := base) T
  induction n with
  | zero => exact D.none sc_depth_of_term fun vs H Q E ⟨_, k, _, _, l, _⟩ => by have := k.depth_pos; omega
  | succ n h_depth_of_term =>
    refine D.ok0 sc_depth_of_term (fun vs H Q E h => ?_) (fun cdv A outer s H vs Q E hr h => ?_)
    · obtain ⟨_, _, rfl, _⟩ := h
      rfl
    obtain ⟨v, t, rfl, ht, hl, q⟩ := h
    refine ⟨_, (pss_one (ps_ret (pe_op op_add pe_int (pe_callBK (cr_maxD rfl) rfl T.b_max bt_max (pa_cons (pe_lc (own := [("inner", 1)]) (tt := tYes) rfl sc_depth_of_term.nd (pi_list (pe_c h_inner_terms hr (by omega) (pa_cons (pv 0) pa_nil))) (blkOk_by (own := [("inner", 1)]) (N := ["term", "inner"]) (sc := defScope s_depth_of_term) (by decide +kernel)) (fun _ _ _ _ _ => (pg_name (i := 1) sc_depth_of_term.nd rfl (Or.inl rfl) (hf := .inr rfl))) (fun _ _ _ _ _ => pts_nil) (fun _ _ _ _ _ => (pe_c h_depth_of_term hr (by omega) (pa_cons (pv 1) pa_nil)))) pa_nil) (pk_cons pe_int pk_nil))))), ?_⟩
    refine ⟨_, rfl, v, t, rfl, ht, fun u H1 s1 ⟨b, xs, e, hnb, hb, hp⟩ => ?_⟩
    subst e
    refine ⟨b, rfl, ⟨_, .of hb⟩, fun D hD => ?_⟩
    have hn := hp.length
    refine lc_map (walk_list (xs := xs)) (fun i y _ => ∃ s, t.inner[i]? = some s ∧ y = V.int (s.depth : Nat)) hD (by have := inner_len t; omega) (fun _ _ _ _ _ h => h) (fun H' sh => .of (sh _ _ hb)) ?_ ?_ gm_name
    · rintro i x H2 H3 Qk hi sh ⟨rfl, hx⟩ qk
      obtain ⟨j, hj, hxj⟩ := paired_at hp hx
      have lj : j.depth ≤ n := by have := Tm.inner_lt (List.mem_of_getElem? hj); omega
      exact ⟨rfl, _, rfl, x, j, rfl, hxj.same sh, lj, fun v H4 s4 e => qk _ _ s4 ⟨j, hj, e⟩⟩
    · intro H2 ys sh e hy hys
      have ey := ints_of (fun (s : Tm) => (s.depth : Int)) (by omega) hys
      have fin : ∀ m : Int, (1 : Int) + m = t.depth → Q (.int (1 + m)) H2 := fun m e => by rw [e]; exact q _ _ (s1.trans sh) rfl
      refine ⟨D, t.inner.map (fun s => (s.depth : Int)), 0, rfl, rfl, .of (ey ▸ e), fun h0 => ⟨_, _, rfl, rfl, fin 0 (depth_max t 0 (fun _ => rfl) fun h => (h h0).elim)⟩, fun m hm hu => ⟨_, _, rfl, rfl, fin m (depth_max t m (fun h0 => ?_) fun _ => ⟨hm, hu⟩)⟩⟩
      rw [h0] at hm
      cases hm
end
end K70
namespace K70
open PySem PySem.Spec PyProof.Rows L2
theorem hu2 {k : Nat} {A : Around} (h : Room k A) : A.units + 1 < cLine := hu_of h
section
variable {X : Cx} {K : PySem.W.Frag}
theorem pe_fldK (hK : X.K = K) {e : Expr} {ta : TE} {f : Str} {pos : Pos} (he : PE X e ta) (hb : attributeBase e f X.env (eval e X.env) = eval e X.env) : PE X (.Attribute e f pos) (tFld K ta f) := by
  subst hK
  exact pe_fld he hb
theorem pe_tupleOfK (hK : X.K = K) {a : Expr} {ta : TE} {p pos : Pos} (hg : Gl X "tuple") (hm : X.mg "tuple" = none) (ha : PE X a ta) (na : starEach [a] X.env = (false, eval a X.env) :: starEach [] X.env := by rfl) : PE X (.Call (.Name "tuple" p) [a] [] pos) (tThen ta (kTup K)) := by
  subst hK
  exact pe_tupleOf hg hm ha na
theorem pi_tupK (hK : X.K = K) {tg l : Expr} {tl : TE} (hl : PE X l tl) : PI X tg l (iTup K tl) := by
  subst hK
  exact pi_tup hl
theorem pi_listK (hK : X.K = K) {tg l : Expr} {tl : TE} (hl : PE X l tl) : PI X tg l (iList K tl) := by
  subst hK
  exact pi_list hl
end
theorem ix_in {n j : Nat} (h : j < n) : ixN n (j : Int) = some j := by
  have h0 : (0 : Int) ≤ j := Int.natCast_nonneg j
  have h1 : (j : Int) < n := Int.ofNat_lt.mpr h
  simp only [ixN, h0, h1, if_true, Int.toNat_natCast]
def Tm.withI : Tm → List Tm → Tm
  | .fn _, [s] => .fn s
  | .call _ _, [s, t] => .call s t
  | .plus _ _, [s, t] => .plus s t
  | .pair _ _, [s, t] => .pair s t
  | .left _, [s] => .left s
  | t, _ => t
/-- the items put at the spots -/
def putAt (zs : List V) (ps : List (Nat × V)) : List V := ps.foldl (fun acc p => acc.set p.1 p.2) zs
theorem putAt_snoc (zs : List V) (ps : List (Nat × V)) (p : Nat × V) : putAt zs (ps ++ [p]) = (putAt zs ps).set p.1 p.2 := by unfold putAt; rw [List.foldl_append]; rfl
theorem putAt_len (zs : List V) (ps : List (Nat × V)) : (putAt zs ps).length = zs.length := by
  unfold putAt
  induction ps generalizing zs with
  | nil => rfl
  | cons p r ih => rw [List.foldl_cons, ih, List.length_set]
theorem Paired.nil' {α β : Type} {F : α → β → Prop} {xs : List α} (p : Paired F xs []) : xs = [] := by cases p; rfl
section
variable {K : PySem.W.Frag} {H : Hp}
theorem len2 {α : Type} {ts : List α} (h : ts.length = 2) : ∃ a b, ts = [a, b] := by
  match ts, h with
  | [a, b], _ => exact ⟨a, b, rfl⟩
theorem len1 {α : Type} {ts : List α} (h : ts.length = 1) : ∃ a, ts = [a] := by
  match ts, h with
  | [a], _ => exact ⟨a, rfl⟩
theorem tm_wi {v : V} {t : Tm} (h : TmAt K H v t) : ∃ (a : Addr) (xs : List V), v = .ref a ∧ SqT K H a xs ∧ (∀ j ∈ spots t, j < xs.length) ∧
    ∀ (H' : Hp) (p : Addr) (ys : List V) (ts : List Tm), Tps H H' → Paired (TmAt K H') ys ts → ts.length = t.inner.length → H' p = some (.tup (putAt xs ((spots t).zip ys))) → TmAt K H' (.ref p) (t.withI ts) := by
  have two : ∀ {a : Addr} {w u v : V} {s t : Tm} {r : Tm}, SqT K H a [w, u, v] → spots r = [1, 2] → r.inner.length = 2 →
      (∀ (H' : Hp) (p : Addr) (x y : V) (s' t' : Tm), SqT K H' p [w, x, y] → TmAt K H' x s' → TmAt K H' y t' → TmAt K H' (.ref p) (r.withI [s', t'])) →
      ∃ (b : Addr) (xs : List V), V.ref a = .ref b ∧ SqT K H b xs ∧ (∀ j ∈ spots r, j < xs.length) ∧
        ∀ (H' : Hp) (p : Addr) (ys : List V) (ts : List Tm), Tps H H' → Paired (TmAt K H') ys ts → ts.length = r.inner.length → H' p = some (.tup (putAt xs ((spots r).zip ys))) → TmAt K H' (.ref p) (r.withI ts) := by
    intro a w u v s t r hs hr hl mk
    refine ⟨_, _, rfl, hs, fun j hj => ?_, fun H' p ys ts e hp hn hq => ?_⟩
    · rw [hr] at hj
      simp at hj
      rcases hj with rfl | rfl <;> simp
    · rw [hl] at hn
      obtain ⟨s', t', rfl⟩ := len2 hn
      obtain ⟨x, y, rfl, h1, h2⟩ := Paired.two hp
      rw [hr] at hq
      exact mk _ _ x y s' t' (.of hq) h1 h2
  cases h with
  | nm s =>
    refine ⟨_, _, rfl, s, fun j hj => by (rw [spots_nm] at hj; cases hj), fun H' p ys ts e hp hn hq => ?_⟩
    rw [spots_nm] at hq
    exact .nm (.of hq)
  | one s =>
    refine ⟨_, _, rfl, s, fun j hj => by (rw [spots_one] at hj; cases hj), fun H' p ys ts e hp hn hq => ?_⟩
    rw [spots_one] at hq
    exact .one (.of hq)
  | told s z =>
    refine ⟨_, _, rfl, s, fun j hj => by (rw [spots_told] at hj; cases hj), fun H' p ys ts e hp hn hq => ?_⟩
    rw [spots_told] at hq
    exact .told (.of hq) (e.e0 z)
  | fn s k h =>
    refine ⟨_, _, rfl, s, fun j hj => by (rw [spots_fn] at hj; simp at hj; subst hj; simp), fun H' p ys ts e hp hn hq => ?_⟩
    obtain ⟨s', rfl⟩ := len1 (hn : ts.length = 1)
    obtain ⟨x, rfl, h1⟩ := Paired.one hp
    rw [spots_fn] at hq
    exact .fn (.of hq) (k.mono e) h1
  | left s h k =>
    refine ⟨_, _, rfl, s, fun j hj => by (rw [spots_left] at hj; simp at hj; subst hj; simp), fun H' p ys ts e hp hn hq => ?_⟩
    obtain ⟨s', rfl⟩ := len1 (hn : ts.length = 1)
    obtain ⟨x, rfl, h1⟩ := Paired.one hp
    rw [spots_left] at hq
    exact .left (.of hq) h1 (k.mono e)
  | @call a u v s' t' s h1 h2 => exact two (s := s') (t := t') s (spots_call _ _) rfl fun _ _ _ _ _ _ a b c => .call a b c
  | @plus a u v s' t' s h1 h2 => exact two (s := s') (t := t') s (spots_plus _ _) rfl fun _ _ _ _ _ _ a b c => .plus a b c
  | @pair a u v s' t' s h1 h2 => exact two (s := s') (t := t') s (spots_pair _ _) rfl fun _ _ _ _ _ _ a b c => .pair a b c
end
section
variable {P : Program} {w : World} {K : PySem.W.Frag} {mg : Str → Option Value} {base : Heap}
/-! ### with_inner -/
def spWith (K : PySem.W.Frag) : Sp := fun vs H Q _ => ∃ v t l ys ts, vs = [v, .ref l] ∧ TmAt K H v t ∧ H l = some (.lst ys) ∧ Paired (TmAt K H) ys ts ∧ ts.length = t.inner.length ∧ Ret H Q fun u H' => TmAt K H' u (t.withI ts)
theorem has_with_inner (T : Txt w K mg) : Has P w K mg base CX0 2 "with_inner" (spWith K) := by
  obtain ⟨f, fd, D⟩ := T.f_with_inner
  have h_term_spots := has_term_spots (P := P) (base := base) T
  refine D.ok0 sc_with_inner (fun vs H Q E h => ?_) (fun cdv A outer s H vs Q E hr h => ?_)
  · obtain ⟨_, _, _, _, _, rfl, _⟩ := h
    rfl
  obtain ⟨v, t, l, ys, ts, rfl, ht, hl, hp, hn, q⟩ := h
  obtain ⟨a, xs, rfl, hs, hin, fin⟩ := tm_wi ht
  refine ⟨_, (pss_cons (ps_set (i := 2) sc_with_inner.nd rfl (Or.inl rfl) (pe_callTy call_list_of (by rfl) T.b_list bt_list (pa_cons (pv 0) pa_nil))) (pss_cons (ps_for PassesOwn.never rfl (RZ.pi_zipA rfl T.b_zip (pa_cons (pe_c h_term_spots hr (by omega) (pa_cons (pv 0) pa_nil)) (pa_cons (pv 1) pa_nil))) (pg_tup rfl (pgs_cons (pg_name (i := 3) sc_with_inner.nd rfl (Or.inl rfl)) (pgs_cons (pg_name (i := 4) sc_with_inner.nd rfl (Or.inl rfl)) pgs_nil))) (pss_one (ps_asg (pv 4) (pg_sub (pv 2) (pv 3) set_list)))) (pss_one (ps_ret (pe_tupleOf rfl T.b_tuple (pv 2)))))), ?_⟩
  refine ⟨_, rfl, a, xs, rfl, .inr hs, fun g hg => ?_⟩
  have s1 : Same H (upd H g (.lst xs)) := same_new hg _
  refine ⟨_, rfl, _, t, rfl, ht.same s1, fun u H2 s2 ⟨b, e, hnb, hb⟩ => ?_⟩
  subst e
  have hyn := hp.length
  have hsn := spots_len t
  have hl2 := (s1.trans s2) _ _ hl
  refine ⟨_, rfl, b, l, _, _, rfl, .inl ⟨.of hb, .of hl2, ?_⟩⟩
  have hgl : ∀ {H3 : Hp}, H3 g = none → g = l → H3 l = none := fun h e => e ▸ h
  refine for_it (walk_zip (n := t.inner.length) (xs := (spots t).map fun (i : Nat) => V.int i) (ys := ys) (by rw [List.length_map]; omega))
    (fun i σ H3 => Same H H3 ∧ H3 b = some (.lst ((spots t).map fun (i : Nat) => V.int i)) ∧ H3 l = some (.lst ys) ∧ H3 g = some (.lst (putAt xs (((spots t).zip ys).take i))) ∧ ∃ u1 u2, σ = [some (.ref a), some (.ref l), some (.ref g), u1, u2]) ?_ ?_ ?_ ?_
  · exact ⟨s1.trans s2, hb, hl2, s2 _ _ upd_same, _, _, rfl⟩
  · exact fun i σ H3 _ h => ⟨.of h.2.1, .of h.2.2.1⟩
  · rintro i x σ H3 H4 hi ⟨sh, hb3, hl3, hg3, u1, u2, rfl⟩ ⟨Tp, x1, x2, rfl, hT, rfl, e1, e2⟩
    have hjl : i < (spots t).length := by omega
    replace e1 : ((spots t).map fun (i : Nat) => V.int i)[i]? = some x1 := e1
    rw [List.getElem?_map, List.getElem?_eq_getElem hjl] at e1
    cases e1
    have nT : ∀ {p : Addr} {o : HO}, H3 p = some o → (upd H3 Tp (.tup [.int ((spots t)[i] : Nat), x2])) p = some o := fun h => by rw [upd_ne (ne_of_none h hT)]; exact h
    refine ⟨Tp, _, rfl, .of upd_same, rfl, _, _, rfl, _, _, rfl, rfl, ?_⟩
    refine ⟨_, rfl, _, rfl, _, rfl, g, _, _, (spots t)[i], rfl, rfl, nT hg3, ?_, ?_⟩
    · exact ix_in (by rw [putAt_len]; exact hin _ (List.getElem_mem _))
    · have hbg : b ≠ g := fun z => by rw [z, upd_same] at hnb; cases hnb
      have hlg : l ≠ g := ne_of_none hl hg
      refine ⟨same_mut (sh.trans (same_new hT _)) hg, ?_, ?_, ?_, _, _, rfl⟩
      · rw [upd_ne hbg]; exact nT hb3
      · rw [upd_ne hlg]; exact nT hl3
      · rw [upd_same]
        have e3 : ((spots t).zip ys).take (i + 1) = ((spots t).zip ys).take i ++ [((spots t)[i], x2)] := by
          have hi3 : i < ((spots t).zip ys).length := by rw [List.length_zip]; omega
          have e4 : ys[i]'(by omega) = x2 := by
            have : ys[i]? = some x2 := e2
            rw [List.getElem?_eq_getElem (by omega)] at this
            exact Option.some.inj this
          rw [List.take_succ, List.getElem?_eq_getElem hi3, List.getElem_zip, e4]
          rfl
        rw [e3, putAt_snoc]
  · rintro σ H3 ⟨sh, hb3, hl3, hg3, u1, u2, rfl⟩
    refine ⟨_, rfl, .inl ⟨g, _, rfl, .of hg3, fun p hp2 => ?_⟩⟩
    have e : ((spots t).zip ys).take t.inner.length = (spots t).zip ys := List.take_of_length_le (by rw [List.length_zip]; omega)
    rw [e]
    have t1 : Same H (upd H3 p (.tup (putAt xs ((spots t).zip ys)))) := updN sh hp2
    exact q _ _ t1 (fin _ p ys ts (tps t1) (Paired.mapP hp fun _ _ h => h.same t1) hn upd_same)
end
end K70
namespace K70
open PySem PySem.Spec PyProof.Rows L2
theorem cutTo1 {x : V} {r : List V} : cutV (x :: r) none (some 1) = [x] := by
  show ((x :: r).drop 0).take (min 1 (x :: r).length - 0) = [x]
  rw [List.length_cons, Nat.min_eq_left (by omega : 1 ≤ r.length + 1)]
  rfl
theorem rSlTo1 {K : PySem.W.Frag} {σ : L2.St} {H : Hp} {a : Addr} {x : V} {r : List V} {Q : VK} (hs : SqT K H a (x :: r)) (q : ∀ p H', Same H H' → SqT K H' p [x] → Q (.ref p) H') :
    tNoPart σ H fun l H2 => tPart (tC (.int 1)) σ H2 fun u H3 => rSlA K (.ref a) l u H3 Q := by
  show ∃ i : Int, V.int 1 = V.int i ∧ rSlA K (.ref a) none (some i) H Q
  refine ⟨1, rfl, a, x :: r, rfl, hs, fun h => ?_, fun _ p hp => ?_⟩
  · have h1 : min 1 (x :: r).length = (x :: r).length := h.2
    rw [List.length_cons] at h1
    have : r = [] := List.length_eq_zero_iff.mp (by omega)
    subst this
    exact q a H (Same.refl _) hs
  · rw [cutTo1]
    exact q p _ (same_new hp _) (.of upd_same)
section
variable {J : L2.It} {G : Hp → Prop} {Y : Nat → Hp → V → Hp → Prop}
theorem lc_none (w : Walk J 0 G Y) {g : TG} {tt : TT} {te : TE} {vs : List Nat} {σ : L2.St} {H1 : Hp} {D : Addr} {Qd : Hp → Prop} (hD : H1 D = none) (hG : G (upd H1 D (.lst []))) (hd : ∀ H, Same H1 H → H D = some (.lst []) → Qd H) :
    ∃ W : Nat → Nat → Hp → Prop, (∃ m, W 0 m (upd H1 D (.lst []))) ∧ ∀ i m H, W i m H →
      (J.stop i H ∧ Qd H) ∨ (J.go i H ∧ ∃ Nx : Hp → Prop, (∀ H', Nx H' → ∃ m', m' < m ∧ W (i + 1) m' H') ∧ ∀ x H', J.yld i H x H' → g x (wipe σ vs) H' fun σ2 H2 => wipe σ2 vs = wipe σ vs ∧ tt σ2 H2 fun b H3 =>
        if b = true then te σ2 H3 fun y H4 => ∃ acc, H4 D = some (.lst acc) ∧ acc.length < sizeLine ∧ Nx (upd H4 D (.lst (acc ++ [y]))) else Nx H3) :=
  lc_it w (fun _ H => H = upd H1 D (.lst [])) rfl (fun _ _ _ e => e ▸ hG) (fun _ _ _ _ hi => absurd hi (Nat.not_lt_zero _)) fun H e => e ▸ hd _ (same_new hD _) upd_same
theorem for_none (w : Walk J 0 G Y) {g : TG} {tb : TS} {D : Ends} {σ : L2.St} {H : Hp} (hG : G H) (hd : D.nx σ H) : ∃ W : Nat → Nat → L2.St → Hp → Prop, (∃ m, W 0 m σ H) ∧ ∀ i m σ H, W i m σ H → (J.stop i H ∧ D.nx σ H) ∨ (J.go i H ∧ ∃ N : L2.St → Hp → Prop, (∀ σ' H', N σ' H' → ∃ m', m' < m ∧ W (i + 1) m' σ' H') ∧ ∀ x H', J.yld i H x H' → g x σ H' fun σ2 H2 => tb { D with nx := N, ct := N, bk := D.nx } σ2 H2) :=
  for_it w (fun _ σ' H' => σ' = σ ∧ H' = H) ⟨rfl, rfl⟩ (fun _ _ _ _ e => e.2 ▸ hG) (fun _ _ _ _ _ hi => absurd hi (Nat.not_lt_zero _)) fun _ _ e => e.1 ▸ e.2 ▸ hd
end
abbrev adT : HO := .tup [V.str (Str.ofString "a"), V.str (Str.ofString "d")]
/-- told of nothing -/
def Tm.plain : Tm → Bool
  | .nm => true | .one => true | .told => false | .fn t => t.plain | .call s t => s.plain && t.plain | .plus s t => s.plain && t.plain | .pair s t => s.plain && t.plain | .left t => t.plain
theorem plain_inner {t s : Tm} (h : t.plain = true) (hs : s ∈ t.inner) : s.plain = true := by
  cases t <;> simp [Tm.inner, Tm.plain] at h hs <;> (first | (rcases hs with rfl | rfl <;> simp [h]) | (subst hs; exact h))
theorem its_inner {t s : Tm} (h : It.t s ∈ t.its) : s ∈ t.inner := by
  cases t <;> simp [Tm.inner, Tm.its] at h ⊢ <;> exact h
theorem its_plain {t : Tm} (h : t.plain = true) : It.f ∉ t.its := by
  cases t <;> simp [Tm.its] <;> cases h
theorem its_deep {t : Tm} {k : Kd} (h : It.a k ∈ t.its ∨ It.d k ∈ t.its) : k.depth ≤ 1 := by
  cases t <;> simp [Tm.its] at h <;> subst h <;> decide
theorem its_len (t : Tm) : t.its.length ≤ 3 := by cases t <;> simp [Tm.its]
theorem form_len (t : Tm) : t.form.cps.size = t.its.length := by rw [form_cps, List.size_toArray, List.length_map]
theorem form_at {t : Tm} {i : Nat} {x : It} (h : t.its[i]? = some x) : fSign t.form i = some (V.str ⟨#[x.sign]⟩) := by
  unfold fSign
  rw [form_cps]
  simp [h]
section
variable {P : Program} {w : World} {K : PySem.W.Frag} {mg : Str → Option Value} {base : Heap}
theorem sub_len (k : Kd) : k.subs.length ≤ 2 := by cases k <;> simp [Kd.subs]
/-! ### put_in -/
def spPut (K : PySem.W.Frag) (n : Nat) : Sp := fun vs H Q _ => ∃ v tb k, vs = [v, tb] ∧ KdAt K H v k ∧ k.depth ≤ n ∧ Ret H Q fun u H' => KdAt K H' u k
theorem has_put_in (T : Txt w K mg) : ∀ n, Has P w K mg base CX0 (n + 1) "put_in" (spPut K n) := by
  intro n
  obtain ⟨f, fd, D⟩ := T.f_put_in
  induction n with
  | zero => exact D.none sc_put_in fun vs H Q E ⟨_, _, k, _, _, l, _⟩ => by have := k.depth_pos; omega
  | succ n h_put_in =>
    refine D.ok0 sc_put_in (fun vs H Q E h => ?_) (fun cdv A outer s H vs Q E hr h => ?_)
    · obtain ⟨_, _, _, rfl, _⟩ := h
      rfl
    obtain ⟨v, tb, k, rfl, hk, hl, q⟩ := h
    obtain ⟨a, xs, rfl, hs, hp⟩ := hk.view
    refine ⟨_, (pss_cons (ps_if (pt_cmpR op_eq (pe_ix ix_tup (pv 0) pe_int (fun _ _ => rfl)) pe_str (nomark _)) pss_never pss_nil) (pss_one (ps_ret (pe_op op_catA (pe_slice sl_tupA (pv 0) po_none (po_some pe_int)) (pe_tupleOf rfl T.b_tuple (pe_lc (own := [("part", 2)]) (tt := tYes) rfl sc_put_in.nd (pi_tup (pe_slice sl_tupA (pv 0) (po_some pe_int) po_none)) (blkOk_by (own := [("part", 2)]) (N := ["kind", "table", "part"]) (sc := defScope s_put_in) (by decide +kernel)) (fun _ _ _ _ _ => (pg_name (i := 2) sc_put_in.nd rfl (Or.inl rfl) (hf := .inr rfl))) (fun _ _ _ _ _ => pts_nil) (fun _ _ _ _ _ => (pe_c h_put_in hr (by omega) (pa_cons (pv 2) (pa_cons (pv 1) pa_nil)))))))))), ?_⟩
    refine ⟨_, rfl, a, _, _, _, rfl, rfl, hs, at0, rfl, _, rfl, ifF (decide_eq_false (by cases k <;> (dsimp only [Kd.word]; decide +kernel))) ?_⟩
    refine ⟨_, rfl, rSlTo1 hs fun p1 H1 s1 hp1 => ?_⟩
    refine ⟨_, rfl, _, rfl, rSl1 ((tps s1).seq hs) fun p2 hn2 => ⟨p2, rfl, ⟨xs, .of upd_same⟩, fun D hD => ?_⟩⟩
    have hlen := hp.length
    have s2 : Same H (upd H1 p2 (.tup xs)) := updN s1 hn2
    refine lc_map (walk_tup (xs := xs)) (fun i y H' => ∃ j, k.subs[i]? = some j ∧ KdAt K H' y j) hD (by have := sub_len k; omega) (fun _ _ _ _ e ⟨j, h1, h2⟩ => ⟨j, h1, h2.mono e⟩) (fun H' sh => (tps sh).seq (.of upd_same)) ?_ ?_ gm_name
    · rintro i x H2 H3 Qk hi sh ⟨rfl, hx⟩ qk
      obtain ⟨j, hj, hxj⟩ := paired_at hp hx
      have lj : j.depth ≤ n := by have := Kd.sub_lt (List.mem_of_getElem? hj); omega
      exact ⟨rfl, _, rfl, _, rfl, x, tb, j, rfl, hxj.same (s2.trans sh), lj, fun v H4 s4 e => qk _ _ s4 ⟨j, hj, e⟩⟩
    · intro H2 ys sh e hy hys
      refine .inl ⟨D, ys, rfl, .of e, fun p3 hn3 => ?_⟩
      have s3 : Same H (upd H2 p3 (.tup ys)) := updN (s2.trans sh) hn3
      have hpy : Paired (KdAt K H2) ys k.subs := paired_of (by omega) fun i x y h1 h2 => by
        obtain ⟨s, h3, h4⟩ := hys i x h1
        rw [h2] at h3
        cases h3
        exact h4
      have t3 := same_new hn3 (.tup ys)
      have hpy3 := Paired.mapP hpy fun _ _ h => h.same t3
      have hp1' : SqT K (upd H2 p3 (.tup ys)) p1 [V.str k.word] := (tps ((updN (Same.refl _) hn2).trans (sh.trans t3))).seq hp1
      refine ⟨p1, p3, [V.str k.word], ys, rfl, rfl, hp1', .of upd_same, ?_, (fun h => by cases h), fun _ h0 => ?_, fun _ _ p4 hn4 => ?_⟩
      · have := sub_len k
        have h2 : (2 : Nat) + 1 ≤ sizeLine := by decide
        show 0 + 1 + ys.length ≤ sizeLine
        omega
      · subst h0
        exact q _ _ s3 (KdAt.mk hp1' hpy3)
      · refine q _ _ (updN s3 hn4) (KdAt.mk (.of upd_same) (Paired.mapP hpy3 fun _ _ h => h.same (same_new hn4 _)))
/-! ### filled_kind -/
def spFilled (K : PySem.W.Frag) (n : Nat) : Sp := fun vs H Q _ => ∃ v z k, vs = [v, .ref z] ∧ KdAt K H v k ∧ E0At H z ∧ k.depth ≤ n ∧ Ret H Q fun u H' => KdAt K H' u k
theorem has_filled_kind (T : Txt w K mg) (n : Nat) : Has P w K mg base CX0 (n + 2) "filled_kind" (spFilled K n) := by
  obtain ⟨f, fd, D⟩ := T.f_filled_kind
  have h_put_in := has_put_in (P := P) (base := base) T n
  refine D.ok0 sc_filled_kind (fun vs H Q E h => ?_) (fun cdv A outer s H vs Q E hr h => ?_)
  · obtain ⟨_, _, _, rfl, _⟩ := h
    rfl
  obtain ⟨v, z, k, rfl, hk, hz, hl, q⟩ := h
  refine ⟨_, (pss_one (ps_ret (pe_c h_put_in hr (by omega) (pa_cons (pv 0) (pa_cons (pe_callTy (call_dict0 rfl) (by rfl) T.b_dict bt_dict (pa_cons (pv 1) pa_nil)) pa_nil))))), ?_⟩
  refine ⟨_, rfl, _, rfl, z, rfl, hz, fun p hp => ?_⟩
  have s1 := same_new hp (.dK [])
  exact ⟨v, _, k, rfl, hk.same s1, hl, fun u H' s2 e => q _ _ (s1.trans s2) e⟩
/-! ### opens_of, opens_brought: none -/
def NewD0 (H : Hp) (u : V) (H' : Hp) : Prop := ∃ a, u = .ref a ∧ H a = none ∧ H' a = some (.dK [])
def spOpensOf (K : PySem.W.Frag) (n : Nat) : Sp := fun vs H Q _ => ∃ v t, vs = [v] ∧ TmAt K H v t ∧ t.plain = true ∧ t.depth ≤ n ∧ Ret H Q (NewD0 H)
theorem has_opens_of (T : Txt w K mg) : ∀ n, Has P w K mg base CX0 (n + 4) "opens_of" (spOpensOf K n) := by
  intro n
  obtain ⟨f, fd, D⟩ := T.f_opens_of
  have h_opens_in := has_opens_in (P := P) (base := base) T 1
  induction n with
  | zero => exact D.none sc_opens_of fun vs H Q E ⟨_, k, _, _, _, l, _⟩ => by have := k.depth_pos; omega
  | succ n h_opens_of =>
    refine D.ok0 sc_opens_of (fun vs H Q E h => ?_) (fun cdv A outer s H vs Q E hr h => ?_)
    · obtain ⟨_, _, rfl, _⟩ := h
      rfl
    obtain ⟨v, t, rfl, ht, hpl, hl, q⟩ := h
    obtain ⟨a, xs, rfl, hs, hp⟩ := ht.view
    obtain ⟨a_FORMS, m_FORMS, x_FORMS⟩ := T.d_forms
    refine ⟨_, (pss_cons (ps_set (i := 1) sc_opens_of.nd rfl (Or.inl rfl) pe_dnewK) (pss_cons (ps_for PassesOwn.never rfl (pi_zipST rfl T.b_zip (pa_cons (pe_ix ix_kdict (pe_glob (v := .ref a_FORMS) rfl m_FORMS rfl) (pe_ix ix_tup (pv 0) pe_int (fun _ _ => rfl)) (fun _ _ => rfl)) (pa_cons (pe_slice sl_tupA (pv 0) (po_some pe_int) po_none) pa_nil))) (pg_tup rfl (pgs_cons (pg_name (i := 2) sc_opens_of.nd rfl (Or.inl rfl)) (pgs_cons (pg_name (i := 3) sc_opens_of.nd rfl (Or.inl rfl)) pgs_nil))) (pss_cons (ps_if (pt_cmpR op_eq (pv 2) pe_str (nomark _)) (pss_one (ps_expr (pe_bm PySem.F.plainAttrs_dict PySem.F.slot_dict_update PySem.F.type_dict_update mt_upd0 (pv 1) (pa_cons (pe_c h_opens_of hr (by omega) (pa_cons (pv 3) pa_nil)) pa_nil)))) pss_nil) (pss_cons (ps_if (pt_cmpR op_in_seq (pv 2) (pe_tup (pa_cons pe_str (pa_cons pe_str pa_nil))) rfl) (pss_one (ps_expr (pe_bm PySem.F.plainAttrs_dict PySem.F.slot_dict_update PySem.F.type_dict_update mt_upd0 (pv 1) (pa_cons (pe_callTy (call_dictP rfl) (by rfl) T.b_dict bt_dict (pa_cons (pe_lc (own := [("name", 4)]) (tt := tYes) rfl sc_opens_of.nd (pi_tup (pe_c h_opens_in hr (by omega) (pa_cons (pv 3) pa_nil))) (blkOk_by (own := [("name", 4)]) (N := ["term", "found", "sort", "part", "name", "kind", "one"]) (sc := defScope s_opens_of) (by decide +kernel)) (fun _ _ _ _ _ => (pg_name (i := 4) sc_opens_of.nd rfl (Or.inl rfl) (hf := .inr rfl))) (fun _ _ _ _ _ => pts_nil) (fun _ _ _ _ _ => (pe_tup (pa_cons (pv 4) (pa_cons pe_bl pa_nil))))) pa_nil)) pa_nil)))) pss_nil) (pss_one (ps_if (pt_cmpR op_eq (pv 2) pe_str (nomark _)) pss_never pss_nil))))) (pss_cons (ps_if (pt_cmpR op_eq (pe_ix ix_tup (pv 0) pe_int (fun _ _ => rfl)) pe_str (nomark _)) pss_never pss_nil) (pss_one (ps_ret (pv 1)))))), ?_⟩
    intro g hg
    have s1 : Same H (upd H g (.dK [])) := same_new hg _
    have hs1 : SqT K (upd H g (.dK [])) a (.str t.word :: xs) := (tps s1).seq hs
    refine ⟨_, rfl, a, _, _, _, rfl, rfl, hs1, at0, a_FORMS, _, _, rfl, rfl, x_FORMS t, _, rfl, _, rfl, rSl1 hs1 fun p2 hn2 => ⟨t.form, p2, xs, rfl, .of upd_same, ?_⟩⟩
    have s2 : Same H (upd (upd H g (.dK [])) p2 (.tup xs)) := updN s1 hn2
    have hlen := hp.length
    have hg2 : g ≠ p2 := ne_of_none upd_same hn2
    have hmin : min t.form.cps.size xs.length = t.its.length := by rw [form_len, hlen, Nat.min_self]
    rw [hmin]
    refine for_it walk_q (fun i σ H3 => Same H H3 ∧ H3 g = some (.dK []) ∧ SqT K H3 p2 xs ∧ ∃ u1 u2 u3 u4 u5, σ = [some (.ref a), some (.ref g), u1, u2, u3, u4, u5]) ?_ ?_ ?_ ?_
    · exact ⟨s2, by rw [upd_ne hg2]; exact upd_same, .of upd_same, _, _, _, _, _, rfl⟩
    · exact fun i σ H3 _ h => h.2.2.1
    · rintro i x σ H3 H4 hi ⟨sh, hg3, hp3, u1, u2, u3, u4, u5, rfl⟩ ⟨Tp, x1, x2, rfl, hT, rfl, e1, e2⟩
      obtain ⟨it, hit, hx2⟩ := paired_at hp (show xs[i]? = some x2 from e2)
      rw [form_at hit] at e1
      cases e1
      have s4 : Same H3 (upd H3 Tp (.tup [.str ⟨#[it.sign]⟩, x2])) := same_new hT _
      have hmem := List.mem_of_getElem? hit
      have hx4 := hx2.mono (tps (sh.trans s4))
      refine ⟨Tp, _, rfl, .of upd_same, rfl, _, _, rfl, _, _, rfl, rfl, ?_⟩
      have rest : ∀ (H5 : Hp), Same (upd H3 Tp (.tup [.str ⟨#[it.sign]⟩, x2])) H5 → Same H H5 ∧ H5 g = some (.dK []) ∧ SqT K H5 p2 xs :=
        fun H5 s5 => ⟨sh.trans (s4.trans s5), s5 _ _ (s4 _ _ hg3), (tps (s4.trans s5)).seq hp3⟩
      cases it with
      | x z | n z =>
        refine ⟨_, rfl, rfl, _, rfl, ifF (decide_eq_false (by dsimp only [Kd.word, Tm.word, Tm.form, It.sign]; decide +kernel)) ?_⟩
        refine ⟨_, rfl, by decide, fun p3 hn3 => ⟨p3, _, rfl, .inr (.of upd_same), rfl, rfl, _, rfl, ifF (by dsimp only [Kd.word, Tm.word, Tm.form, It.sign]; decide +kernel) ?_⟩⟩
        refine ⟨_, rfl, rfl, _, rfl, ifF (decide_eq_false (by dsimp only [Kd.word, Tm.word, Tm.form, It.sign]; decide +kernel)) ?_⟩
        have r := rest _ (same_new hn3 adT)
        exact ⟨r.1, r.2.1, r.2.2, _, _, _, _, _, rfl⟩
      | t z =>
        refine ⟨_, rfl, rfl, _, rfl, ifT (decide_eq_true (by dsimp only [Kd.word, Tm.word, Tm.form, It.sign]; decide +kernel)) ?_⟩
        have lz : z.depth ≤ n := by have := Tm.inner_lt (its_inner hmem); omega
        refine ⟨_, rfl, .inr (.inr (.inl ⟨rfl, .inl ⟨_, s4 _ _ hg3⟩⟩)), _, rfl, x2, z, rfl, hx4, plain_inner hpl (its_inner hmem), lz, fun u H5 s5 ⟨b, e, hnb, hb⟩ => ?_⟩
        subst e
        refine ⟨g, b, [], rfl, rfl, ne_of_none (s4 _ _ hg3) hnb, s5 _ _ (s4 _ _ hg3), hb, ?_⟩
        refine ⟨_, rfl, by decide, fun p3 hn3 => ⟨p3, _, rfl, .inr (.of upd_same), rfl, rfl, _, rfl, ifF (by dsimp only [Kd.word, Tm.word, Tm.form, It.sign]; decide +kernel) ?_⟩⟩
        refine ⟨_, rfl, rfl, _, rfl, ifF (decide_eq_false (by dsimp only [Kd.word, Tm.word, Tm.form, It.sign]; decide +kernel)) ?_⟩
        have r := rest _ (s5.trans (same_new hn3 adT))
        exact ⟨r.1, r.2.1, r.2.2, _, _, _, _, _, rfl⟩
      | a k | d k =>
        refine ⟨_, rfl, rfl, _, rfl, ifF (decide_eq_false (by dsimp only [Kd.word, Tm.word, Tm.form, It.sign]; decide +kernel)) ?_⟩
        have lk : k.depth ≤ 1 := its_deep (by first | exact .inl hmem | exact .inr hmem)
        refine ⟨_, rfl, by decide, fun p3 hn3 => ⟨p3, _, rfl, .inr (.of upd_same), rfl, rfl, _, rfl, ifT (by dsimp only [Kd.word, Tm.word, Tm.form, It.sign]; decide +kernel) ?_⟩⟩
        have s5 := same_new hn3 adT
        have hg5 := s5 _ _ (s4 _ _ hg3)
        refine ⟨_, rfl, .inr (.inr (.inl ⟨rfl, .inl ⟨_, hg5⟩⟩)), _, rfl, x2, k, rfl, KdAt.same s5 hx4, lk, fun u H6 s6 ⟨b, e, hb⟩ => ?_⟩
        subst e
        refine ⟨b, rfl, ⟨[], hb⟩, fun D hD => ?_⟩
        refine lc_none (walk_tup (xs := [])) hD ((tps (same_new hD _)).seq hb) fun H7 s7 hD7 => ?_
        refine ⟨D, [], [], rfl, .of hD7, .nil, fun p8 hn8 => ?_⟩
        have s8 := s5.trans (s6.trans (updN (o := .dK []) s7 hn8))
        have hg8 := s8 _ _ (s4 _ _ hg3)
        refine ⟨g, p8, [], rfl, rfl, ne_of_none (s7 _ _ (s6 _ _ hg5)) hn8, (updN (s6.trans s7) hn8) _ _ hg5, upd_same, ?_⟩
        refine ⟨_, rfl, rfl, _, rfl, ifF (decide_eq_false (by dsimp only [Kd.word, Tm.word, Tm.form, It.sign]; decide +kernel)) ?_⟩
        have r := rest _ s8
        exact ⟨r.1, r.2.1, r.2.2, _, _, _, _, _, rfl⟩
      | f => exact (its_plain hpl hmem).elim
    · rintro σ H3 ⟨sh, hg3, hp3, u1, u2, u3, u4, u5, rfl⟩
      refine ⟨_, rfl, a, _, _, _, rfl, rfl, (tps sh).seq hs, at0, rfl, _, rfl, ifF (decide_eq_false (by cases t <;> (dsimp only [Tm.word]; decide +kernel))) ?_⟩
      exact ⟨_, rfl, q _ _ sh ⟨g, rfl, hg, hg3⟩⟩
end
end K70
namespace K70
open PySem PySem.Spec PyProof.Rows L2
theorem psnoc {α β : Type} {F : α → β → Prop} {xs : List α} {ys : List β} {x : α} {y : β} (p : Paired F xs ys) (h : F x y) : Paired F (xs ++ [x]) (ys ++ [y]) := by
  induction p with
  | nil => exact .cons h .nil
  | cons a _ ih => exact .cons a ih
theorem take_snoc {α : Type} {l : List α} {i : Nat} {x : α} (h : l[i]? = some x) : l.take (i + 1) = l.take i ++ [x] := by rw [List.take_succ, h]; rfl
section
variable {P : Program} {w : World} {K : PySem.W.Frag} {mg : Str → Option Value} {base : Heap}
/-! ### opens_brought of nothing -/
def spBrought : Sp := fun vs H Q _ => ∃ l, vs = [.ref l] ∧ H l = some (.lst []) ∧ Ret H Q (NewD0 H)
theorem has_opens_brought (T : Txt w K mg) : Has P w K mg base CX0 4 "opens_brought" spBrought := by
  obtain ⟨f, fd, D⟩ := T.f_opens_brought
  have h_opens_in := has_opens_in (P := P) (base := base) T 1
  refine D.ok0 sc_opens_brought (fun vs H Q E h => ?_) (fun cdv A outer s H vs Q E hr h => ?_)
  · obtain ⟨_, rfl, _⟩ := h
    rfl
  obtain ⟨l, rfl, hl, q⟩ := h
  refine ⟨_, (pss_cons (ps_set (i := 1) sc_opens_brought.nd rfl (Or.inl rfl) pe_dnewK) (pss_cons (ps_for PassesOwn.never rfl (pi_list (pv 0)) (pg_name (i := 2) sc_opens_brought.nd rfl (Or.inl rfl)) pss_never) (pss_one (ps_ret (pv 1))))), ?_⟩
  intro g hg
  have s1 : Same H (upd H g (.dK [])) := same_new hg _
  refine ⟨_, rfl, l, rfl, ⟨[], .of (s1 _ _ hl)⟩, for_none (walk_list (xs := [])) (.of (s1 _ _ hl)) ?_⟩
  exact ⟨_, rfl, q _ _ s1 ⟨g, rfl, hg, upd_same⟩⟩
/-! ### put_in_term: a copy -/
def spPutTm (K : PySem.W.Frag) (n : Nat) : Sp := fun vs H Q _ => ∃ v t tb tk, vs = [v, tb, tk] ∧ TmAt K H v t ∧ t.plain = true ∧ t.depth ≤ n ∧ Ret H Q fun u H' => TmAt K H' u t
theorem has_put_in_term (T : Txt w K mg) : ∀ n, Has P w K mg base CX0 (n + 3) "put_in_term" (spPutTm K n) := by
  intro n
  obtain ⟨f, fd, D⟩ := T.f_put_in_term
  have h_put_in := has_put_in (P := P) (base := base) T 1
  induction n with
  | zero => exact D.none sc_put_in_term fun vs H Q E ⟨_, k, _, _, _, _, _, l, _⟩ => by have := k.depth_pos; omega
  | succ n h_put_in_term =>
    refine D.ok0 sc_put_in_term (fun vs H Q E h => ?_) (fun cdv A outer s H vs Q E hr h => ?_)
    · obtain ⟨_, _, _, _, rfl, _⟩ := h
      rfl
    obtain ⟨v, t, tb, tk, rfl, ht, hpl, hl, q⟩ := h
    obtain ⟨a, xs, rfl, hs, hp⟩ := ht.view
    obtain ⟨a_FORMS, m_FORMS, x_FORMS⟩ := T.d_forms
    refine ⟨_, (pss_cons (ps_if (pt_cmpR op_eq (pe_ix ix_tup (pv 0) pe_int (fun _ _ => rfl)) pe_str (nomark _)) pss_never pss_nil) (pss_cons (ps_set (i := 3) sc_put_in_term.nd rfl (Or.inl rfl) (pe_lst (pa_cons (pe_ix ix_tup (pv 0) pe_int (fun _ _ => rfl)) pa_nil))) (pss_cons (ps_for PassesOwn.never rfl (pi_zipST rfl T.b_zip (pa_cons (pe_ix ix_kdict (pe_glob (v := .ref a_FORMS) rfl m_FORMS rfl) (pe_ix ix_tup (pv 0) pe_int (fun _ _ => rfl)) (fun _ _ => rfl)) (pa_cons (pe_slice sl_tupA (pv 0) (po_some pe_int) po_none) pa_nil))) (pg_tup rfl (pgs_cons (pg_name (i := 4) sc_put_in_term.nd rfl (Or.inl rfl)) (pgs_cons (pg_name (i := 5) sc_put_in_term.nd rfl (Or.inl rfl)) pgs_nil))) (pss_cons (ps_if (pt_cmpR op_eq (pv 4) pe_str (nomark _)) (pss_one (ps_set (i := 5) sc_put_in_term.nd rfl (Or.inl rfl) (pe_c h_put_in_term hr (by omega) (pa_cons (pv 5) (pa_cons (pv 1) (pa_cons (pv 2) pa_nil)))))) pss_nil) (pss_cons (ps_if (pt_cmpR op_in_seq (pv 4) (pe_tup (pa_cons pe_str (pa_cons pe_str pa_nil))) rfl) (pss_one (ps_set (i := 5) sc_put_in_term.nd rfl (Or.inl rfl) (pe_c h_put_in hr (by omega) (pa_cons (pv 5) (pa_cons (pv 1) pa_nil))))) pss_nil) (pss_cons (ps_if (pt_cmpR op_eq (pv 4) pe_str (nomark _)) pss_never pss_nil) (pss_one (ps_expr (pe_bm PySem.F.plainAttrs_list PySem.F.slot_list_append PySem.F.type_list_append mt_append (pv 3) (pa_cons (pv 5) pa_nil)))))))) (pss_one (ps_ret (pe_tupleOf rfl T.b_tuple (pv 3))))))), ?_⟩
    refine ⟨_, rfl, a, _, _, _, rfl, rfl, hs, at0, rfl, _, rfl, ifF (decide_eq_false (by cases t <;> (dsimp only [Tm.word]; decide +kernel))) ?_⟩
    refine ⟨_, rfl, a, _, _, _, rfl, rfl, hs, at0, (show 1 ≤ sizeLine by decide), fun g hg => ?_⟩
    have s1 : Same H (upd H g (.lst [.str t.word])) := same_new hg _
    have hs1 : SqT K (upd H g (.lst [.str t.word])) a (.str t.word :: xs) := (tps s1).seq hs
    refine ⟨_, rfl, a, _, _, _, rfl, rfl, hs1, at0, a_FORMS, _, _, rfl, rfl, x_FORMS t, _, rfl, _, rfl, rSl1 hs1 fun p2 hn2 => ⟨t.form, p2, xs, rfl, .of upd_same, ?_⟩⟩
    have s2 : Same H (upd (upd H g (.lst [.str t.word])) p2 (.tup xs)) := updN s1 hn2
    have hlen := hp.length
    have hg2 : g ≠ p2 := ne_of_none upd_same hn2
    have hmin : min t.form.cps.size xs.length = t.its.length := by rw [form_len, hlen, Nat.min_self]
    have hitl := its_len t
    rw [hmin]
    refine for_it walk_q (fun i σ H3 => Same H H3 ∧ SqT K H3 p2 xs ∧ (∃ zs, H3 g = some (.lst (.str t.word :: zs)) ∧ Paired (ItAt K H3) zs (t.its.take i)) ∧ ∃ u1 u2 u3 u4, σ = [some (.ref a), some tb, some tk, some (.ref g), u1, u2, u3, u4]) ?_ ?_ ?_ ?_
    · exact ⟨s2, .of upd_same, ⟨[], by rw [upd_ne hg2]; exact upd_same, .nil⟩, _, _, _, _, rfl⟩
    · exact fun i σ H3 _ h => h.2.1
    · rintro i x σ H3 H4 hi ⟨sh, hp3, ⟨zs, hg3, hzs⟩, u1, u2, u3, u4, rfl⟩ ⟨Tp, x1, x2, rfl, hT, rfl, e1, e2⟩
      obtain ⟨it, hit, hx2⟩ := paired_at hp (show xs[i]? = some x2 from e2)
      rw [form_at hit] at e1
      cases e1
      have s4 : Same H3 (upd H3 Tp (.tup [.str ⟨#[it.sign]⟩, x2])) := same_new hT _
      have hmem := List.mem_of_getElem? hit
      have hx4 := hx2.mono (tps (sh.trans s4))
      have hzl : zs.length ≤ 3 := by have := hzs.length; rw [List.length_take] at this; omega
      have hsz : (V.str t.word :: zs).length < sizeLine := Nat.lt_of_le_of_lt (by rw [List.length_cons]; omega : _ ≤ 1000) (by decide)
      refine ⟨Tp, _, rfl, .of upd_same, rfl, _, _, rfl, _, _, rfl, rfl, ?_⟩
      have rest : ∀ (H5 : Hp) (y : V), Same (upd H3 Tp (.tup [.str ⟨#[it.sign]⟩, x2])) H5 → ItAt K H5 y it → H5 g = some (.lst (.str t.word :: zs)) ∧ (Same H (upd H5 g (.lst (.str t.word :: zs ++ [y]))) ∧ SqT K (upd H5 g (.lst (.str t.word :: zs ++ [y]))) p2 xs ∧
          (∃ zs', upd H5 g (.lst (.str t.word :: zs ++ [y])) g = some (.lst (.str t.word :: zs')) ∧ Paired (ItAt K (upd H5 g (.lst (.str t.word :: zs ++ [y])))) zs' (t.its.take (i + 1)))) := by
        intro H5 y s5 hy
        have hg5 := (s4.trans s5) _ _ hg3
        have tm : Tps H5 (upd H5 g (.lst (.str t.word :: zs ++ [y]))) := tps_mut hg5 rfl
        refine ⟨hg5, same_mut (sh.trans (s4.trans s5)) hg, ((tps (s4.trans s5)).trans tm).seq hp3, zs ++ [y], upd_same, ?_⟩
        rw [take_snoc hit]
        exact psnoc (Paired.mapP hzs fun _ _ h => h.mono ((tps (s4.trans s5)).trans tm)) (hy.mono tm)
      cases it with
      | x z | n z =>
        refine ⟨_, rfl, rfl, _, rfl, ifF (decide_eq_false (by dsimp only [Kd.word, Tm.word, Tm.form, It.sign]; decide +kernel)) ?_⟩
        refine ⟨_, rfl, by decide, fun p3 hn3 => ⟨p3, _, rfl, .inr (.of upd_same), rfl, rfl, _, rfl, ifF (by dsimp only [Kd.word, Tm.word, Tm.form, It.sign]; decide +kernel) ?_⟩⟩
        refine ⟨_, rfl, rfl, _, rfl, ifF (decide_eq_false (by dsimp only [Kd.word, Tm.word, Tm.form, It.sign]; decide +kernel)) ?_⟩
        have s5 := same_new hn3 adT
        obtain ⟨r1, r2, r3, r4⟩ := rest _ x2 s5 (hx4.mono (tps s5))
        exact ⟨_, rfl, .inl ⟨rfl, _, .of r1⟩, _, rfl, g, _, _, rfl, rfl, r1, hsz, r2, r3, r4, _, _, _, _, rfl⟩
      | t z =>
        refine ⟨_, rfl, rfl, _, rfl, ifT (decide_eq_true (by dsimp only [Kd.word, Tm.word, Tm.form, It.sign]; decide +kernel)) ?_⟩
        have lz : z.depth ≤ n := by have := Tm.inner_lt (its_inner hmem); omega
        refine ⟨_, rfl, _, rfl, _, rfl, x2, z, _, _, rfl, hx4, plain_inner hpl (its_inner hmem), lz, fun u H5 s5 hu => ?_⟩
        refine ⟨_, rfl, by decide, fun p3 hn3 => ⟨p3, _, rfl, .inr (.of upd_same), rfl, rfl, _, rfl, ifF (by dsimp only [Kd.word, Tm.word, Tm.form, It.sign]; decide +kernel) ?_⟩⟩
        refine ⟨_, rfl, rfl, _, rfl, ifF (decide_eq_false (by dsimp only [Kd.word, Tm.word, Tm.form, It.sign]; decide +kernel)) ?_⟩
        have s6 := same_new hn3 adT
        obtain ⟨r1, r2, r3, r4⟩ := rest _ u (s5.trans s6) (hu.same s6)
        exact ⟨_, rfl, .inl ⟨rfl, _, .of r1⟩, _, rfl, g, _, _, rfl, rfl, r1, hsz, r2, r3, r4, _, _, _, _, rfl⟩
      | a k | d k =>
        refine ⟨_, rfl, rfl, _, rfl, ifF (decide_eq_false (by dsimp only [Kd.word, Tm.word, Tm.form, It.sign]; decide +kernel)) ?_⟩
        have lk : k.depth ≤ 1 := its_deep (by first | exact .inl hmem | exact .inr hmem)
        refine ⟨_, rfl, by decide, fun p3 hn3 => ⟨p3, _, rfl, .inr (.of upd_same), rfl, rfl, _, rfl, ifT (by dsimp only [Kd.word, Tm.word, Tm.form, It.sign]; decide +kernel) ?_⟩⟩
        have s5 := same_new hn3 adT
        refine ⟨_, rfl, _, rfl, x2, _, k, rfl, KdAt.same s5 hx4, lk, fun u H6 s6 hu => ?_⟩
        refine ⟨_, rfl, rfl, _, rfl, ifF (decide_eq_false (by dsimp only [Kd.word, Tm.word, Tm.form, It.sign]; decide +kernel)) ?_⟩
        obtain ⟨r1, r2, r3, r4⟩ := rest _ u (s5.trans s6) hu
        exact ⟨_, rfl, .inl ⟨rfl, _, .of r1⟩, _, rfl, g, _, _, rfl, rfl, r1, hsz, r2, r3, r4, _, _, _, _, rfl⟩
      | f => exact (its_plain hpl hmem).elim
    · rintro σ H3 ⟨sh, hp3, ⟨zs, hg3, hzs⟩, u1, u2, u3, u4, rfl⟩
      rw [List.take_length] at hzs
      refine ⟨_, rfl, .inl ⟨g, _, rfl, .of hg3, fun p hnp => ?_⟩⟩
      have s5 := same_new hnp (.tup (.str t.word :: zs))
      exact q _ _ (sh.trans s5) (TmAt.mk (.of upd_same) (Paired.mapP hzs fun _ _ h => h.mono (tps s5)))
/-! ### filled_beside, filled_term -/
def spBeside (K : PySem.W.Frag) (n : Nat) : Sp := fun vs H Q _ => ∃ v t z d, vs = [v, .ref z, .ref d] ∧ TmAt K H v t ∧ t.plain = true ∧ t.depth ≤ n ∧ E0At H z ∧ H d = some (.dK []) ∧ Ret H Q fun u H' => TmAt K H' u t
theorem has_filled_beside (T : Txt w K mg) (n : Nat) : Has P w K mg base CX0 (n + 5) "filled_beside" (spBeside K n) := by
  obtain ⟨f, fd, D⟩ := T.f_filled_beside
  have h_opens_of := has_opens_of (P := P) (base := base) T n
  have h_opens_brought := has_opens_brought (P := P) (base := base) T
  have h_put_in_term := has_put_in_term (P := P) (base := base) T n
  refine D.ok0 sc_filled_beside (fun vs H Q E h => ?_) (fun cdv A outer s H vs Q E hr h => ?_)
  · obtain ⟨_, _, _, _, rfl, _⟩ := h
    rfl
  obtain ⟨v, t, z, d, rfl, ht, hpl, hl, hz, hd, q⟩ := h
  refine ⟨_, (pss_cons (ps_set (i := 3) sc_filled_beside.nd rfl (Or.inl rfl) (pe_op op_cat (pe_op op_cat (pe_callTy (call_listD rfl) (by rfl) T.b_list bt_list (pa_cons (pv 2) pa_nil)) (pe_callTy (call_listD rfl) (by rfl) T.b_list bt_list (pa_cons (pe_c h_opens_of hr (by omega) (pa_cons (pv 0) pa_nil)) pa_nil))) (pe_callTy (call_listD rfl) (by rfl) T.b_list bt_list (pa_cons (pe_c h_opens_brought hr (by omega) (pa_cons (pe_lc (own := [("name", 4), ("kind", 5)]) (g := gTup K 2 (gCons (gName 4) (gCons (gName 5) gNil))) (tt := tYes) rfl sc_filled_beside.nd (pi_tup (pv 1)) (blkOk_by (own := [("name", 4), ("kind", 5)]) (N := ["term", "fills", "taken", "names", "name", "kind"]) (sc := defScope s_filled_beside) (by decide +kernel)) (fun _ _ _ _ _ => (pg_tup rfl (pgs_cons (pg_name (i := 4) sc_filled_beside.nd rfl (Or.inl rfl) (hf := .inr rfl)) (pgs_cons (pg_name (i := 5) sc_filled_beside.nd rfl (Or.inl rfl) (hf := .inr rfl)) pgs_nil)))) (fun _ _ _ _ _ => pts_nil) (fun _ _ _ _ _ => pv 5)) pa_nil)) pa_nil)))) (pss_cons (ps_set (i := 3) sc_filled_beside.nd rfl (Or.inl rfl) (pe_op op_cat (pv 3) (pe_lc (own := [("name", 4), ("kind", 5)]) (g := gTup K 2 (gCons (gName 4) (gCons (gName 5) gNil))) (tt := tYes) rfl sc_filled_beside.nd (pi_tup (pv 1)) (blkOk_by (own := [("name", 4), ("kind", 5)]) (N := ["term", "fills", "taken", "names", "name", "kind"]) (sc := defScope s_filled_beside) (by decide +kernel)) (fun _ _ _ _ _ => (pg_tup rfl (pgs_cons (pg_name (i := 4) sc_filled_beside.nd rfl (Or.inl rfl) (hf := .inr rfl)) (pgs_cons (pg_name (i := 5) sc_filled_beside.nd rfl (Or.inl rfl) (hf := .inr rfl)) pgs_nil)))) (fun _ _ _ _ _ => pts_nil) (fun _ _ _ _ _ => (pv 4))))) (pss_one (ps_ret (pe_c h_put_in_term hr (by omega) (pa_cons (pv 0) (pa_cons (pe_callTy (call_dict0 rfl) (by rfl) T.b_dict bt_dict (pa_cons (pv 1) pa_nil)) (pa_cons (pe_tupleOf rfl T.b_tuple (pv 3)) pa_nil)))))))), ?_⟩
  refine ⟨_, rfl, d, [], rfl, .of hd, fun l1 n1 => ?_⟩
  have s1 := same_new n1 (.lst [])
  refine ⟨_, rfl, v, t, rfl, ht.same s1, hpl, hl, fun u H2 s2 ⟨b, e, hnb, hb⟩ => ?_⟩
  subst e
  refine ⟨b, [], rfl, .of hb, fun l2 n2 => ?_⟩
  have s3 : Same _ (upd H2 l2 (.lst [])) := same_new n2 (.lst [])
  refine ⟨l1, l2, [], [], rfl, rfl, (s2.trans s3) _ _ upd_same, upd_same, by decide, fun l3 n3 => ?_⟩
  have s4 := same_new n3 (.lst ([] ++ []))
  have z4 : SqT K _ z [] := (tps (s1.trans (s2.trans (s3.trans s4)))).seq hz.seq
  refine ⟨_, rfl, z, rfl, ⟨_, z4⟩, fun D hD => ?_⟩
  refine lc_none (walk_tup (xs := [])) hD ((tps (same_new hD _)).seq z4) fun H5 s5 hD5 => ?_
  refine ⟨D, rfl, hD5, fun u H6 s6 ⟨b2, e, hnb2, hb2⟩ => ?_⟩
  subst e
  refine ⟨b2, [], rfl, .of hb2, fun l4 n4 => ?_⟩
  have s7 : Same _ (upd H6 l4 (.lst [])) := same_new n4 (.lst [])
  refine ⟨l3, l4, [], [], rfl, rfl, (s5.trans (s6.trans s7)) _ _ upd_same, upd_same, by decide, fun l5 n5 => ?_⟩
  have s8 := same_new n5 (.lst ([] ++ []))
  have z8 : SqT K _ z [] := (tps (s5.trans (s6.trans (s7.trans s8)))).seq z4
  refine ⟨_, rfl, _, rfl, z, rfl, ⟨_, z8⟩, fun D2 hD2 => ?_⟩
  refine lc_none (walk_tup (xs := [])) hD2 ((tps (same_new hD2 _)).seq z8) fun H9 s9 hD9 => ?_
  refine ⟨l5, D2, [], [], rfl, rfl, s9 _ _ upd_same, hD9, by decide, fun l6 n6 => ?_⟩
  have s10 := same_new n6 (.lst ([] ++ []))
  have sA := s1.trans (s2.trans (s3.trans (s4.trans (s5.trans (s6.trans (s7.trans (s8.trans (s9.trans s10))))))))
  refine ⟨_, rfl, _, rfl, z, rfl, (tps sA).e0 hz, fun p1 m1 => ?_⟩
  have sB := updN (o := .dK []) sA m1
  refine ⟨_, rfl, .inl ⟨l6, _, rfl, .of ((same_new m1 (.dK [])) _ _ upd_same), fun p2 m2 => ?_⟩⟩
  have sC := updN (o := .tup ([] ++ [])) sB m2
  exact ⟨v, t, _, _, rfl, ht.same sC, hpl, hl, fun u H' s' hu => q _ _ (sC.trans s') hu⟩
def spFilledTm (K : PySem.W.Frag) (n : Nat) : Sp := fun vs H Q _ => ∃ v t z, vs = [v, .ref z] ∧ TmAt K H v t ∧ t.plain = true ∧ t.depth ≤ n ∧ E0At H z ∧ Ret H Q fun u H' => TmAt K H' u t
theorem has_filled_term (T : Txt w K mg) (n : Nat) : Has P w K mg base CX0 (n + 6) "filled_term" (spFilledTm K n) := by
  obtain ⟨f, fd, D⟩ := T.f_filled_term
  have h_filled_beside := has_filled_beside (P := P) (base := base) T n
  refine D.ok0 sc_filled_term (fun vs H Q E h => ?_) (fun cdv A outer s H vs Q E hr h => ?_)
  · obtain ⟨_, _, _, rfl, _⟩ := h
    rfl
  obtain ⟨v, t, z, rfl, ht, hpl, hl, hz, q⟩ := h
  refine ⟨_, (pss_one (ps_ret (pe_c h_filled_beside hr (by omega) (pa_cons (pv 0) (pa_cons (pv 1) (pa_cons pe_dnewK pa_nil)))))), ?_⟩
  refine ⟨_, rfl, _, rfl, fun d hd => ?_⟩
  have s1 := same_new hd (.dK [])
  exact ⟨v, t, z, d, rfl, ht.same s1, hpl, hl, (tps s1).e0 hz, upd_same, fun u H' s2 hu => q _ _ (s1.trans s2) hu⟩
end
end K70
namespace K70
open PySem PySem.Spec PyProof.Rows L2
theorem kd_depth : ∀ k : Kd, k.enc.depth ≤ k.depth + 1
  | .num => by decide
  | .truth => by decide
  | .pair a b => by
    have := kd_depth a; have := kd_depth b
    simp only [Kd.enc, Kd.depth, PyData.depth, PyData.depthAll]; omega
  | .eith a b => by
    have := kd_depth a; have := kd_depth b
    simp only [Kd.enc, Kd.depth, PyData.depth, PyData.depthAll]; omega
  | .fn a b => by
    have := kd_depth a; have := kd_depth b
    simp only [Kd.enc, Kd.depth, PyData.depth, PyData.depthAll]; omega
theorem cl_str {x : Str} (h : PyData.canLay0 (.str x) = true) {r : List PyData} : PyData.canLayAll0 (.str x :: r) = PyData.canLayAll0 r := by simp only [PyData.canLayAll0, h, Bool.true_and]
theorem ly_num : PyData.canLay0 (.str "num") = true := by decide +kernel
theorem ly_truth : PyData.canLay0 (.str "truth") = true := by decide +kernel
theorem ly_pair : PyData.canLay0 (.str "pair") = true := by decide +kernel
theorem ly_either : PyData.canLay0 (.str "either") = true := by decide +kernel
theorem ly_fun : PyData.canLay0 (.str "fun") = true := by decide +kernel
theorem ly_name : PyData.canLay0 (.str "name") = true := by decide +kernel
theorem ly_x : PyData.canLay0 (.str "x") = true := by decide +kernel
theorem ly_told : PyData.canLay0 (.str "told") = true := by decide +kernel
theorem ly_one : PyData.canLay0 (.str "one") = true := by decide +kernel
theorem ly_other : PyData.canLay0 (.str "other") = true := by decide +kernel
theorem ly_call : PyData.canLay0 (.str "call") = true := by decide +kernel
theorem ly_plus : PyData.canLay0 (.str "plus") = true := by decide +kernel
theorem ly_left : PyData.canLay0 (.str "left") = true := by decide +kernel
theorem kd_lay : ∀ k : Kd, k.enc.canLay0 = true
  | .num => by simp only [Kd.enc, PyData.canLay0, cl_str ly_num]; rfl
  | .truth => by simp only [Kd.enc, PyData.canLay0, cl_str ly_truth]; rfl
  | .pair a b => by simp only [Kd.enc, PyData.canLay0, cl_str ly_pair, PyData.canLayAll0, kd_lay a, kd_lay b, Bool.and_true]; decide +kernel
  | .eith a b => by simp only [Kd.enc, PyData.canLay0, cl_str ly_either, PyData.canLayAll0, kd_lay a, kd_lay b, Bool.and_true]; decide +kernel
  | .fn a b => by simp only [Kd.enc, PyData.canLay0, cl_str ly_fun, PyData.canLayAll0, kd_lay a, kd_lay b, Bool.and_true]; decide +kernel
theorem kd_shaped {k : Kd} (h : k.depth ≤ 60) : SeqAt.shaped k.enc = true := by
  have := kd_depth k
  show (k.enc.canLay0 && decide (k.enc.depth ≤ 64)) = true
  rw [kd_lay, decide_eq_true (by omega : k.enc.depth ≤ 64)]
  rfl
theorem kd_eqv (k : Kd) : PyData.eqv k.enc k.enc = true := SeqAt.eqv_refl _ (kd_lay k)
theorem tm_depth : ∀ t : Tm, t.enc.depth ≤ t.depth + 2
  | .nm => by decide
  | .one => by decide
  | .told => by decide
  | .fn t => by
    have := tm_depth t; have := kd_depth .num; have : Kd.num.depth = 1 := rfl
    simp only [Tm.enc, Tm.depth, PyData.depth, PyData.depthAll]; omega
  | .call s t => by
    have := tm_depth s; have := tm_depth t
    simp only [Tm.enc, Tm.depth, PyData.depth, PyData.depthAll]; omega
  | .plus s t => by
    have := tm_depth s; have := tm_depth t
    simp only [Tm.enc, Tm.depth, PyData.depth, PyData.depthAll]; omega
  | .pair s t => by
    have := tm_depth s; have := tm_depth t
    simp only [Tm.enc, Tm.depth, PyData.depth, PyData.depthAll]; omega
  | .left t => by
    have := tm_depth t; have := kd_depth .truth; have : Kd.truth.depth = 1 := rfl
    simp only [Tm.enc, Tm.depth, PyData.depth, PyData.depthAll]; omega
theorem tm_lay : ∀ t : Tm, t.enc.canLay0 = true
  | .nm => by simp only [Tm.enc, PyData.canLay0, cl_str ly_name, cl_str ly_x]; rfl
  | .one => by decide +kernel
  | .told => by decide +kernel
  | .fn t => by simp only [Tm.enc, PyData.canLay0, cl_str ly_fun, cl_str ly_x, PyData.canLayAll0, kd_lay .num, tm_lay t, Bool.and_true]; decide +kernel
  | .call s t => by simp only [Tm.enc, PyData.canLay0, cl_str ly_call, PyData.canLayAll0, tm_lay s, tm_lay t, Bool.and_true]; decide +kernel
  | .plus s t => by simp only [Tm.enc, PyData.canLay0, cl_str ly_plus, PyData.canLayAll0, tm_lay s, tm_lay t, Bool.and_true]; decide +kernel
  | .pair s t => by simp only [Tm.enc, PyData.canLay0, cl_str ly_pair, PyData.canLayAll0, tm_lay s, tm_lay t, Bool.and_true]; decide +kernel
  | .left t => by simp only [Tm.enc, PyData.canLay0, cl_str ly_left, PyData.canLayAll0, kd_lay .truth, tm_lay t, Bool.and_true]; decide +kernel
theorem tm_shaped {t : Tm} (h : t.depth ≤ 60) : SeqAt.shaped t.enc = true := by
  have := tm_depth t
  show (t.enc.canLay0 && decide (t.enc.depth ≤ 64)) = true
  rw [tm_lay, decide_eq_true (by omega : t.enc.depth ≤ 64)]
  rfl
theorem tm_eqv (t : Tm) : PyData.eqv t.enc t.enc = true := SeqAt.eqv_refl _ (tm_lay t)
/-- the kind of a term; none: no kind -/
def kin (kn : Option Kd) : Bool → Tm → Option Kd
  | bd, .nm => if bd = true then some .num else none
  | _, .one => some .num
  | _, .told => kn
  | _, .fn t => (kin kn true t).map (Kd.fn .num)
  | bd, .call s t => match kin kn bd s, kin kn bd t with
    | some (.fn a b), some c => if c = a then some b else none
    | _, _ => none
  | bd, .plus s t => match kin kn bd s, kin kn bd t with
    | some .num, some .num => some .num
    | _, _ => none
  | bd, .pair s t => match kin kn bd s, kin kn bd t with
    | some a, some b => if a.isData = true ∧ b.isData = true then some (.pair a b) else none
    | _, _ => none
  | bd, .left t => match kin kn bd t with
    | some a => if a.isData = true then some (.eith a .truth) else none
    | none => none
theorem kin_fn {kn : Option Kd} {bd : Bool} {t : Tm} {k : Kd} (h : kin kn bd (.fn t) = some k) : ∃ j, kin kn true t = some j ∧ k = .fn .num j := by
  simp only [kin, Option.map_eq_some_iff] at h
  obtain ⟨j, h1, h2⟩ := h
  exact ⟨j, h1, h2.symm⟩
theorem kin_call {kn : Option Kd} {bd : Bool} {s t : Tm} {k : Kd} (h : kin kn bd (.call s t) = some k) : ∃ a, kin kn bd s = some (.fn a k) ∧ kin kn bd t = some a := by
  simp only [kin] at h
  split at h
  · rename_i a b c h1 h2
    split at h
    · rename_i h3
      cases h
      exact ⟨a, h1, h3 ▸ h2⟩
    · cases h
  · cases h
theorem kin_plus {kn : Option Kd} {bd : Bool} {s t : Tm} {k : Kd} (h : kin kn bd (.plus s t) = some k) : kin kn bd s = some .num ∧ kin kn bd t = some .num ∧ k = .num := by
  simp only [kin] at h
  split at h
  · rename_i h1 h2
    cases h
    exact ⟨h1, h2, rfl⟩
  · cases h
theorem kin_pair {kn : Option Kd} {bd : Bool} {s t : Tm} {k : Kd} (h : kin kn bd (.pair s t) = some k) : ∃ a b, kin kn bd s = some a ∧ kin kn bd t = some b ∧ a.isData = true ∧ b.isData = true ∧ k = .pair a b := by
  simp only [kin] at h
  split at h
  · rename_i a b h1 h2
    split at h
    · rename_i h3
      cases h
      exact ⟨a, b, h1, h2, h3.1, h3.2, rfl⟩
    · cases h
  · cases h
theorem kin_left {kn : Option Kd} {bd : Bool} {t : Tm} {k : Kd} (h : kin kn bd (.left t) = some k) : ∃ a, kin kn bd t = some a ∧ a.isData = true ∧ k = .eith a .truth := by
  simp only [kin] at h
  split at h
  · rename_i a h1
    split at h
    · rename_i h3
      cases h
      exact ⟨a, h1, h3, rfl⟩
    · cases h
  · cases h
theorem kin_deep {kn : Option Kd} {B : Nat} (hB : ∀ k, kn = some k → k.depth ≤ B) : ∀ (t : Tm) (bd : Bool) (k : Kd), kin kn bd t = some k → k.depth ≤ B + t.depth
  | .nm, bd, k, h => by
    simp only [kin] at h
    split at h
    · cases h; simp only [Kd.depth, Tm.depth]; omega
    · cases h
  | .one, bd, k, h => by simp only [kin] at h; cases h; simp only [Kd.depth, Tm.depth]; omega
  | .told, bd, k, h => by simp only [kin] at h; have := hB k h; omega
  | .fn t, bd, k, h => by
    obtain ⟨j, h1, rfl⟩ := kin_fn h
    have := kin_deep hB t _ _ h1
    simp only [Kd.depth, Tm.depth]; have := j.depth_pos; omega
  | .call s t, bd, k, h => by
    obtain ⟨a, h1, h2⟩ := kin_call h
    have := kin_deep hB s _ _ h1
    simp only [Kd.depth, Tm.depth] at this ⊢; omega
  | .plus s t, bd, k, h => by
    obtain ⟨h1, h2, rfl⟩ := kin_plus h
    simp only [Kd.depth, Tm.depth]; omega
  | .pair s t, bd, k, h => by
    obtain ⟨a, b, h1, h2, _, _, rfl⟩ := kin_pair h
    have := kin_deep hB s _ _ h1
    have := kin_deep hB t _ _ h2
    simp only [Kd.depth, Tm.depth]; omega
  | .left t, bd, k, h => by
    obtain ⟨a, h1, _, rfl⟩ := kin_left h
    have := kin_deep hB t _ _ h1
    simp only [Kd.depth, Tm.depth]; have := a.depth_pos; omega
end K70
namespace K70
open PySem PySem.Spec PyProof.Rows L2
section
variable {J : L2.It} {G : Hp → Prop} {Y : Nat → Hp → V → Hp → Prop}
theorem for_one (w : Walk J 1 G Y) {g : TG} {tb : TS} {D : Ends} {σ : L2.St} {H : Hp} (P1 : L2.St → Hp → Prop) (hG : G H) (hG1 : ∀ σ H, P1 σ H → G H)
    (hs : ∀ x H', Y 0 H x H' → g x σ H' fun σ2 H2 => tb { D with nx := P1, ct := P1, bk := D.nx } σ2 H2) (hd : ∀ σ H, P1 σ H → D.nx σ H) :
    ∃ W : Nat → Nat → L2.St → Hp → Prop, (∃ m, W 0 m σ H) ∧ ∀ i m σ H, W i m σ H → (J.stop i H ∧ D.nx σ H) ∨ (J.go i H ∧ ∃ N : L2.St → Hp → Prop, (∀ σ' H', N σ' H' → ∃ m', m' < m ∧ W (i + 1) m' σ' H') ∧ ∀ x H', J.yld i H x H' → g x σ H' fun σ2 H2 => tb { D with nx := N, ct := N, bk := D.nx } σ2 H2) := by
  refine for_it w (fun i σ' H' => match i with | 0 => σ' = σ ∧ H' = H | _ + 1 => P1 σ' H') ⟨rfl, rfl⟩ ?_ ?_ hd
  · intro i σ' H' hi h
    cases i with
    | zero => exact h.2 ▸ hG
    | succ i => exact hG1 _ _ h
  · intro i x σ' H' H'' hi h y
    cases i with
    | zero =>
      obtain ⟨rfl, rfl⟩ := h
      exact hs _ _ y
    | succ i => exact absurd hi (by omega)
end
/-- a told pair: looked, and the kind -/
def KnAt (K : PySem.W.Frag) (H : Hp) : List (Key × V) → Option Kd → Prop
  | kvs, none => kvs = []
  | kvs, some k => ∃ p z u, kvs = [(.inr "one", .ref p)] ∧ SqT K H p [.ref z, u] ∧ SqT K H z [] ∧ KdAt K H u k
def BdAt (K : PySem.W.Frag) (H : Hp) : List (Key × V) → Bool → Prop
  | kvs, false => kvs = []
  | kvs, true => ∃ u, kvs = [(.inr "x", u)] ∧ KdAt K H u .num
def ScAt (K : PySem.W.Frag) (CS : Addr) (H : Hp) (v : V) (kn : Option Kd) (bd : Bool) : Prop :=
  ∃ a dx vl kd bb kvs bvs, v = .ref a ∧ H a = some (.ins CS dx [("looks", vl), ("knowns", .ref kd), ("binds", .ref bb)]) ∧ H kd = some (.dK kvs) ∧ KnAt K H kvs kn ∧ H bb = some (.dK bvs) ∧ BdAt K H bvs bd
section
variable {K : PySem.W.Frag} {CS : Addr} {H H' : Hp}
theorem KnAt.same (e : Same H H') {kvs : List (Key × V)} : ∀ {kn : Option Kd}, KnAt K H kvs kn → KnAt K H' kvs kn
  | none, h => h
  | some _, ⟨p, z, u, h1, h2, h3, h4⟩ => ⟨p, z, u, h1, (tps e).seq h2, (tps e).seq h3, h4.same e⟩
theorem BdAt.same (e : Same H H') {kvs : List (Key × V)} : ∀ {bd : Bool}, BdAt K H kvs bd → BdAt K H' kvs bd
  | false, h => h
  | true, ⟨u, h1, h2⟩ => ⟨u, h1, h2.same e⟩
theorem ScAt.same (e : Same H H') {v : V} {kn : Option Kd} {bd : Bool} : ScAt K CS H v kn bd → ScAt K CS H' v kn bd := fun ⟨a, dx, vl, kd, bb, kvs, bvs, h1, h2, h3, h4, h5, h6⟩ => ⟨a, dx, vl, kd, bb, kvs, bvs, h1, e _ _ h2, e _ _ h3, h4.same e, e _ _ h5, h6.same e⟩
theorem ScAt.mk' {a dx kd bb : Addr} {vl : V} {kvs bvs : List (Key × V)} {kn : Option Kd} {bd : Bool} (h2 : H a = some (.ins CS dx [("looks", vl), ("knowns", .ref kd), ("binds", .ref bb)])) (h3 : H kd = some (.dK kvs)) (h4 : KnAt K H kvs kn) (h5 : H bb = some (.dK bvs)) (h6 : BdAt K H bvs bd) : ScAt K CS H (.ref a) kn bd :=
  ⟨a, dx, vl, kd, bb, kvs, bvs, rfl, h2, h3, h4, h5, h6⟩
end
theorem kx_put {bd : Bool} {K : PySem.W.Frag} {H : Hp} {bvs : List (Key × V)} {u : V} (h : BdAt K H bvs bd) : putK bvs (.inr "x" : Key) u = [(.inr "x", u)] := by
  cases bd with
  | false =>
    have e : bvs = [] := h
    subst e
    rfl
  | true =>
    obtain ⟨y, rfl, _⟩ := h
    unfold putK
    have e : (([((.inr "x" : Key), y)] : List (Key × V)).any fun kv => decide (kv.1 = (.inr "x" : Key))) = true := by
      rw [List.any_cons, decide_eq_true rfl]
      rfl
    rw [if_pos e, List.map_cons, if_pos rfl, List.map_nil]
theorem kv_one {k : Key} {u : V} : valV [(k, u)] k = some u := valV_pos rfl
section
variable {P : Program} {w : World} {K : PySem.W.Frag} {mg : Str → Option Value} {base : Heap} {CS CF CT : Addr}
/-! ### Scope -/
def spScInit (CS : Addr) : Sp := fun vs H Q _ => ∃ a dx l t n, vs = [.ref a, l, t, n] ∧ H a = some (.ins CS dx []) ∧ Q .non (upd H a (.ins CS dx [("looks", l), ("knowns", t), ("binds", n)]))
theorem has_Scope (O : Own w K mg CS CF CT) : HasC P w K mg base 1 "Scope" CS (spScInit CS) := by
  obtain ⟨f, fd, D⟩ := O.c_Scope
  refine D.ok0 sc_Scope_init (fun vs H Q E h => ?_) (fun cdv A outer s H vs Q E hr h => ?_)
  · obtain ⟨_, _, _, _, _, rfl, _⟩ := h
    rfl
  obtain ⟨a, dx, l, t, n, rfl, ha, q⟩ := h
  refine ⟨_, (pss_cons (ps_fld (pv 0) (pv 1) rfl) (pss_cons (ps_fld (pv 0) (pv 2) rfl) (pss_one (ps_fld (pv 0) (pv 3) rfl)))), ?_⟩
  refine ⟨_, rfl, _, rfl, a, CS, dx, [], rfl, ha, D.cl, O.n_CS_looks, by decide, ?_⟩
  refine ⟨_, rfl, _, rfl, a, CS, dx, _, rfl, upd_same, D.cl, O.n_CS_knowns, (show 1 < 1000 by decide), ?_⟩
  refine ⟨_, rfl, _, rfl, a, CS, dx, _, rfl, upd_same, D.cl, O.n_CS_binds, (show 2 < 1000 by decide), ?_⟩
  show Q .non _
  rw [upd_upd, upd_upd]
  exact q
theorem new_same {H : Hp} {x dx : Addr} {o i j : HO} (h1 : H x = none) (h2 : H dx = none) : Same H (upd (upd (upd H dx o) x i) x j) := by
  rw [upd_upd]
  exact fun b u q => by rw [upd_ne (ne_of_none q h1), upd_ne (ne_of_none q h2)]; exact q
def spBound (K : PySem.W.Frag) (CS : Addr) : Sp := fun vs H Q _ => ∃ v l p u kn bd, vs = [v, .ref l] ∧ ScAt K CS H v kn bd ∧ H l = some (.lst [.ref p]) ∧ SqT K H p [.str "x", u] ∧ KdAt K H u .num ∧ Ret H Q fun r H' => ScAt K CS H' r kn true
theorem has_bound (T : Txt w K mg) (O : Own w K mg CS CF CT) : HasM P w K mg base CX0 3 CS "bound" (spBound K CS) := by
  obtain ⟨f, fd, D⟩ := O.m_Scope_bound
  have h_Scope_init := has_Scope (P := P) (base := base) O
  have c_Scope : Cls K CS := O.c_Scope.elim fun _ h => h.elim fun _ h => h.cl
  refine D.ok0 sc_Scope_bound (fun vs H Q E h => ?_) (fun cdv A outer s H vs Q E hr h => ?_)
  · obtain ⟨_, _, _, _, _, _, rfl, _⟩ := h
    rfl
  obtain ⟨v, l, p, u, kn, bd, rfl, ⟨a, dx, vl, kd, bb, kvs, bvs, rfl, ha, hkd, hkn, hbb, hbd⟩, hl, hp, hu2, q⟩ := h
  have hu := hu_of hr
  refine ⟨_, (pss_cons (ps_set (i := 2) sc_Scope_bound.nd rfl (Or.inl rfl) (pe_callTy call_dictD (by rfl) T.b_dict bt_dict (pa_cons (pe_fld (pv 0) rfl) pa_nil))) (pss_cons (ps_for PassesOwn.never rfl (pi_list (pv 1)) (pg_tup rfl (pgs_cons (pg_name (i := 3) sc_Scope_bound.nd rfl (Or.inl rfl)) (pgs_cons (pg_name (i := 4) sc_Scope_bound.nd rfl (Or.inl rfl)) pgs_nil))) (pss_one (ps_dput hu (pv 2) (pv 3) (pv 4) rfl))) (pss_one (ps_ret (pe_new h_Scope_init hr (by omega) (pa_cons (pe_fld (pv 0) rfl) (pa_cons (pe_fld (pv 0) rfl) (pa_cons (pv 2) pa_nil)))))))), ?_⟩
  refine ⟨_, rfl, a, CS, dx, _, _, rfl, ha, c_Scope, O.n_CS_binds, rfl, bb, bvs, rfl, .of hbb, fun g hg => ?_⟩
  have s1 := same_new hg (.dK bvs)
  refine ⟨_, rfl, l, rfl, ⟨_, .of (s1 _ _ hl)⟩, ?_⟩
  refine for_one (walk_list (xs := [V.ref p])) (fun σ H3 => Same H H3 ∧ SqL K H3 l [V.ref p] ∧ H3 g = some (.dK [(.inr "x", u)]) ∧ ∃ u1 u2, σ = [some (.ref a), some (.ref l), some (.ref g), u1, u2]) (.of (s1 _ _ hl)) (fun _ _ h => h.2.1) ?_ ?_
  · rintro x H' ⟨rfl, hx⟩
    cases hx
    refine ⟨p, _, rfl, (tps s1).seq hp, rfl, _, _, rfl, _, _, rfl, rfl, ?_⟩
    refine ⟨_, rfl, _, rfl, _, rfl, g, _, rfl, DPut.k (k := (.inr "x" : Key)) upd_same ?_, ?_⟩
    · cases bd with
      | false => have e : bvs = [] := hbd; subst e; decide
      | true => obtain ⟨y, rfl, _⟩ := hbd; exact (show 1 < sizeLine by decide)
    · rw [kx_put hbd]
      have sA := same_mut s1 hg (o := .dK [(.inr "x", u)])
      exact ⟨sA, .of (sA _ _ hl), upd_same, _, _, rfl⟩
  · rintro σ H3 ⟨sh, hl3, hg3, u1, u2, rfl⟩
    have ha3 := sh _ _ ha
    refine ⟨_, rfl, a, CS, dx, _, _, rfl, ha3, c_Scope, O.n_CS_looks, rfl, ?_⟩
    refine ⟨_, rfl, a, CS, dx, _, _, rfl, ha3, c_Scope, O.n_CS_knowns, rfl, ?_⟩
    refine ⟨_, rfl, fun x dx2 nx nd ne => ⟨x, dx2, _, _, _, rfl, upd_same, rfl, ?_⟩⟩
    have sB := new_same nx nd (o := .own x) (i := .ins CS dx2 []) (j := .ins CS dx2 [("looks", vl), ("knowns", .ref kd), ("binds", .ref g)])
    have sC := sh.trans sB
    exact q _ _ sC (ScAt.mk' upd_same (sC _ _ hkd) (hkn.same sC) (sB _ _ hg3) ⟨u, rfl, hu2.same sC⟩)
/-! ### ask, data_in, word_in -/
def spAsk : Sp := fun vs H Q _ => vs = [.bl true] ∧ Q .non H
theorem has_ask (T : Txt w K mg) : Has P w K mg base CX0 1 "ask" spAsk := by
  obtain ⟨f, fd, D⟩ := T.f_ask
  refine D.ok0 sc_ask (fun vs H Q E h => ?_) (fun cdv A outer s H vs Q E hr h => ?_)
  · obtain ⟨rfl, _⟩ := h
    rfl
  obtain ⟨rfl, q⟩ := h
  refine ⟨_, (pss_one (ps_if (pt_not (pt_val (pv 0))) (pss_one ps_never) pss_nil)), ?_⟩
  exact ⟨_, rfl, true, rfl, iteF q⟩
def KnOk (kn : Option Kd) : Prop := ∀ k, kn = some k → k.depth ≤ 30
def spKin (K : PySem.W.Frag) (CS : Addr) (p : Tm → Prop) (n : Nat) : Sp := fun vs H Q _ => ∃ sv v kn bd t k, vs = [sv, v] ∧ ScAt K CS H sv kn bd ∧ TmAt K H v t ∧ p t ∧ t.depth ≤ n ∧ kin kn bd t = some k ∧ KnOk kn ∧ Ret H Q fun r H' => KdAt K H' r k
theorem spKin_zero {p : Tm → Prop} {vs : List V} {H : Hp} {Q : VK} {E : XK} : ¬ spKin K CS p 0 vs H Q E := fun ⟨_, _, _, _, k, _, _, _, _, _, l, _⟩ => by have := k.depth_pos; omega
theorem spKin_len {p : Tm → Prop} {n : Nat} {vs : List V} {H : Hp} {Q : VK} {E : XK} (h : spKin K CS p n vs H Q E) : vs.length = 2 := by
  obtain ⟨_, _, _, _, _, _, rfl, _⟩ := h
  rfl
def spDataIn (K : PySem.W.Frag) (CS : Addr) (n : Nat) : Sp := fun vs H Q _ => ∃ sv v kn bd t k, vs = [sv, v] ∧ ScAt K CS H sv kn bd ∧ TmAt K H v t ∧ k.isData = true ∧ t.depth ≤ n ∧ kin kn bd t = some k ∧ KnOk kn ∧ Ret H Q fun r H' => KdAt K H' r k
theorem has_data_in (T : Txt w K mg) {n : Nat} (hn : n ≤ 30) (h_kind_in : Has P w K mg base CX0 (70 + 3 * n) "kind_in" (spKin K CS (fun _ => True) n)) : Has P w K mg base CX0 (71 + 3 * n) "data_in" (spDataIn K CS n) := by
  obtain ⟨f, fd, D⟩ := T.f_data_in
  have h_ask := has_ask (P := P) (base := base) T
  have h_is_data := has_is_data (P := P) (base := base) T 60
  rw [show 71 + 3 * n = 70 + 3 * n + 1 by omega]
  refine D.ok0 sc_data_in (fun vs H Q E h => ?_) (fun cdv A outer s H vs Q E hr h => ?_)
  · obtain ⟨_, _, _, _, _, _, rfl, _⟩ := h
    rfl
  obtain ⟨sv, v, kn, bd, t, k, rfl, hsc, ht, hk, hl, hki, hkn, q⟩ := h
  refine ⟨_, (pss_cons (ps_set (i := 2) sc_data_in.nd rfl (Or.inl rfl) (pe_c h_kind_in hr (by omega) (pa_cons (pv 0) (pa_cons (pv 1) pa_nil)))) (pss_cons (ps_expr (pe_c h_ask hr (by omega) (pa_cons (pe_c h_is_data hr (by omega) (pa_cons (pv 2) pa_nil)) pa_nil))) (pss_one (ps_ret (pv 2))))), ?_⟩
  refine ⟨_, rfl, _, rfl, sv, v, kn, bd, t, k, rfl, hsc, ht, trivial, hl, hki, hkn, fun u H1 s1 hu => ?_⟩
  have dk := kin_deep hkn t bd k hki
  refine ⟨_, rfl, u, k, rfl, hu, by omega, ?_⟩
  rw [hk]
  exact ⟨rfl, _, rfl, q _ _ s1 hu⟩
def spWordIn (K : PySem.W.Frag) (CS : Addr) (n : Nat) : Sp := fun vs H Q _ => ∃ sv v kn bd t k, vs = [sv, v, .str k.word] ∧ ScAt K CS H sv kn bd ∧ TmAt K H v t ∧ t.depth ≤ n ∧ kin kn bd t = some k ∧ KnOk kn ∧ Ret H Q fun r H' => KdAt K H' r k
theorem has_word_in (T : Txt w K mg) {n : Nat} (h_kind_in : Has P w K mg base CX0 (70 + 3 * n) "kind_in" (spKin K CS (fun _ => True) n)) : Has P w K mg base CX0 (71 + 3 * n) "word_in" (spWordIn K CS n) := by
  obtain ⟨f, fd, D⟩ := T.f_word_in
  have h_ask := has_ask (P := P) (base := base) T
  rw [show 71 + 3 * n = 70 + 3 * n + 1 by omega]
  refine D.ok0 sc_word_in (fun vs H Q E h => ?_) (fun cdv A outer s H vs Q E hr h => ?_)
  · obtain ⟨_, _, _, _, _, _, rfl, _⟩ := h
    rfl
  obtain ⟨sv, v, kn, bd, t, k, rfl, hsc, ht, hl, hki, hkn, q⟩ := h
  refine ⟨_, (pss_cons (ps_set (i := 3) sc_word_in.nd rfl (Or.inl rfl) (pe_c h_kind_in hr (by omega) (pa_cons (pv 0) (pa_cons (pv 1) pa_nil)))) (pss_cons (ps_expr (pe_c h_ask hr (by omega) (pa_cons (pe_cmpR op_eq (pe_ix ix_tup (pv 3) pe_int (fun _ _ => rfl)) (pv 2) (nomark _)) pa_nil))) (pss_one (ps_ret (pv 3))))), ?_⟩
  refine ⟨_, rfl, _, rfl, sv, v, kn, bd, t, k, rfl, hsc, ht, trivial, hl, hki, hkn, fun u H1 s1 hu => ?_⟩
  obtain ⟨a, xs, rfl, hs, _⟩ := hu.view
  refine ⟨_, rfl, a, _, _, _, rfl, rfl, hs, at0, _, rfl, rfl, congrArg (fun b => [V.bl b]) (decide_eq_true rfl), ?_⟩
  exact ⟨_, rfl, q _ _ s1 hu⟩
end
end K70
namespace K70
open PySem PySem.Spec PyProof.Rows L2
theorem sz1 {x : V} : [x].length ≤ sizeLine := (show 1 ≤ sizeLine by decide)
theorem sz2 {x y : V} : [x, y].length ≤ sizeLine := (show 2 ≤ sizeLine by decide)
theorem sz3 {x y z : V} : [x, y, z].length ≤ sizeLine := (show 3 ≤ sizeLine by decide)
section
variable {P : Program} {w : World} {K : PySem.W.Frag} {mg : Str → Option Value} {base : Heap} {CS CF CT : Addr}
def isFn : Tm → Prop | .fn _ => True | _ => False
def isCall : Tm → Prop | .call _ _ => True | _ => False
def isPlus : Tm → Prop | .plus _ _ => True | _ => False
def isPair : Tm → Prop | .pair _ _ => True | _ => False
def isLeft : Tm → Prop | .left _ => True | _ => False
theorem has_name_kind (T : Txt w K mg) (O : Own w K mg CS CF CT) (n : Nat) : Has P w K mg base CX0 2 "name_kind" (spKin K CS (· = .nm) n) := by
  obtain ⟨f, fd, D⟩ := T.f_name_kind
  have h_ask := has_ask (P := P) (base := base) T
  have c_Scope : Cls K CS := O.c_Scope.elim fun _ h => h.elim fun _ h => h.cl
  refine D.ok0 sc_name_kind (fun vs H Q E h => spKin_len h) (fun cdv A outer s H vs Q E hr h => ?_)
  obtain ⟨sv, v, kn, bd, t, k, rfl, ⟨a, dx, vl, kd, bb, kvs, bvs, rfl, ha, hkd, hkn, hbb, hbd⟩, ht, rfl, hl, hki, hko, q⟩ := h
  have hu := hu_of hr
  cases bd with
  | false => cases hki
  | true =>
    cases (show some Kd.num = some k from hki)
    obtain ⟨u, rfl, hu2⟩ := hbd
    cases ht with
    | @nm b hs =>
      refine ⟨_, (pss_cons (ps_expr (pe_c h_ask hr (by omega) (pa_cons (pe_cmp (pc_din hu (pe_ix ix_tup (pv 1) pe_int (fun _ _ => rfl)) (pe_fld (pv 0) rfl))) pa_nil))) (pss_one (ps_ret (pe_dget hu (pe_fld (pv 0) rfl) (pe_ix ix_tup (pv 1) pe_int (fun _ _ => rfl)) (fun _ _ => rfl))))), ?_⟩
      refine ⟨_, rfl, b, _, _, _, rfl, rfl, hs, at1, _, rfl, a, CS, dx, _, _, rfl, ha, c_Scope, O.n_CS_binds, rfl, bb, _, rfl, DGet.k (k := (.inr "x" : Key)) hbb, ?_⟩
      rw [kv_one]
      refine ⟨rfl, ?_⟩
      refine ⟨_, rfl, a, CS, dx, _, _, rfl, ha, c_Scope, O.n_CS_binds, rfl, _, rfl, b, _, _, _, rfl, rfl, hs, at1, bb, u, rfl, ?_, q _ _ (Same.refl _) hu2⟩
      have := DGet.k (k := (.inr "x" : Key)) hbb
      rw [kv_one] at this
      exact this
theorem has_bare_kind (T : Txt w K mg) (n : Nat) : Has P w K mg base CX0 1 "bare_kind" (spKin K CS (· = .one) n) := by
  obtain ⟨f, fd, D⟩ := T.f_bare_kind
  refine D.ok0 sc_bare_kind (fun vs H Q E h => spKin_len h) (fun cdv A outer s H vs Q E hr h => ?_)
  obtain ⟨sv, v, kn, bd, t, k, rfl, hsc, ht, rfl, hl, hki, hko, q⟩ := h
  have e : k = .num := by simp only [kin] at hki; exact (Option.some.inj hki).symm
  subst e
  cases ht with
  | @one b hs =>
    refine ⟨_, (pss_one (ps_ret (pe_tup (pa_cons (pe_ix ix_tup (pv 1) pe_int (fun _ _ => rfl)) pa_nil)))), ?_⟩
    exact ⟨_, rfl, b, _, _, _, rfl, rfl, hs, at0, by decide, fun p hp => q _ _ (same_new hp _) (.num (.of upd_same))⟩
theorem has_fun_kind (T : Txt w K mg) (O : Own w K mg CS CF CT) {n : Nat} (h_kind_in : Has P w K mg base CX0 (70 + 3 * n) "kind_in" (spKin K CS (fun _ => True) n)) : Has P w K mg base CX0 (72 + 3 * n) "fun_kind" (spKin K CS isFn (n + 1)) := by
  obtain ⟨f, fd, D⟩ := T.f_fun_kind
  have h_Scope_bound := has_bound (P := P) (base := base) T O
  have c_Scope : Cls K CS := O.c_Scope.elim fun _ h => h.elim fun _ h => h.cl
  rw [show 72 + 3 * n = 71 + 3 * n + 1 by omega]
  refine D.ok0 sc_fun_kind (fun vs H Q E h => spKin_len h) (fun cdv A outer s H vs Q E hr h => ?_)
  obtain ⟨sv, v, kn, bd, t, k, rfl, hsc, ht, hf, hl, hki, hko, q⟩ := h
  cases ht with
  | @fn b u y t hs hku hty =>
    obtain ⟨j, hj, rfl⟩ := kin_fn hki
    have lt : t.depth ≤ n := by have : t.depth + 1 ≤ n + 1 := hl; omega
    refine ⟨_, (pss_one (ps_ret (pe_tup (pa_cons pe_str (pa_cons (pe_ix ix_tup (pv 1) pe_int (fun _ _ => rfl)) (pa_cons (pe_c h_kind_in hr (by omega) (pa_cons (pe_m h_Scope_bound c_Scope hr (by omega) (pv 0) (pa_cons (pe_lst (pa_cons (pe_tup (pa_cons (pe_ix ix_tup (pv 1) pe_int (fun _ _ => rfl)) (pa_cons (pe_ix ix_tup (pv 1) pe_int (fun _ _ => rfl)) pa_nil))) pa_nil)) pa_nil)) (pa_cons (pe_ix ix_tup (pv 1) pe_int (fun _ _ => rfl)) pa_nil))) pa_nil)))))), ?_⟩
    refine ⟨_, rfl, b, _, _, _, rfl, rfl, hs, at2, ?_⟩
    have hsc0 := hsc
    obtain ⟨a, dx, vl, kd, bb, kvs, bvs, rfl, ha, hkd, hkn, hbb, hbd⟩ := hsc0
    refine ⟨_, rfl, a, dx, _, rfl, ha, rfl, ?_⟩
    refine ⟨_, rfl, b, _, _, _, rfl, rfl, hs, at1, _, rfl, b, _, _, _, rfl, rfl, hs, at2, sz2, fun p hp => ?_⟩
    have s1 := same_new hp (.tup [.str "x", u])
    refine ⟨sz1, fun l hnl => ?_⟩
    have s2 := updN (o := .lst [.ref p]) s1 hnl
    have hpl : p ≠ l := ne_of_none upd_same hnl
    refine ⟨_, l, p, u, kn, bd, rfl, hsc.same s2, upd_same, .of (by rw [upd_ne hpl]; exact upd_same), hku.same s2, fun r H3 s3 hr3 => ?_⟩
    have s4 := s2.trans s3
    refine ⟨_, rfl, b, _, _, _, rfl, rfl, (tps s4).seq hs, at3, r, y, kn, true, t, j, rfl, hr3, hty.same s4, trivial, lt, hj, hko, fun r2 H5 s5 h5 => ?_⟩
    have s6 := s4.trans s5
    refine ⟨sz3, fun p2 hp2 => ?_⟩
    have s7 := updN (o := .tup [.str "fun", u, r2]) s6 hp2
    exact q _ _ s7 (.fn (.of upd_same) (hku.same s7) (h5.same (same_new hp2 _)))
  | _ => exact False.elim hf
theorem has_call_kind (T : Txt w K mg) {n : Nat} (hn : n ≤ 29) (h_kind_in : Has P w K mg base CX0 (70 + 3 * n) "kind_in" (spKin K CS (fun _ => True) n)) : Has P w K mg base CX0 (72 + 3 * n) "call_kind" (spKin K CS isCall (n + 1)) := by
  obtain ⟨f, fd, D⟩ := T.f_call_kind
  have h_ask := has_ask (P := P) (base := base) T
  have h_word_in := has_word_in (CS := CS) T h_kind_in
  rw [show 72 + 3 * n = 71 + 3 * n + 1 by omega]
  refine D.ok0 sc_call_kind (fun vs H Q E h => spKin_len h) (fun cdv A outer s H vs Q E hr h => ?_)
  obtain ⟨sv, v, kn, bd, t, k, rfl, hsc, ht, hf, hl, hki, hko, q⟩ := h
  cases ht with
  | @call b u y t1 t2 hs h1 h2 =>
    obtain ⟨c, hc1, hc2⟩ := kin_call hki
    have l1 : t1.depth ≤ n := by have : max t1.depth t2.depth + 1 ≤ n + 1 := hl; omega
    have l2 : t2.depth ≤ n := by have : max t1.depth t2.depth + 1 ≤ n + 1 := hl; omega
    refine ⟨_, (pss_cons (ps_set (i := 2) sc_call_kind.nd rfl (Or.inl rfl) (pe_c h_word_in hr (by omega) (pa_cons (pv 0) (pa_cons (pe_ix ix_tup (pv 1) pe_int (fun _ _ => rfl)) (pa_cons pe_str pa_nil))))) (pss_cons (ps_expr (pe_c h_ask hr (by omega) (pa_cons (pe_cmpR (op_eqD hr.units) (pe_c h_kind_in hr (by omega) (pa_cons (pv 0) (pa_cons (pe_ix ix_tup (pv 1) pe_int (fun _ _ => rfl)) pa_nil))) (pe_ix ix_tup (pv 2) pe_int (fun _ _ => rfl)) (nomark _)) pa_nil))) (pss_one (ps_ret (pe_ix ix_tup (pv 2) pe_int (fun _ _ => rfl)))))), ?_⟩
    refine ⟨_, rfl, _, rfl, b, _, _, _, rfl, rfl, hs, at1, sv, u, kn, bd, t1, _, rfl, hsc, h1, l1, hc1, hko, fun r H1 s1 hr1 => ?_⟩
    cases hr1 with
    | @fn ra ru rv _ _ hrs hra hrb =>
      refine ⟨_, rfl, _, rfl, b, _, _, _, rfl, rfl, (tps s1).seq hs, at2, sv, y, kn, bd, t2, c, rfl, hsc.same s1, h2.same s1, trivial, l2, hc2, hko, fun r2 H2 s2 hr2 => ?_⟩
      have dc := kin_deep hko t2 bd c hc2
      have sh : SeqAt.shaped c.enc = true := kd_shaped (by omega)
      refine ⟨_, rfl, ra, _, _, _, rfl, rfl, (tps s2).seq hrs, at1, _, _, hr2.dp, (hra.same s2).dp, sh, sh, congrArg (fun b => [V.bl b]) (kd_eqv c), ?_⟩
      exact ⟨_, rfl, ra, _, _, _, rfl, rfl, (tps s2).seq hrs, at2, q _ _ (s1.trans s2) (hrb.same s2)⟩
  | _ => exact False.elim hf
theorem has_plus_kind (T : Txt w K mg) {n : Nat} (h_kind_in : Has P w K mg base CX0 (70 + 3 * n) "kind_in" (spKin K CS (fun _ => True) n)) : Has P w K mg base CX0 (71 + 3 * n) "plus_kind" (spKin K CS isPlus (n + 1)) := by
  obtain ⟨f, fd, D⟩ := T.f_plus_kind
  have h_ask := has_ask (P := P) (base := base) T
  obtain ⟨a_NUM, m_NUM, x_NUM⟩ := T.t_num
  rw [show 71 + 3 * n = 70 + 3 * n + 1 by omega]
  refine D.ok0 sc_plus_kind (fun vs H Q E h => spKin_len h) (fun cdv A outer s H vs Q E hr h => ?_)
  obtain ⟨sv, v, kn, bd, t, k, rfl, hsc, ht, hf, hl, hki, hko, q⟩ := h
  cases ht with
  | @plus b u y t1 t2 hs h1 h2 =>
    obtain ⟨hc1, hc2, rfl⟩ := kin_plus hki
    have l1 : t1.depth ≤ n := by have : max t1.depth t2.depth + 1 ≤ n + 1 := hl; omega
    have l2 : t2.depth ≤ n := by have : max t1.depth t2.depth + 1 ≤ n + 1 := hl; omega
    refine ⟨_, (pss_cons (ps_expr (pe_c h_ask hr (by omega) (pa_cons (pe_cmpR (op_eqD hr.units) (pe_c h_kind_in hr (by omega) (pa_cons (pv 0) (pa_cons (pe_ix ix_tup (pv 1) pe_int (fun _ _ => rfl)) pa_nil))) (pe_glob (v := .ref a_NUM) rfl m_NUM rfl) (nomark _)) pa_nil))) (pss_cons (ps_expr (pe_c h_ask hr (by omega) (pa_cons (pe_cmpR (op_eqD hr.units) (pe_c h_kind_in hr (by omega) (pa_cons (pv 0) (pa_cons (pe_ix ix_tup (pv 1) pe_int (fun _ _ => rfl)) pa_nil))) (pe_glob (v := .ref a_NUM) rfl m_NUM rfl) (nomark _)) pa_nil))) (pss_one (ps_ret (pe_glob (v := .ref a_NUM) rfl m_NUM rfl))))), ?_⟩
    have sh : SeqAt.shaped Kd.num.enc = true := kd_shaped (by decide)
    refine ⟨_, rfl, _, rfl, b, _, _, _, rfl, rfl, hs, at1, sv, u, kn, bd, t1, _, rfl, hsc, h1, trivial, l1, hc1, hko, fun r H1 s1 hr1 => ?_⟩
    refine ⟨_, _, hr1.dp, (KdAt.num (x_NUM H1)).dp, sh, sh, congrArg (fun b => [V.bl b]) (kd_eqv .num), ?_⟩
    refine ⟨_, rfl, _, rfl, b, _, _, _, rfl, rfl, (tps s1).seq hs, at2, sv, y, kn, bd, t2, _, rfl, hsc.same s1, h2.same s1, trivial, l2, hc2, hko, fun r2 H2 s2 hr2 => ?_⟩
    refine ⟨_, _, hr2.dp, (KdAt.num (x_NUM H2)).dp, sh, sh, congrArg (fun b => [V.bl b]) (kd_eqv .num), ?_⟩
    exact q _ _ (s1.trans s2) (.num (x_NUM H2))
  | _ => exact False.elim hf
theorem has_pair_kind (T : Txt w K mg) {n : Nat} (hn : n ≤ 29) (h_kind_in : Has P w K mg base CX0 (70 + 3 * n) "kind_in" (spKin K CS (fun _ => True) n)) : Has P w K mg base CX0 (72 + 3 * n) "pair_kind" (spKin K CS isPair (n + 1)) := by
  obtain ⟨f, fd, D⟩ := T.f_pair_kind
  have h_data_in := has_data_in (CS := CS) T (by omega) h_kind_in
  rw [show 72 + 3 * n = 71 + 3 * n + 1 by omega]
  refine D.ok0 sc_pair_kind (fun vs H Q E h => spKin_len h) (fun cdv A outer s H vs Q E hr h => ?_)
  obtain ⟨sv, v, kn, bd, t, k, rfl, hsc, ht, hf, hl, hki, hko, q⟩ := h
  cases ht with
  | @pair b u y t1 t2 hs h1 h2 =>
    obtain ⟨c, d, hc1, hc2, dc, dd, rfl⟩ := kin_pair hki
    have l1 : t1.depth ≤ n := by have : max t1.depth t2.depth + 1 ≤ n + 1 := hl; omega
    have l2 : t2.depth ≤ n := by have : max t1.depth t2.depth + 1 ≤ n + 1 := hl; omega
    refine ⟨_, (pss_cons (ps_set (i := 2) sc_pair_kind.nd rfl (Or.inl rfl) (pe_c h_data_in hr (by omega) (pa_cons (pv 0) (pa_cons (pe_ix ix_tup (pv 1) pe_int (fun _ _ => rfl)) pa_nil)))) (pss_one (ps_ret (pe_tup (pa_cons pe_str (pa_cons (pv 2) (pa_cons (pe_c h_data_in hr (by omega) (pa_cons (pv 0) (pa_cons (pe_ix ix_tup (pv 1) pe_int (fun _ _ => rfl)) pa_nil))) pa_nil))))))), ?_⟩
    refine ⟨_, rfl, _, rfl, b, _, _, _, rfl, rfl, hs, at1, sv, u, kn, bd, t1, _, rfl, hsc, h1, dc, l1, hc1, hko, fun r H1 s1 hr1 => ?_⟩
    refine ⟨_, rfl, _, rfl, _, rfl, b, _, _, _, rfl, rfl, (tps s1).seq hs, at2, sv, y, kn, bd, t2, _, rfl, hsc.same s1, h2.same s1, dd, l2, hc2, hko, fun r2 H2 s2 hr2 => ?_⟩
    refine ⟨sz3, fun p hp => ?_⟩
    have s3 := same_new hp (.tup [.str "pair", r, r2])
    exact q _ _ (s1.trans (s2.trans s3)) (.pair (.of upd_same) (hr1.same (s2.trans s3)) (hr2.same s3))
  | _ => exact False.elim hf
theorem has_left_kind (T : Txt w K mg) {n : Nat} (hn : n ≤ 29) (h_kind_in : Has P w K mg base CX0 (70 + 3 * n) "kind_in" (spKin K CS (fun _ => True) n)) : Has P w K mg base CX0 (72 + 3 * n) "left_kind" (spKin K CS isLeft (n + 1)) := by
  obtain ⟨f, fd, D⟩ := T.f_left_kind
  have h_data_in := has_data_in (CS := CS) T (by omega) h_kind_in
  rw [show 72 + 3 * n = 71 + 3 * n + 1 by omega]
  refine D.ok0 sc_left_kind (fun vs H Q E h => spKin_len h) (fun cdv A outer s H vs Q E hr h => ?_)
  obtain ⟨sv, v, kn, bd, t, k, rfl, hsc, ht, hf, hl, hki, hko, q⟩ := h
  cases ht with
  | @left b u y t hs h1 h2 =>
    obtain ⟨c, hc1, dc, rfl⟩ := kin_left hki
    have l1 : t.depth ≤ n := by have : t.depth + 1 ≤ n + 1 := hl; omega
    refine ⟨_, (pss_one (ps_ret (pe_tup (pa_cons pe_str (pa_cons (pe_c h_data_in hr (by omega) (pa_cons (pv 0) (pa_cons (pe_ix ix_tup (pv 1) pe_int (fun _ _ => rfl)) pa_nil))) (pa_cons (pe_ix ix_tup (pv 1) pe_int (fun _ _ => rfl)) pa_nil)))))), ?_⟩
    refine ⟨_, rfl, _, rfl, b, _, _, _, rfl, rfl, hs, at1, sv, u, kn, bd, t, _, rfl, hsc, h1, dc, l1, hc1, hko, fun r H1 s1 hr1 => ?_⟩
    refine ⟨_, rfl, b, _, _, _, rfl, rfl, (tps s1).seq hs, at2, sz3, fun p hp => ?_⟩
    have s3 := same_new hp (.tup [.str "either", r, y])
    exact q _ _ (s1.trans s3) (.eith (.of upd_same) (hr1.same s3) (h2.same (s1.trans s3)))
  | _ => exact False.elim hf
theorem has_told_kind (T : Txt w K mg) (O : Own w K mg CS CF CT) (n : Nat) : Has P w K mg base CX0 63 "told_kind" (spKin K CS (· = .told) n) := by
  obtain ⟨f, fd, D⟩ := T.f_told_kind
  have h_ask := has_ask (P := P) (base := base) T
  have h_opens_in := has_opens_in (P := P) (base := base) T 60
  have h_filled_kind := has_filled_kind (P := P) (base := base) T 60
  have c_Scope : Cls K CS := O.c_Scope.elim fun _ h => h.elim fun _ h => h.cl
  refine D.ok0 sc_told_kind (fun vs H Q E h => spKin_len h) (fun cdv A outer s H vs Q E hr h => ?_)
  obtain ⟨sv, v, kn, bd, t, k, rfl, ⟨a, dx, vl, kd, bb, kvs, bvs, rfl, ha, hkd, hkn, hbb, hbd⟩, ht, rfl, hl, hki, hko, q⟩ := h
  have hu := hu_of hr
  cases (show kn = some k from hki)
  have lk := hko k rfl
  obtain ⟨p, z, u, rfl, hp, hz, hku⟩ := hkn
  cases ht with
  | @told b e hs he =>
    refine ⟨_, (pss_cons (ps_expr (pe_c h_ask hr (by omega) (pa_cons (pe_cmp (pc_din hu (pe_ix ix_tup (pv 1) pe_int (fun _ _ => rfl)) (pe_fld (pv 0) rfl))) pa_nil))) (pss_cons (ps_asg (pe_dget hu (pe_fld (pv 0) rfl) (pe_ix ix_tup (pv 1) pe_int (fun _ _ => rfl)) (fun _ _ => rfl)) (pg_tup rfl (pgs_cons (pg_name (i := 2) sc_told_kind.nd rfl (Or.inl rfl)) (pgs_cons (pg_name (i := 3) sc_told_kind.nd rfl (Or.inl rfl)) pgs_nil)))) (pss_cons (ps_expr (pe_c h_ask hr (by omega) (pa_cons (pe_cmpR (op_eqD hr.units) (pe_tupleOf rfl T.b_tuple (pe_lc (own := [("name", 4), ("one", 5)]) (g := gTup K 2 (gCons (gName 4) (gCons (gName 5) gNil))) (tt := tYes) rfl sc_told_kind.nd (pi_tup (pe_ix ix_tup (pv 1) pe_int (fun _ _ => rfl))) (blkOk_by (own := [("name", 4), ("one", 5)]) (N := ["scope", "term", "looked", "kind", "name", "one"]) (sc := defScope s_told_kind) (by decide +kernel)) (fun _ _ _ _ _ => (pg_tup rfl (pgs_cons (pg_name (i := 4) sc_told_kind.nd rfl (Or.inl rfl) (hf := .inr rfl)) (pgs_cons (pg_name (i := 5) sc_told_kind.nd rfl (Or.inl rfl) (hf := .inr rfl)) pgs_nil)))) (fun _ _ _ _ _ => pts_nil) (fun _ _ _ _ _ => (pv 4)))) (pe_c h_opens_in hr (by omega) (pa_cons (pv 3) pa_nil)) (nomark _)) pa_nil))) (pss_cons (ps_for PassesOwn.never rfl (pi_tup (pe_ix ix_tup (pv 1) pe_int (fun _ _ => rfl))) (pg_tup rfl (pgs_cons (pg_name (i := 4) sc_told_kind.nd rfl (Or.inl rfl)) (pgs_cons (pg_name (i := 5) sc_told_kind.nd rfl (Or.inl rfl)) pgs_nil))) pss_never) (pss_one (ps_ret (pe_c h_filled_kind hr (by omega) (pa_cons (pv 3) (pa_cons (pe_ix ix_tup (pv 1) pe_int (fun _ _ => rfl)) pa_nil))))))))), ?_⟩
    have dg := DGet.k (k := (.inr "one" : Key)) hkd
    rw [kv_one] at dg
    refine ⟨_, rfl, b, _, _, _, rfl, rfl, hs, at1, _, rfl, a, CS, dx, _, _, rfl, ha, c_Scope, O.n_CS_knowns, rfl, kd, _, rfl, dg, rfl, ?_⟩
    refine ⟨_, rfl, a, CS, dx, _, _, rfl, ha, c_Scope, O.n_CS_knowns, rfl, _, rfl, b, _, _, _, rfl, rfl, hs, at1, kd, _, rfl, dg, p, _, rfl, hp, rfl, _, _, rfl, _, _, rfl, rfl, ?_⟩
    refine ⟨_, rfl, b, _, _, _, rfl, rfl, hs, at2, e, rfl, ⟨_, he.seq⟩, fun D hD => ?_⟩
    refine lc_none (walk_tup (xs := [])) hD ((tps (same_new hD _)).seq he.seq) fun H1 s1 hD1 => ?_
    refine .inl ⟨D, [], rfl, .of hD1, fun p1 np1 => ?_⟩
    have s2 := updN (o := .tup []) s1 np1
    refine ⟨_, rfl, u, k, rfl, hku.same s2, by omega, fun r H3 s3 ⟨c, er, hc⟩ => ?_⟩
    subst er
    have s4 := s2.trans s3
    refine ⟨.tuple [], .tuple [], .tup ((tps s3).seq (.of upd_same)) .nil, .tup hc .nil, by decide, by decide, rfl, ?_⟩
    have he4 := (tps s4).e0 he
    refine ⟨_, rfl, b, _, _, _, rfl, rfl, (tps s4).seq hs, at2, e, rfl, ⟨_, he4.seq⟩, for_none (walk_tup (xs := [])) he4.seq ?_⟩
    refine ⟨_, rfl, _, rfl, b, _, _, _, rfl, rfl, (tps s4).seq hs, at2, u, e, k, rfl, hku.same s4, he4, by omega, fun r H5 s5 h5 => q _ _ (s4.trans s5) h5⟩
theorem Has.at {k : Nat} {x : Str} {sp : Sp} {f : Addr} (h : Has P w K mg base CX0 k x sp) (e : mg x = some (.ref f)) : Kept P w K mg base k f sp := by
  obtain ⟨f', fd, ps, F, g, r⟩ := h
  rw [e] at g
  cases g
  exact ⟨fd, ps, F, r⟩
theorem has_kind_in (T : Txt w K mg) (O : Own w K mg CS CF CT) : ∀ n, n ≤ 30 → Has P w K mg base CX0 (70 + 3 * n) "kind_in" (spKin K CS (fun _ => True) n) := by
  intro n
  obtain ⟨f, fd, D⟩ := T.f_kind_in
  induction n with
  | zero => exact fun _ => D.none sc_kind_in fun vs H Q E h => spKin_zero h
  | succ n ih =>
    intro hn
    have h_kind_in := ih (by omega)
    obtain ⟨a_RULES, m_RULES, r_name, r_fun, r_call, r_bare, r_plus, r_pair, r_left, r_told⟩ := T.d_rules
    rw [show 70 + 3 * (n + 1) = 72 + 3 * n + 1 by omega]
    refine D.ok0 sc_kind_in (fun vs H Q E h => spKin_len h) (fun cdv A outer s H vs Q E hr h => ?_)
    obtain ⟨sv, v, kn, bd, t, k, rfl, hsc, ht, hf, hl, hki, hko, q⟩ := h
    obtain ⟨b, xs, rfl, hs, hp⟩ := ht.view
    refine ⟨_, (pss_one (ps_ret (pe_callSub (A := fun f sp => Kept P w K mg base (72 + 3 * n) f sp) (fun _ _ h => h) hr (pe_ix ix_kdict (pe_glob (v := .ref a_RULES) rfl m_RULES rfl) (pe_ix ix_tup (pv 1) pe_int (fun _ _ => rfl)) (fun _ _ => rfl)) (pa_cons (pv 0) (pa_cons (pv 1) pa_nil))))), ?_⟩
    have go : ∀ (x : Str) (p : Tm → Prop), p t → Has P w K mg base CX0 (72 + 3 * n) x (spKin K CS p (n + 1)) → (∀ f, mg x = some (.ref f) → KDct K w a_RULES t.word (.ref f)) →
        ∃ (f : Addr) (sp : Sp), KDct K w a_RULES t.word (.ref f) ∧ Kept P w K mg base (72 + 3 * n) f sp ∧ sp [sv, .ref b] H Q E0 := by
      intro x p pt hx hd
      have hx2 := hx
      obtain ⟨f, fd, ps, F, g, r⟩ := hx
      exact ⟨f, _, hd f g, hx2.at g, sv, .ref b, kn, bd, t, k, rfl, hsc, ht, pt, hl, hki, hko, q⟩
    have all : ∃ (f : Addr) (sp : Sp), KDct K w a_RULES t.word (.ref f) ∧ Kept P w K mg base (72 + 3 * n) f sp ∧ sp [sv, .ref b] H Q E0 := by
      cases t with
      | nm => exact go "name_kind" (· = .nm) rfl ((has_name_kind T O _).mono (k := 72 + 3 * n) (by omega)) r_name
      | one => exact go "bare_kind" (· = .one) rfl ((has_bare_kind T _).mono (k := 72 + 3 * n) (by omega)) r_bare
      | told => exact go "told_kind" (· = .told) rfl ((has_told_kind T O _).mono (k := 72 + 3 * n) (by omega)) r_told
      | fn t => exact go "fun_kind" isFn trivial (has_fun_kind T O h_kind_in) r_fun
      | call s t => exact go "call_kind" isCall trivial (has_call_kind T (by omega) h_kind_in) r_call
      | plus s t => exact go "plus_kind" isPlus trivial ((has_plus_kind T h_kind_in).mono (k := 72 + 3 * n) (by omega)) r_plus
      | pair s t => exact go "pair_kind" isPair trivial (has_pair_kind T (by omega) h_kind_in) r_pair
      | left t => exact go "left_kind" isLeft trivial (has_left_kind T (by omega) h_kind_in) r_left
    obtain ⟨f, sp, h1, h2, h3⟩ := all
    exact ⟨_, rfl, b, _, _, _, rfl, rfl, hs, at0, a_RULES, _, _, rfl, rfl, h1, f, sp, rfl, h2, _, rfl, _, rfl, h3⟩
end
end K70
namespace K70
open PySem PySem.Spec PyProof.Rows L2
/-- the tuple of what is told -/
def KtAt (K : PySem.W.Frag) (H : Hp) (kt : Addr) : Option Kd → Prop
  | none => SqT K H kt []
  | some k => ∃ p z u, SqT K H kt [.ref p] ∧ SqT K H p [.str "one", .ref z, u] ∧ SqT K H z [] ∧ KdAt K H u k
theorem KtAt.same {K : PySem.W.Frag} {H H' : Hp} (e : Same H H') {kt : Addr} : ∀ {kn : Option Kd}, KtAt K H kt kn → KtAt K H' kt kn
  | none, h => (tps e).seq h
  | some _, ⟨p, z, u, h1, h2, h3, h4⟩ => ⟨p, z, u, (tps e).seq h1, (tps e).seq h2, (tps e).seq h3, h4.same e⟩
theorem sz0 : ([] : List V).length ≤ sizeLine := (show 0 ≤ sizeLine by decide)
namespace Tm
def uses : Tm → Nat
  | .nm => 0 | .one => 0 | .told => 1 | .fn t => t.uses | .call s t => s.uses + t.uses | .plus s t => s.uses + t.uses | .pair s t => s.uses + t.uses | .left t => t.uses
/-- the told one put in -/
def wh (wb : Option Tm) : Tm → Tm
  | .nm => .nm | .one => .one | .told => wb.getD .told | .fn t => .fn (t.wh wb) | .call s t => .call (s.wh wb) (t.wh wb) | .plus s t => .plus (s.wh wb) (t.wh wb) | .pair s t => .pair (s.wh wb) (t.wh wb) | .left t => .left (t.wh wb)
end Tm
/-- the wholes: of none, or of the one -/
def WhAt (K : PySem.W.Frag) (H : Hp) (kvs : List (Key × V)) : Option Tm → Prop
  | none => kvs = []
  | some b => ∃ u, kvs = [(.inr "one", u)] ∧ TmAt K H u b
theorem WhAt.same {K : PySem.W.Frag} {H H' : Hp} (e : Same H H') {kvs : List (Key × V)} : ∀ {wb : Option Tm}, WhAt K H kvs wb → WhAt K H' kvs wb
  | none, h => h
  | some _, ⟨u, h1, h2⟩ => ⟨u, h1, h2.same e⟩
/-- the told one has a whole, itself told of nothing -/
def WOk (wb : Option Tm) (t : Tm) : Prop := (wb = none → t.plain = true) ∧ ∀ b, wb = some b → b.plain = true ∧ b.depth ≤ 30
theorem WOk.inner {wb : Option Tm} {t s : Tm} (h : WOk wb t) (hs : s ∈ t.inner) : WOk wb s := ⟨fun e => plain_inner (h.1 e) hs, h.2⟩
theorem uses_inner (t : Tm) : t.uses = (if t = .told then 1 else 0) + (t.inner.map Tm.uses).sum := by
  cases t <;> simp [Tm.uses, Tm.inner]
theorem WOk.told {wb : Option Tm} (h : WOk wb .told) : ∃ b, wb = some b ∧ b.plain = true ∧ b.depth ≤ 30 := by
  cases wb with
  | none => have := h.1 rfl; cases this
  | some b => exact ⟨b, rfl, h.2 b rfl⟩
theorem wh_parts {wb : Option Tm} {t : Tm} (h : t ≠ .told) : (1 : Int) + (t.inner.map fun s => ((s.wh wb).parts : Int)).sum = (t.wh wb).parts := by
  cases t <;> first | exact (h rfl).elim | (simp only [Tm.inner, Tm.parts, Tm.wh, List.map_cons, List.map_nil, List.sum_cons, List.sum_nil] <;> omega)
theorem wh_depth {wb : Option Tm} {t : Tm} (h : t ≠ .told) (m : Int) (h0 : t.inner.map (fun s => ((s.wh wb).depth : Int)) = [] → m = 0) (h1 : t.inner.map (fun s => ((s.wh wb).depth : Int)) ≠ [] → m ∈ t.inner.map (fun s => ((s.wh wb).depth : Int)) ∧ ∀ y ∈ t.inner.map (fun s => ((s.wh wb).depth : Int)), y ≤ m) : (1 : Int) + m = (t.wh wb).depth := by
  cases t <;> first | exact (h rfl).elim | (simp only [Tm.inner, Tm.depth, Tm.wh, List.map_cons, List.map_nil, ne_eq, not_true_eq_false, reduceCtorEq, not_false_eq_true, List.mem_cons, List.not_mem_nil, or_false, forall_eq_or_imp, forall_eq, forall_const, false_implies, true_implies] at * <;> first | omega | (rcases h1 with ⟨h1 | h1, h2, h3⟩ <;> omega))
theorem word_told {t : Tm} (h : t ≠ .told) : decide (V.str t.word = V.str (Str.ofString "told")) = false := by
  cases t <;> first | exact (h rfl).elim | exact decide_eq_false (by dsimp only [Tm.word]; decide +kernel)
section
variable {P : Program} {w : World} {K : PySem.W.Frag} {mg : Str → Option Value} {base : Heap} {CS CF CT : Addr}
/-! ### kind_of -/
def spKindOf (K : PySem.W.Frag) : Sp := fun vs H Q _ => ∃ v lk kt kn t k, vs = [v, lk, .ref kt] ∧ TmAt K H v t ∧ KtAt K H kt kn ∧ t.depth ≤ 30 ∧ kin kn false t = some k ∧ KnOk kn ∧ Ret H Q fun r H' => KdAt K H' r k
theorem has_kind_of (T : Txt w K mg) (O : Own w K mg CS CF CT) : Has P w K mg base CX0 161 "kind_of" (spKindOf K) := by
  obtain ⟨f, fd, F, g, b⟩ := T.f_kind_of
  have h_Scope_init := has_Scope (P := P) (base := base) O
  have h_kind_in := has_kind_in (P := P) (base := base) T O 30 (Nat.le_refl _)
  refine ⟨f, fd, _, F.ok sc_kind_of (fun vs H Q E h => ?_) (fun cdv A outer s H vs Q E hr h => ?_), g, F.kp, b⟩
  · obtain ⟨_, _, _, _, _, _, rfl, _⟩ := h
    rfl
  suffices hx : ∃ t, PSs (cxOf CX0 P w K mg base ["term", "looked", "known", "told", "name", "looks", "kind"] "kind_of" (defScope s_kind_of) f cdv A outer s H E).nox (defBody s_kind_of) t ∧ t { nx := fun _ H' => Q .non H', rt := Q } (start ["term", "looked", "known", "told", "name", "looks", "kind"] vs) H from
    let ⟨t, a, b⟩ := hx; ⟨t, PSs.nox a, b⟩
  obtain ⟨v, lk, kt, kn, t, k, rfl, ht, hkt, hl, hki, hko, q⟩ := h
  refine ⟨_, (pss_cons (ps_set (i := 3) sc_kind_of.nd rfl (Or.inl rfl) pe_dnewK) (pss_cons (ps_if (pt_cmp (pc_notN (pv 2))) (pss_one (ps_set (i := 3) sc_kind_of.nd rfl (Or.inl rfl) (pe_callTy (call_dictP rfl) (by rfl) T.b_dict bt_dict (pa_cons (pe_lc (own := [("name", 4), ("looks", 5), ("kind", 6)]) (g := gTup K 3 (gCons (gName 4) (gCons (gName 5) (gCons (gName 6) gNil)))) (tt := tYes) rfl sc_kind_of.nd (pi_tup (pv 2)) (blkOk_by (own := [("name", 4), ("looks", 5), ("kind", 6)]) (N := ["term", "looked", "known", "told", "name", "looks", "kind"]) (sc := defScope s_kind_of) (by decide +kernel)) (fun _ _ _ _ _ => (pg_tup rfl (pgs_cons (pg_name (i := 4) sc_kind_of.nd rfl (Or.inl rfl) (hf := .inr rfl)) (pgs_cons (pg_name (i := 5) sc_kind_of.nd rfl (Or.inl rfl) (hf := .inr rfl)) (pgs_cons (pg_name (i := 6) sc_kind_of.nd rfl (Or.inl rfl) (hf := .inr rfl)) pgs_nil))))) (fun _ _ _ _ _ => pts_nil) (fun _ _ _ _ _ => (pe_tup (pa_cons (pv 4) (pa_cons (pe_tup (pa_cons (pv 5) (pa_cons (pv 6) pa_nil))) pa_nil))))) pa_nil)))) pss_nil) (pss_one (ps_ret (pe_c h_kind_in hr (by omega) (pa_cons (pe_new h_Scope_init hr (by omega) (pa_cons (pv 1) (pa_cons (pv 3) (pa_cons pe_dnewK pa_nil)))) (pa_cons (pv 0) pa_nil))))))), ?_⟩
  intro g0 hg0
  have s0 := same_new hg0 (.dK [])
  refine ⟨_, rfl, _, rfl, iteT ?_⟩
  have fin : ∀ (H1 : Hp) (D : Addr) (ps : List Addr) (kvs : List (Key × V)), Same H H1 → H1 D = some (.lst (ps.map V.ref)) → Paired (fun p (kv : Key × V) => SqT K H1 p [kV kv.1, kv.2]) ps kvs → KnAt K H1 (mergeK [] kvs) kn →
      ∃ (a : Addr) (ps : List Addr) (kvs : List (Key × V)), [V.ref D] = [V.ref a] ∧ SqL K H1 a (ps.map V.ref) ∧ Paired (fun p (kv : Key × V) => SqT K H1 p [kV kv.1, kv.2]) ps kvs ∧ ∀ g, H1 g = none → ∀ b, upd H1 g (.dK (mergeK [] kvs)) b = none → ∀ x dx, upd (upd H1 g (.dK (mergeK [] kvs))) b (.dK []) x = none → upd (upd H1 g (.dK (mergeK [] kvs))) b (.dK []) dx = none → dx ≠ x →
        ∃ a dx2 l t' n, [V.ref x, lk, .ref g, .ref b] = [V.ref a, l, t', n] ∧ upd (upd (upd (upd H1 g (.dK (mergeK [] kvs))) b (.dK [])) dx (.own x)) x (.ins CS dx []) a = some (.ins CS dx2 []) ∧
          (V.non = .non ∧ ∃ sv v' kn bd t k, [V.ref x, v] = [sv, v'] ∧ ScAt K CS (upd (upd (upd (upd (upd H1 g (.dK (mergeK [] kvs))) b (.dK [])) dx (.own x)) x (.ins CS dx [])) a (.ins CS dx2 [("looks", l), ("knowns", t'), ("binds", n)])) sv kn bd ∧
            TmAt K (upd (upd (upd (upd (upd H1 g (.dK (mergeK [] kvs))) b (.dK [])) dx (.own x)) x (.ins CS dx [])) a (.ins CS dx2 [("looks", l), ("knowns", t'), ("binds", n)])) v' t ∧ True ∧ t.depth ≤ 30 ∧ kin kn bd t = some k ∧ KnOk kn ∧
              Ret (upd (upd (upd (upd (upd H1 g (.dK (mergeK [] kvs))) b (.dK [])) dx (.own x)) x (.ins CS dx [])) a (.ins CS dx2 [("looks", l), ("knowns", t'), ("binds", n)])) Q fun r H' => KdAt K H' r k) := by
    intro H1 D ps kvs s1 hD hp hk
    refine ⟨D, ps, kvs, rfl, .of hD, hp, fun g hg b hb x dx nx nd ne => ⟨x, dx, _, _, _, rfl, upd_same, rfl, ?_⟩⟩
    have sg := same_new hg (.dK (mergeK [] kvs))
    have sb := same_new hb (.dK [])
    have sn := new_same nx nd (o := .own x) (i := .ins CS dx []) (j := .ins CS dx [("looks", lk), ("knowns", .ref g), ("binds", .ref b)])
    have sA := s1.trans (sg.trans (sb.trans sn))
    exact ⟨_, v, kn, false, t, k, rfl, ScAt.mk' upd_same ((sb.trans sn) _ _ upd_same) (hk.same (sg.trans (sb.trans sn))) (sn _ _ upd_same) rfl, ht.same sA, trivial, hl, hki, hko, fun r H' s' hr => q _ _ (sA.trans s') hr⟩
  cases kn with
  | none =>
    have hkt1 : SqT K _ kt [] := (tps s0).seq hkt
    refine ⟨_, rfl, kt, rfl, ⟨_, hkt1⟩, fun D hD => ?_⟩
    refine lc_none (walk_tup (xs := [])) hD ((tps (same_new hD _)).seq hkt1) fun H1 s1 hD1 => ?_
    obtain ⟨a, ps, kvs, e1, e2, e3, e4⟩ := fin H1 D [] [] (s0.trans s1) hD1 .nil rfl
    exact ⟨a, ps, kvs, e1, e2, e3, fun g hg => ⟨_, rfl, _, rfl, fun b hb x dx nx nd ne => let ⟨a, dx2, l, t', n, f1, f2, f3, f4⟩ := e4 g hg b hb x dx nx nd ne; ⟨a, dx2, l, t', n, f1, f2, f3, _, rfl, f4⟩⟩⟩
  | some kk =>
    obtain ⟨p, z, u, h1, h2, h3, h4⟩ := hkt
    refine ⟨_, rfl, kt, rfl, ⟨_, (tps s0).seq h1⟩, fun D hD => ?_⟩
    refine lc_map (walk_tup (xs := [V.ref p])) (fun i y H' => ∃ p2 p3, y = .ref p2 ∧ SqT K H' p2 [.str "one", .ref p3] ∧ SqT K H' p3 [.ref z, u]) hD (show 1 ≤ 1000 by decide) (fun _ _ _ _ e ⟨p2, p3, a, b, c⟩ => ⟨p2, p3, a, e.seq b, e.seq c⟩) (fun H' sh => (tps (s0.trans sh)).seq h1) ?_ ?_ ?_
    · rintro i x H2 H3 Qk hi sh ⟨rfl, hx⟩ qk
      have hi0 : i = 0 := Nat.lt_one_iff.mp hi
      subst hi0
      cases hx
      refine ⟨p, _, rfl, (tps (s0.trans sh)).seq h2, rfl, _, _, rfl, _, _, rfl, _, _, rfl, rfl, rfl, ?_⟩
      refine ⟨_, rfl, _, rfl, _, rfl, sz2, fun p3 n3 => ⟨sz2, fun p2 n2 => ?_⟩⟩
      exact qk _ _ (updN (same_new n3 _) n2) ⟨p2, p3, rfl, .of upd_same, .of ((same_new n2 _) _ _ upd_same)⟩
    · intro H2 ys sh e hy hys
      obtain ⟨y, rfl⟩ := len1 hy
      obtain ⟨p2, p3, rfl, c1, c2⟩ := hys 0 y rfl
      obtain ⟨a, ps, kvs, e1, e2, e3, e4⟩ := fin H2 D [p2] [(.inr "one", .ref p3)] (s0.trans sh) e (.cons c1 .nil) ⟨p3, z, u, rfl, c2, (tps (s0.trans sh)).seq h3, h4.same (s0.trans sh)⟩
      exact ⟨a, ps, kvs, e1, e2, e3, fun g hg => ⟨_, rfl, _, rfl, fun b hb x dx nx nd ne => let ⟨a, dx2, l, t', n, f1, f2, f3, f4⟩ := e4 g hg b hb x dx nx nd ne; ⟨a, dx2, l, t', n, f1, f2, f3, _, rfl, f4⟩⟩⟩
    · rintro x σ H Q Q' h ⟨a, xs, e, e1, e2, v1, r1, e3, v2, r2, e4, v3, r3, e5, e6, e7⟩
      exact ⟨a, xs, e, e1, e2, v1, r1, e3, v2, r2, e4, v3, r3, e5, e6, h _ _ e7⟩
end
end K70
namespace K70
open PySem PySem.Spec PyProof.Rows L2
section
variable {P : Program} {w : World} {K : PySem.W.Frag} {mg : Str → Option Value} {base : Heap} {CS CF CT : Addr}
/-! ### uses_of -/
def ones (n : Nat) : List V := List.replicate n (.str "one")
theorem ones_add (a b : Nat) : ones a ++ ones b = ones (a + b) := List.replicate_append_replicate
theorem sum_take {l : List Nat} {i x : Nat} (h : l[i]? = some x) : (l.take (i + 1)).sum = (l.take i).sum + x := by
  rw [take_snoc h, List.sum_append]
  simp
theorem sum_take_le (l : List Nat) (i : Nat) : (l.take i).sum ≤ l.sum := by
  induction l generalizing i with
  | nil => simp
  | cons x r ih =>
    cases i with
    | zero => simp
    | succ i => simp only [List.take_succ_cons, List.sum_cons]; have := ih i; omega
def spUses (K : PySem.W.Frag) (n : Nat) : Sp := fun vs H Q _ => ∃ v t, vs = [v] ∧ TmAt K H v t ∧ t.depth ≤ n ∧ t.uses ≤ 60 ∧ Ret H Q fun u H' => ∃ a, u = .ref a ∧ H a = none ∧ H' a = some (.lst (ones t.uses))
theorem has_uses_of (T : Txt w K mg) : ∀ n, Has P w K mg base CX0 (n + 3) "uses_of" (spUses K n) := by
  intro n
  obtain ⟨f, fd, D⟩ := T.f_uses_of
  have h_inner_terms := has_inner_terms (P := P) (base := base) T
  induction n with
  | zero => exact D.none sc_uses_of fun vs H Q E ⟨_, k, _, _, l, _⟩ => by have := k.depth_pos; omega
  | succ n h_uses_of =>
    refine D.ok0 sc_uses_of (fun vs H Q E h => ?_) (fun cdv A outer s H vs Q E hr h => ?_)
    · obtain ⟨_, _, rfl, _⟩ := h
      rfl
    obtain ⟨v, t, rfl, ht, hl, hu, q⟩ := h
    obtain ⟨a, xs, rfl, hs, hp⟩ := ht.view
    refine ⟨_, (pss_cons (ps_set (i := 1) sc_uses_of.nd rfl (Or.inl rfl) (pe_lst pa_nil)) (pss_cons (ps_if (pt_cmpR op_eq (pe_ix ix_tup (pv 0) pe_int (fun _ _ => rfl)) pe_str (nomark _)) (pss_one (ps_expr (pe_bm PySem.F.plainAttrs_list PySem.F.slot_list_append PySem.F.type_list_append mt_append (pv 1) (pa_cons (pe_ix ix_tup (pv 0) pe_int (fun _ _ => rfl)) pa_nil)))) pss_nil) (pss_cons (ps_for PassesOwn.never rfl (pi_list (pe_c h_inner_terms hr (by omega) (pa_cons (pv 0) pa_nil))) (pg_name (i := 2) sc_uses_of.nd rfl (Or.inl rfl)) (pss_one (ps_expr (pe_bm PySem.F.plainAttrs_list PySem.F.slot_list_extend PySem.F.type_list_extend mt_extend (pv 1) (pa_cons (pe_c h_uses_of hr (by omega) (pa_cons (pv 2) pa_nil)) pa_nil))))) (pss_one (ps_ret (pv 1)))))), ?_⟩
    refine ⟨sz0, fun g hg => ?_⟩
    have s1 := same_new hg (.lst [])
    refine ⟨_, rfl, a, _, _, _, rfl, rfl, (tps s1).seq hs, at0, rfl, _, rfl, ?_⟩
    have ut := uses_inner t
    have main : ∀ (c : Nat) (H1 : Hp), Same H H1 → H1 g = some (.lst (ones c)) → t.uses = c + (t.inner.map Tm.uses).sum →
        (tSeq (tFor (iList K (tCall (spInner K) [] E0 (tCons (tVar 0) tNil))) (gName 2) (tDrop (tBM K "list" rExtend (tVar 1) (tCons (tCall (spUses K n) [] E0 (tCons (tVar 2) tNil)) tNil)))) (tRet (tVar 1)) : TS) { nx := fun _ H' => Q .non H', rt := Q } [some (.ref a), some (.ref g), none] H1 := by
      intro c H1 sh hg1 hc
      refine ⟨_, rfl, _, t, rfl, ht.same sh, fun u H2 s2 ⟨b, ys, e1, e2, e3, e4⟩ => ?_⟩
      subst e1
      refine ⟨b, rfl, ⟨_, .of e3⟩, ?_⟩
      have hlen := e4.length
      have hgb : b ≠ g := fun z => by rw [z, hg1] at e2; cases e2
      refine for_it (walk_list (xs := ys)) (fun i σ H3 => Same H H3 ∧ H3 b = some (.lst ys) ∧ H3 g = some (.lst (ones (c + ((t.inner.map Tm.uses).take i).sum))) ∧ Paired (TmAt K H3) ys t.inner ∧ ∃ u1, σ = [some (.ref a), some (.ref g), u1]) ?_ ?_ ?_ ?_
      · refine ⟨sh.trans s2, e3, ?_, e4, _, rfl⟩
        rw [List.take_zero, List.sum_nil, Nat.add_zero]
        exact s2 _ _ hg1
      · exact fun i σ H3 _ h => .of h.2.1
      · rintro i x σ H3 H4 hi ⟨sh3, hb3, hg3, hp3, u1, rfl⟩ ⟨rfl, hx⟩
        obtain ⟨j, hj, hxj⟩ := paired_at hp3 hx
        have lj : j.depth ≤ n := by have := Tm.inner_lt (List.mem_of_getElem? hj); omega
        have hji : (t.inner.map Tm.uses)[i]? = some j.uses := by rw [List.getElem?_map, hj]; rfl
        have hst := sum_take hji
        have hle := sum_take_le (t.inner.map Tm.uses) (i + 1)
        refine ⟨_, rfl, .inl ⟨rfl, _, .of hg3⟩, _, rfl, x, j, rfl, hxj, lj, by omega, fun u5 H5 s5 ⟨b5, e5, n5, h5⟩ => ?_⟩
        subst e5
        have hg5 := s5 _ _ hg3
        refine ⟨g, b5, _, _, rfl, rfl, hg5, h5, ?_, ?_⟩
        · unfold ones
          rw [List.length_replicate, List.length_replicate]
          exact Nat.le_trans (by omega : _ ≤ 60) (by decide)
        · rw [ones_add]
          have tm : Tps _ (upd H5 g (.lst (ones (c + ((t.inner.map Tm.uses).take i).sum + j.uses)))) := (tps s5).trans (tps_mut hg5 rfl)
          refine ⟨same_mut (sh3.trans s5) hg, by rw [upd_ne hgb]; exact s5 _ _ hb3, ?_, Paired.mapP hp3 fun _ _ h => h.mono tm, _, rfl⟩
          rw [upd_same, hst, Nat.add_assoc]
      · rintro σ H3 ⟨sh3, hb3, hg3, hp3, u1, rfl⟩
        have e6 : (t.inner.map Tm.uses).take ys.length = t.inner.map Tm.uses := List.take_of_length_le (by rw [List.length_map]; omega)
        rw [e6, ← hc] at hg3
        exact ⟨_, rfl, q _ _ sh3 ⟨g, rfl, hg, hg3⟩⟩
    by_cases hto : t = .told
    · subst hto
      refine ifT (decide_eq_true rfl) ?_
      cases hp with
      | cons hx _ =>
        cases (show _ = V.str "one" from hx)
        refine ⟨_, rfl, .inl ⟨rfl, _, .of upd_same⟩, _, rfl, a, _, _, _, rfl, rfl, (tps s1).seq hs, at1, g, [], _, rfl, rfl, upd_same, by decide, ?_⟩
        exact main 1 _ (same_mut s1 hg) upd_same rfl
    · refine ifF (word_told hto) ?_
      rw [if_neg hto] at ut
      exact main 0 _ s1 upd_same ut
/-! ### whole_parts, whole_depth -/
def spWParts (K : PySem.W.Frag) (n : Nat) : Sp := fun vs H Q _ => ∃ v d t wb kvs, vs = [v, .ref d] ∧ TmAt K H v t ∧ H d = some (.dK kvs) ∧ WhAt K H kvs wb ∧ WOk wb t ∧ t.depth ≤ n ∧ Ret H Q fun u _ => u = .int (t.wh wb).parts
theorem has_whole_parts (T : Txt w K mg) : ∀ n, Has P w K mg base CX0 (n + 40) "whole_parts" (spWParts K n) := by
  intro n
  obtain ⟨f, fd, D⟩ := T.f_whole_parts
  have h_inner_terms := has_inner_terms (P := P) (base := base) T
  have h_parts_of_term := has_parts_of_term (P := P) (base := base) T 30
  induction n with
  | zero => exact D.none sc_whole_parts fun vs H Q E ⟨_, _, k, _, _, _, _, _, _, _, l, _⟩ => by have := k.depth_pos; omega
  | succ n h_whole_parts =>
    refine D.ok0 sc_whole_parts (fun vs H Q E h => ?_) (fun cdv A outer s H vs Q E hr h => ?_)
    · obtain ⟨_, _, _, _, _, rfl, _⟩ := h
      rfl
    obtain ⟨v, d, t, wb, kvs, rfl, ht, hd, hw, hok, hl, q⟩ := h
    obtain ⟨a, xs, rfl, hs, hp⟩ := ht.view
    have hu := hu_of hr
    refine ⟨_, (pss_cons (ps_if (pt_cmpR op_eq (pe_ix ix_tup (pv 0) pe_int (fun _ _ => rfl)) pe_str (nomark _)) (pss_one (ps_ret (pe_c h_parts_of_term hr (by omega) (pa_cons (pe_dget hu (pv 1) (pe_ix ix_tup (pv 0) pe_int (fun _ _ => rfl)) (fun _ _ => rfl)) pa_nil)))) pss_nil) (pss_one (ps_ret (pe_op op_add pe_int (pe_callB (cr_sum rfl) (by rfl) T.b_sum bt_sum (pa_cons (pe_lc (own := [("inner", 2)]) (tt := tYes) rfl sc_whole_parts.nd (pi_list (pe_c h_inner_terms hr (by omega) (pa_cons (pv 0) pa_nil))) (blkOk_by (own := [("inner", 2)]) (N := ["term", "wholes", "inner"]) (sc := defScope s_whole_parts) (by decide +kernel)) (fun _ _ _ _ _ => (pg_name (i := 2) sc_whole_parts.nd rfl (Or.inl rfl) (hf := .inr rfl))) (fun _ _ _ _ _ => pts_nil) (fun _ _ _ _ _ => (pe_c h_whole_parts hr (by omega) (pa_cons (pv 2) (pa_cons (pv 1) pa_nil))))) pa_nil)))))), ?_⟩
    refine ⟨_, rfl, a, _, _, _, rfl, rfl, hs, at0, rfl, _, rfl, ?_⟩
    by_cases hto : t = .told
    · subst hto
      refine ifT (decide_eq_true rfl) ?_
      obtain ⟨b, rfl, hbp, hbd⟩ := hok.told
      obtain ⟨u, rfl, hub⟩ := hw
      have dg := DGet.k (k := (.inr "one" : Key)) hd
      rw [kv_one] at dg
      cases hp with
      | cons hx _ =>
        cases (show _ = V.str "one" from hx)
        exact ⟨_, rfl, _, rfl, a, _, _, _, rfl, rfl, hs, at1, d, u, rfl, dg, u, b, rfl, hub, hbd, fun r H' s' hr => q _ _ s' hr⟩
    · refine ifF (word_told hto) ?_
      refine ⟨_, rfl, _, t, rfl, ht, fun u H1 s1 ⟨b, ys, e, hnb, hb, hpy⟩ => ?_⟩
      subst e
      refine ⟨b, rfl, ⟨_, .of hb⟩, fun D hD => ?_⟩
      have hn := hpy.length
      refine lc_map (walk_list (xs := ys)) (fun i y _ => ∃ s, t.inner[i]? = some s ∧ y = V.int ((s.wh wb).parts : Nat)) hD (by have := inner_len t; omega) (fun _ _ _ _ _ h => h) (fun H' sh => .of (sh _ _ hb)) ?_ ?_ gm_name
      · rintro i x H2 H3 Qk hi sh ⟨rfl, hx⟩ qk
        obtain ⟨j, hj, hxj⟩ := paired_at hpy hx
        have hjm := List.mem_of_getElem? hj
        have lj : j.depth ≤ n := by have := Tm.inner_lt hjm; omega
        exact ⟨rfl, _, rfl, _, rfl, x, d, j, wb, kvs, rfl, hxj.same sh, sh _ _ (s1 _ _ hd), hw.same (s1.trans sh), hok.inner hjm, lj, fun v H4 s4 e => qk _ _ s4 ⟨j, hj, e⟩⟩
      · intro H2 ys2 sh e hy hys
        have ey := ints_of (fun (s : Tm) => ((s.wh wb).parts : Int)) (by omega) hys
        have fin : ∀ m : Int, m = (t.wh wb).parts → Q (.int m) H2 := fun m e => by rw [e]; exact q _ _ (s1.trans sh) rfl
        exact ⟨D, t.inner.map fun s => ((s.wh wb).parts : Int), rfl, .of (ey ▸ e), _, _, rfl, rfl, fin _ (wh_parts hto)⟩
def spWDepth (K : PySem.W.Frag) (n : Nat) : Sp := fun vs H Q _ => ∃ v d t wb kvs, vs = [v, .ref d] ∧ TmAt K H v t ∧ H d = some (.dK kvs) ∧ WhAt K H kvs wb ∧ WOk wb t ∧ t.depth ≤ n ∧ Ret H Q fun u _ => u = .int (t.wh wb).depth
theorem has_whole_depth (T : Txt w K mg) : ∀ n, Has P w K mg base CX0 (n + 40) "whole_depth" (spWDepth K n) := by
  intro n
  obtain ⟨f, fd, D⟩ := T.f_whole_depth
  have h_inner_terms := has_inner_terms (P := P) (base := base) T
  have h_depth_of_term := has_depth_of_term (P := P) (base := base) T 30
  induction n with
  | zero => exact D.none sc_whole_depth fun vs H Q E ⟨_, _, k, _, _, _, _, _, _, _, l, _⟩ => by have := k.depth_pos; omega
  | succ n h_whole_depth =>
    refine D.ok0 sc_whole_depth (fun vs H Q E h => ?_) (fun cdv A outer s H vs Q E hr h => ?_)
    · obtain ⟨_, _, _, _, _, rfl, _⟩ := h
      rfl
    obtain ⟨v, d, t, wb, kvs, rfl, ht, hd, hw, hok, hl, q⟩ := h
    obtain ⟨a, xs, rfl, hs, hp⟩ := ht.view
    have hu := hu_of hr
    refine ⟨_, (pss_cons (ps_if (pt_cmpR op_eq (pe_ix ix_tup (pv 0) pe_int (fun _ _ => rfl)) pe_str (nomark _)) (pss_one (ps_ret (pe_c h_depth_of_term hr (by omega) (pa_cons (pe_dget hu (pv 1) (pe_ix ix_tup (pv 0) pe_int (fun _ _ => rfl)) (fun _ _ => rfl)) pa_nil)))) pss_nil) (pss_one (ps_ret (pe_op op_add pe_int (pe_callBK (cr_maxD rfl) rfl T.b_max bt_max (pa_cons (pe_lc (own := [("inner", 2)]) (tt := tYes) rfl sc_whole_depth.nd (pi_list (pe_c h_inner_terms hr (by omega) (pa_cons (pv 0) pa_nil))) (blkOk_by (own := [("inner", 2)]) (N := ["term", "wholes", "inner"]) (sc := defScope s_whole_depth) (by decide +kernel)) (fun _ _ _ _ _ => (pg_name (i := 2) sc_whole_depth.nd rfl (Or.inl rfl) (hf := .inr rfl))) (fun _ _ _ _ _ => pts_nil) (fun _ _ _ _ _ => (pe_c h_whole_depth hr (by omega) (pa_cons (pv 2) (pa_cons (pv 1) pa_nil))))) pa_nil) (pk_cons pe_int pk_nil)))))), ?_⟩
    refine ⟨_, rfl, a, _, _, _, rfl, rfl, hs, at0, rfl, _, rfl, ?_⟩
    by_cases hto : t = .told
    · subst hto
      refine ifT (decide_eq_true rfl) ?_
      obtain ⟨b, rfl, hbp, hbd⟩ := hok.told
      obtain ⟨u, rfl, hub⟩ := hw
      have dg := DGet.k (k := (.inr "one" : Key)) hd
      rw [kv_one] at dg
      cases hp with
      | cons hx _ =>
        cases (show _ = V.str "one" from hx)
        exact ⟨_, rfl, _, rfl, a, _, _, _, rfl, rfl, hs, at1, d, u, rfl, dg, u, b, rfl, hub, hbd, fun r H' s' hr => q _ _ s' hr⟩
    · refine ifF (word_told hto) ?_
      refine ⟨_, rfl, _, t, rfl, ht, fun u H1 s1 ⟨b, ys, e, hnb, hb, hpy⟩ => ?_⟩
      subst e
      refine ⟨b, rfl, ⟨_, .of hb⟩, fun D hD => ?_⟩
      have hn := hpy.length
      refine lc_map (walk_list (xs := ys)) (fun i y _ => ∃ s, t.inner[i]? = some s ∧ y = V.int ((s.wh wb).depth : Nat)) hD (by have := inner_len t; omega) (fun _ _ _ _ _ h => h) (fun H' sh => .of (sh _ _ hb)) ?_ ?_ gm_name
      · rintro i x H2 H3 Qk hi sh ⟨rfl, hx⟩ qk
        obtain ⟨j, hj, hxj⟩ := paired_at hpy hx
        have hjm := List.mem_of_getElem? hj
        have lj : j.depth ≤ n := by have := Tm.inner_lt hjm; omega
        exact ⟨rfl, _, rfl, _, rfl, x, d, j, wb, kvs, rfl, hxj.same sh, sh _ _ (s1 _ _ hd), hw.same (s1.trans sh), hok.inner hjm, lj, fun v H4 s4 e => qk _ _ s4 ⟨j, hj, e⟩⟩
      · intro H2 ys2 sh e hy hys
        have ey := ints_of (fun (s : Tm) => ((s.wh wb).depth : Int)) (by omega) hys
        have fin : ∀ m : Int, m = (t.wh wb).depth → Q (.int m) H2 := fun m e => by rw [e]; exact q _ _ (s1.trans sh) rfl
        refine ⟨D, t.inner.map (fun s => ((s.wh wb).depth : Int)), 0, rfl, rfl, .of (ey ▸ e), fun h0 => ⟨_, _, rfl, rfl, fin _ (wh_depth hto 0 (fun _ => rfl) fun h => (h h0).elim)⟩, fun m hm hu => ⟨_, _, rfl, rfl, fin _ (wh_depth hto m (fun h0 => ?_) fun _ => ⟨hm, hu⟩)⟩⟩
        rw [h0] at hm
        cases hm
end
end K70
namespace K70
open PySem PySem.Spec PyProof.Rows L2
namespace Tm
def pd (wb : Option Tm) : Tm → Nat
  | .nm => 1 | .one => 1 | .told => (wb.getD .told).depth + 1 | .fn t => t.pd wb + 1 | .call s t => max (s.pd wb) (t.pd wb) + 1 | .plus s t => max (s.pd wb) (t.pd wb) + 1 | .pair s t => max (s.pd wb) (t.pd wb) + 1 | .left t => t.pd wb + 1
theorem pd_pos (wb : Option Tm) (t : Tm) : 0 < t.pd wb := by cases t <;> simp [pd]
theorem pd_inner {wb : Option Tm} {t s : Tm} (h : s ∈ t.inner) : s.pd wb < t.pd wb := by
  cases t <;> simp [inner] at h <;> (first | (rcases h with h | h <;> subst h <;> simp only [pd] <;> omega) | (subst h; simp only [pd]; omega))
theorem wh_plain {wb : Option Tm} : ∀ {t : Tm}, t.plain = true → t.wh wb = t
  | .nm, _ => rfl
  | .one, _ => rfl
  | .told, h => by cases h
  | .fn t, h => congrArg Tm.fn (wh_plain (t := t) h)
  | .call s t, h => by
    have h' : s.plain = true ∧ t.plain = true := by simpa [plain] using h
    show Tm.call _ _ = _
    rw [wh_plain h'.1, wh_plain h'.2]
  | .plus s t, h => by
    have h' : s.plain = true ∧ t.plain = true := by simpa [plain] using h
    show Tm.plus _ _ = _
    rw [wh_plain h'.1, wh_plain h'.2]
  | .pair s t, h => by
    have h' : s.plain = true ∧ t.plain = true := by simpa [plain] using h
    show Tm.pair _ _ = _
    rw [wh_plain h'.1, wh_plain h'.2]
  | .left t, h => congrArg Tm.left (wh_plain (t := t) h)
theorem pd_plain {wb : Option Tm} : ∀ {t : Tm}, t.plain = true → t.pd wb = t.depth
  | .nm, _ => rfl
  | .one, _ => rfl
  | .told, h => by cases h
  | .fn t, h => by show t.pd wb + 1 = _; rw [pd_plain (t := t) h]; rfl
  | .call s t, h => by
    have h' : s.plain = true ∧ t.plain = true := by simpa [plain] using h
    show max (s.pd wb) (t.pd wb) + 1 = _
    rw [pd_plain h'.1, pd_plain h'.2]; rfl
  | .plus s t, h => by
    have h' : s.plain = true ∧ t.plain = true := by simpa [plain] using h
    show max (s.pd wb) (t.pd wb) + 1 = _
    rw [pd_plain h'.1, pd_plain h'.2]; rfl
  | .pair s t, h => by
    have h' : s.plain = true ∧ t.plain = true := by simpa [plain] using h
    show max (s.pd wb) (t.pd wb) + 1 = _
    rw [pd_plain h'.1, pd_plain h'.2]; rfl
  | .left t, h => by show t.pd wb + 1 = _; rw [pd_plain (t := t) h]; rfl
theorem pd_le (wb : Option Tm) : ∀ t : Tm, t.pd wb ≤ (t.wh wb).depth + 1
  | .nm => (by decide : 1 ≤ 2)
  | .one => (by decide : 1 ≤ 2)
  | .told => Nat.le_refl _
  | .fn t => by have := pd_le wb t; simp only [pd, wh, depth]; omega
  | .call s t => by have := pd_le wb s; have := pd_le wb t; simp only [pd, wh, depth]; omega
  | .plus s t => by have := pd_le wb s; have := pd_le wb t; simp only [pd, wh, depth]; omega
  | .pair s t => by have := pd_le wb s; have := pd_le wb t; simp only [pd, wh, depth]; omega
  | .left t => by have := pd_le wb t; simp only [pd, wh, depth]; omega
end Tm
theorem withI_wh {wb : Option Tm} {t : Tm} (h : t ≠ .told) : t.withI (t.inner.map (Tm.wh wb)) = t.wh wb := by
  cases t <;> first | exact (h rfl).elim | rfl
section
variable {P : Program} {w : World} {K : PySem.W.Frag} {mg : Str → Option Value} {base : Heap} {CS CF CT : Addr}
/-! ### scope_within -/
def spWithin (K : PySem.W.Frag) (CS : Addr) : Sp := fun vs H Q _ => ∃ sv v i ah kn bd t, vs = [sv, v, i, ah] ∧ ScAt K CS H sv kn bd ∧ TmAt K H v t ∧ Ret H Q fun r H' => ∃ bd', ScAt K CS H' r kn bd'
theorem has_scope_within (T : Txt w K mg) (O : Own w K mg CS CF CT) : Has P w K mg base CX0 4 "scope_within" (spWithin K CS) := by
  obtain ⟨f, fd, D⟩ := T.f_scope_within
  have h_Scope_bound := has_bound (P := P) (base := base) T O
  have c_Scope : Cls K CS := O.c_Scope.elim fun _ h => h.elim fun _ h => h.cl
  refine D.ok0 sc_scope_within (fun vs H Q E h => ?_) (fun cdv A outer s H vs Q E hr h => ?_)
  · obtain ⟨_, _, _, _, _, _, _, rfl, _⟩ := h
    rfl
  obtain ⟨sv, v, i, ah, kn, bd, t, rfl, hsc, ht, q⟩ := h
  obtain ⟨b, xs, rfl, hs, hp⟩ := ht.view
  refine ⟨_, (pss_cons (ps_set (i := 4) sc_scope_within.nd rfl (Or.inl rfl) (pe_ix ix_tup (pv 1) pe_int (fun _ _ => rfl))) (pss_cons (ps_if (pt_cmpR op_eq (pv 4) pe_str (nomark _)) (pss_one (ps_ret (pe_m h_Scope_bound c_Scope hr (by omega) (pv 0) (pa_cons (pe_lst (pa_cons (pe_tup (pa_cons (pe_ix ix_tup (pv 1) pe_int (fun _ _ => rfl)) (pa_cons (pe_ix ix_tup (pv 1) pe_int (fun _ _ => rfl)) pa_nil))) pa_nil)) pa_nil)))) pss_nil) (pss_cons (ps_if (PW.pt (pw_and (pt_cmpR op_eq (pv 4) pe_str (nomark _)) (pw_and1 (pt_cmpR op_gt (pv 2) pe_int (nomark _))))) pss_never pss_nil) (pss_cons (ps_if (PW.pt (pw_and (pt_cmpR op_eq (pv 4) pe_str (nomark _)) (pw_and1 (pt_cmpR op_eq (pv 2) pe_int (nomark _))))) pss_never pss_nil) (pss_cons (ps_if (pt_cmpR op_eq (pv 4) pe_str (nomark _)) pss_never pss_nil) (pss_cons (ps_if (PW.pt (pw_and (pt_cmpR op_eq (pv 4) pe_str (nomark _)) (pw_and1 (pt_cmpR op_eq (pv 2) pe_int (nomark _))))) pss_never pss_nil) (pss_one (ps_ret (pv 0))))))))), ?_⟩
  refine ⟨_, rfl, b, _, _, _, rfl, rfl, hs, at0, ?_⟩
  cases ht with
  | @fn b u y t hs' hku hty =>
    refine ⟨_, rfl, rfl, _, rfl, ifT (decide_eq_true rfl) ?_⟩
    have hsc0 := hsc
    obtain ⟨a, dx, vl, kd, bb, kvs, bvs, rfl, ha, hkd, hkn, hbb, hbd⟩ := hsc0
    refine ⟨_, rfl, a, dx, _, rfl, ha, rfl, ?_⟩
    refine ⟨_, rfl, b, _, _, _, rfl, rfl, hs', at1, _, rfl, b, _, _, _, rfl, rfl, hs', at2, sz2, fun p hp => ?_⟩
    have s1 := same_new hp (.tup [.str "x", u])
    refine ⟨sz1, fun l hnl => ?_⟩
    have s2 := updN (o := .lst [.ref p]) s1 hnl
    have hpl : p ≠ l := ne_of_none upd_same hnl
    exact ⟨_, l, p, u, kn, bd, rfl, hsc.same s2, upd_same, .of (by rw [upd_ne hpl]; exact upd_same), hku.same s2, fun r H3 s3 hr3 => q _ _ (s2.trans s3) ⟨_, hr3⟩⟩
  | nm hs' | one hs' | told hs' _ | call hs' _ _ | plus hs' _ _ | pair hs' _ _ | left hs' _ _ =>
    refine ⟨_, rfl, rfl, _, rfl, ifF (decide_eq_false (by dsimp only [Kd.word, Tm.word, Tm.form, It.sign]; decide +kernel)) ?_⟩
    refine ⟨_, rfl, rfl, _, rfl, ifF (decide_eq_false (by dsimp only [Kd.word, Tm.word, Tm.form, It.sign]; decide +kernel)) (iteF ?_)⟩
    refine ⟨_, rfl, rfl, _, rfl, ifF (decide_eq_false (by dsimp only [Kd.word, Tm.word, Tm.form, It.sign]; decide +kernel)) (iteF ?_)⟩
    refine ⟨_, rfl, rfl, _, rfl, ifF (decide_eq_false (by dsimp only [Kd.word, Tm.word, Tm.form, It.sign]; decide +kernel)) ?_⟩
    refine ⟨_, rfl, rfl, _, rfl, ifF (decide_eq_false (by dsimp only [Kd.word, Tm.word, Tm.form, It.sign]; decide +kernel)) (iteF ?_)⟩
    exact ⟨_, rfl, q _ _ (Same.refl _) ⟨bd, hsc⟩⟩
/-! ### put_together -/
def spTog (K : PySem.W.Frag) (CS : Addr) (n : Nat) : Sp := fun vs H Q _ => ∃ sv v d kn bd t wb kvs, vs = [sv, v, .ref d] ∧ ScAt K CS H sv kn bd ∧ TmAt K H v t ∧ H d = some (.dK kvs) ∧ WhAt K H kvs wb ∧ WOk wb t ∧ t.pd wb ≤ n ∧ Ret H Q fun r H' => TmAt K H' r (t.wh wb)
theorem has_put_together (T : Txt w K mg) (O : Own w K mg CS CF CT) : ∀ n, Has P w K mg base CX0 (n + 40) "put_together" (spTog K CS n) := by
  intro n
  obtain ⟨f, fd, D⟩ := T.f_put_together
  have h_inner_terms := has_inner_terms (P := P) (base := base) T
  have h_with_inner := has_with_inner (P := P) (base := base) T
  have h_scope_within := has_scope_within (P := P) (base := base) T O
  have h_filled_term := has_filled_term (P := P) (base := base) T 30
  induction n with
  | zero => exact D.none sc_put_together fun vs H Q E ⟨_, _, _, _, _, t, wb, _, _, _, _, _, _, _, l, _⟩ => by have := t.pd_pos wb; omega
  | succ n h_put_together =>
    refine D.ok0 sc_put_together (fun vs H Q E h => ?_) (fun cdv A outer s H vs Q E hr h => ?_)
    · obtain ⟨_, _, _, _, _, _, _, _, rfl, _⟩ := h
      rfl
    obtain ⟨sv, v, d, kn, bd, t, wb, kvs, rfl, hsc, ht, hd, hw, hok, hl, q⟩ := h
    obtain ⟨a, xs, rfl, hs, hp⟩ := ht.view
    have hu := hu_of hr
    refine ⟨_, (pss_cons (ps_if (pt_cmpR op_eq (pe_ix ix_tup (pv 1) pe_int (fun _ _ => rfl)) pe_str (nomark _)) (pss_one (ps_ret (pe_c h_put_together hr (by omega) (pa_cons (pv 0) (pa_cons (pe_c h_filled_term hr (by omega) (pa_cons (pe_dget hu (pv 2) (pe_ix ix_tup (pv 1) pe_int (fun _ _ => rfl)) (fun _ _ => rfl)) (pa_cons (pe_ix ix_tup (pv 1) pe_int (fun _ _ => rfl)) pa_nil))) (pa_cons (pv 2) pa_nil)))))) pss_nil) (pss_cons (ps_if (pt_cmpR op_eq (pe_ix ix_tup (pv 1) pe_int (fun _ _ => rfl)) pe_str (nomark _)) pss_never pss_nil) (pss_cons (ps_set (i := 3) sc_put_together.nd rfl (Or.inl rfl) (pe_lst pa_nil)) (pss_cons (ps_for PassesOwn.never rfl (pi_enum rfl T.b_enumerate (pa_cons (pe_c h_inner_terms hr (by omega) (pa_cons (pv 1) pa_nil)) pa_nil)) (pg_tup rfl (pgs_cons (pg_name (i := 4) sc_put_together.nd rfl (Or.inl rfl)) (pgs_cons (pg_name (i := 5) sc_put_together.nd rfl (Or.inl rfl)) pgs_nil))) (pss_one (ps_expr (pe_bm PySem.F.plainAttrs_list PySem.F.slot_list_append PySem.F.type_list_append mt_append (pv 3) (pa_cons (pe_c h_put_together hr (by omega) (pa_cons (pe_c h_scope_within hr (by omega) (pa_cons (pv 0) (pa_cons (pv 1) (pa_cons (pv 4) (pa_cons (pv 3) pa_nil))))) (pa_cons (pv 5) (pa_cons (pv 2) pa_nil)))) pa_nil))))) (pss_one (ps_ret (pe_c h_with_inner hr (by omega) (pa_cons (pv 1) (pa_cons (pv 3) pa_nil))))))))), ?_⟩
    refine ⟨_, rfl, a, _, _, _, rfl, rfl, hs, at0, rfl, _, rfl, ?_⟩
    by_cases hto : t = .told
    · subst hto
      refine ifT (decide_eq_true rfl) ?_
      obtain ⟨b, rfl, hbp, hbd⟩ := hok.told
      obtain ⟨u, rfl, hub⟩ := hw
      have dg := DGet.k (k := (.inr "one" : Key)) hd
      rw [kv_one] at dg
      have lb : b.depth ≤ n := by have : b.depth + 1 ≤ n + 1 := hl; omega
      cases ht with
      | @told _ e hs' he =>
        refine ⟨_, rfl, _, rfl, _, rfl, a, _, _, _, rfl, rfl, hs', at1, d, u, rfl, dg, _, rfl, a, _, _, _, rfl, rfl, hs', at2, u, b, e, rfl, hub, hbp, hbd, he, fun r H1 s1 hr1 => ?_⟩
        refine ⟨_, rfl, sv, r, d, kn, bd, b, some b, _, rfl, hsc.same s1, hr1, s1 _ _ hd, ⟨u, rfl, hub.same s1⟩, ⟨(fun e => by cases e), (fun b' e => by cases e; exact ⟨hbp, hbd⟩)⟩, ?_, fun r2 H2 s2 hr2 => ?_⟩
        · rw [Tm.pd_plain hbp]; exact lb
        · rw [Tm.wh_plain hbp] at hr2
          exact q _ _ (s1.trans s2) hr2
    · refine ifF (word_told hto) ?_
      refine ⟨_, rfl, a, _, _, _, rfl, rfl, hs, at0, rfl, _, rfl, ifF (decide_eq_false (by cases t <;> (dsimp only [Tm.word]; decide +kernel))) ?_⟩
      refine ⟨sz0, fun g hg => ?_⟩
      have s1 := same_new hg (.lst [])
      refine ⟨_, rfl, _, t, rfl, ht.same s1, fun u H2 s2 ⟨b, ys, e1, e2, e3, e4⟩ => ?_⟩
      subst e1
      have hlen := e4.length
      have hil := inner_len t
      refine ⟨b, ys, rfl, .of e3, ?_⟩
      have hgb : b ≠ g := fun z => by rw [z, upd_same] at e2; cases e2
      refine for_it (walk_enum (xs := ys)) (fun i σ H3 => Same H H3 ∧ H3 b = some (.lst ys) ∧ Paired (TmAt K H3) ys t.inner ∧ (∃ zs, H3 g = some (.lst zs) ∧ Paired (TmAt K H3) zs ((t.inner.take i).map (Tm.wh wb))) ∧ ∃ u1 u2, σ = [some sv, some (.ref a), some (.ref d), some (.ref g), u1, u2]) ?_ ?_ ?_ ?_
      · exact ⟨s1.trans s2, e3, e4, ⟨[], s2 _ _ upd_same, .nil⟩, _, _, rfl⟩
      · exact fun i σ H3 _ h => .of h.2.1
      · rintro i x σ H3 H4 hi ⟨sh3, hb3, hp3, ⟨zs, hg3, hzs⟩, u1, u2, rfl⟩ ⟨Tp, x1, x2, rfl, hT, rfl, f1, f2⟩
        cases (show some (V.int (i : Nat)) = some x1 from f1)
        obtain ⟨j, hj, hxj⟩ := paired_at hp3 (show ys[i]? = some x2 from f2)
        have hjm := List.mem_of_getElem? hj
        have lj : j.pd wb ≤ n := by have := Tm.pd_inner (wb := wb) hjm; omega
        have s4 := same_new hT (.tup [.int (i : Nat), x2])
        have sA := sh3.trans s4
        refine ⟨Tp, _, rfl, .of upd_same, rfl, _, _, rfl, _, _, rfl, rfl, ?_⟩
        refine ⟨_, rfl, .inl ⟨rfl, _, .of (s4 _ _ hg3)⟩, _, rfl, _, rfl, _, rfl, _, rfl, sv, .ref a, _, _, kn, bd, t, rfl, hsc.same sA, ht.same sA, fun r H5 s5 ⟨bd', hr5⟩ => ?_⟩
        have sB := sA.trans s5
        refine ⟨_, rfl, _, rfl, r, x2, d, kn, bd', j, wb, kvs, rfl, hr5, hxj.same (s4.trans s5), sB _ _ hd, hw.same sB, hok.inner hjm, lj, fun r2 H6 s6 hr6 => ?_⟩
        have sC := s4.trans (s5.trans s6)
        have hg6 := sC _ _ hg3
        have hzl : zs.length ≤ 2 := by
          have := hzs.length
          rw [List.length_map, List.length_take] at this
          omega
        refine ⟨g, zs, r2, rfl, rfl, hg6, Nat.lt_of_le_of_lt (by omega : zs.length ≤ 1000) (by decide), ?_⟩
        have tm : Tps H3 (upd H6 g (.lst (zs ++ [r2]))) := (tps sC).trans (tps_mut hg6 rfl)
        refine ⟨same_mut (sB.trans s6) hg, by rw [upd_ne hgb]; exact sC _ _ hb3, Paired.mapP hp3 fun _ _ h => h.mono tm, ⟨_, upd_same, ?_⟩, _, _, rfl⟩
        rw [take_snoc hj, List.map_append]
        exact psnoc (Paired.mapP hzs fun _ _ h => h.mono tm) (hr6.mono (tps_mut hg6 rfl))
      · rintro σ H3 ⟨sh3, hb3, hp3, ⟨zs, hg3, hzs⟩, u1, u2, rfl⟩
        have e6 : t.inner.take ys.length = t.inner := List.take_of_length_le (by omega)
        rw [e6] at hzs
        refine ⟨_, rfl, _, rfl, .ref a, t, g, zs, _, rfl, ht.same sh3, hg3, hzs, by rw [List.length_map], fun r H5 s5 hr5 => ?_⟩
        rw [withI_wh hto] at hr5
        exact q _ _ (sh3.trans s5) hr5
theorem Df.okX {x : Str} {st : Stmt} {N ps : List Str} {f : Addr} {fd : FuncData} {sp : Sp} {k : Nat} (D : Df K mg x st ps f fd) (S : FnScope N ps (defScope st)) (len : ∀ vs H Q E, sp vs H Q E → vs.length = ps.length)
    (hbody : ∀ (cdv : Value) (A : Around) (outer : List Env) (s : Shared) (H : Hp) (vs : List V) (Q : VK) (E : XK), Room k (A.deeper (envOfC x (defScope st) s.heap.objs.size f cdv)) → sp vs H Q E →
      ∃ t, PSs (cxOf (CX P w) P w K mg base N x (defScope st) f cdv A outer s H E) (defBody st) t ∧ t { nx := fun _ H' => Q .non H', rt := Q } (start N vs) H) : Has P w K mg base (CX P w) (k + 1) x sp :=
  ⟨f, fd, ps, D.fn.ok S len hbody, D.gl, D.fn.kp, D.bd⟩
/-! ### whole_of: it may be too great -/
def fits (wb : Option Tm) (t : Tm) : Bool := decide ((t.wh wb).parts ≤ 200) && decide ((t.wh wb).depth ≤ 30)
def spWholeOf (K : PySem.W.Frag) (DM : Addr) : Sp := fun vs H Q E => ∃ lk v td d t wb kvs kns kn, vs = [lk, v, .ref td, .ref d] ∧ TmAt K H v t ∧ H td = some (.dK kns) ∧ KnAt K H kns kn ∧ H d = some (.dK kvs) ∧ WhAt K H kvs wb ∧ WOk wb t ∧ t.depth ≤ 30 ∧
  (fits wb t = true → Ret H Q fun r H' => TmAt K H' r (t.wh wb)) ∧ (fits wb t = false → ∀ H', Same H H' → E (.ref DM) none H')
theorem has_whole_of (T : Txt w K mg) (O : Own w K mg CS CF CT) {DM DK DN : Addr} (R : Err w K mg DM DK DN) : Has P w K mg base (CX P w) 91 "whole_of" (spWholeOf K DM) := by
  obtain ⟨f, fd, D⟩ := T.f_whole_of
  have h_whole_parts := has_whole_parts (P := P) (base := base) T 30
  have h_whole_depth := has_whole_depth (P := P) (base := base) T 30
  have h_put_together := has_put_together (P := P) (base := base) T O 40
  have h_Scope_init := has_Scope (P := P) (base := base) O
  obtain ⟨t_parts, m_MOST_PARTS⟩ := T.i_parts
  obtain ⟨t_deep, m_MOST_DEEP⟩ := T.i_deep
  refine D.okX sc_whole_of (fun vs H Q E h => ?_) (fun cdv A outer s H vs Q E hr h => ?_)
  · obtain ⟨_, _, _, _, _, _, _, _, _, rfl, _⟩ := h
    rfl
  obtain ⟨lk, v, td, d, t, wb, kvs, kns, kn, rfl, ht, htd, hkn, hd, hw, hok, hl, q, e⟩ := h
  refine ⟨_, (pss_cons (ps_if (PW.pt (pw_or (pt_cmpR op_gt (pe_c h_whole_parts hr (by omega) (pa_cons (pv 1) (pa_cons (pv 3) pa_nil))) (pe_glob (v := .int 200) rfl m_MOST_PARTS ⟨_, rfl⟩) (nomark _)) (pw_or1 (pt_cmpR op_gt (pe_c h_whole_depth hr (by omega) (pa_cons (pv 1) (pa_cons (pv 3) pa_nil))) (pe_glob (v := .int 30) rfl m_MOST_DEEP ⟨_, rfl⟩) (nomark _))))) (pss_one (ps_raise rfl (takes_of rfl rfl rfl rfl) (pmk_own PySem.F.excBase_ValueError R.ve R.gM R.kp (raises_own R.sb R.ty) rfl))) pss_nil) (pss_one (ps_ret (pe_c h_put_together hr (by omega) (pa_cons (pe_new h_Scope_init hr (by omega) (pa_cons (pv 0) (pa_cons (pv 2) (pa_cons pe_dnewK pa_nil)))) (pa_cons (pv 1) (pa_cons (pv 3) pa_nil))))))), ?_⟩
  refine ⟨_, rfl, _, rfl, v, d, t, wb, kvs, rfl, ht, hd, hw, hok, hl, fun r1 H1 s1 hr1 => ?_⟩
  subst hr1
  refine ⟨_, _, rfl, rfl, _, rfl, ?_⟩
  by_cases hp : (t.wh wb).parts ≤ 200
  · refine ifF (decide_eq_false (by omega)) ?_
    refine ⟨_, rfl, _, rfl, v, d, t, wb, kvs, rfl, ht.same s1, s1 _ _ hd, hw.same s1, hok, hl, fun r2 H2 s2 hr2 => ?_⟩
    subst hr2
    refine ⟨_, _, rfl, rfl, _, rfl, ?_⟩
    have s12 := s1.trans s2
    by_cases hdp : (t.wh wb).depth ≤ 30
    · refine ifF (decide_eq_false (by omega)) ?_
      have hf : fits wb t = true := by unfold fits; rw [decide_eq_true hp, decide_eq_true hdp]; rfl
      refine ⟨_, rfl, _, rfl, fun b hb x dx nx nd ne => ⟨x, dx, _, _, _, rfl, upd_same, rfl, ?_⟩⟩
      have sb := updN (o := .dK []) s12 hb
      have sn := new_same nx nd (o := .own x) (i := .ins CS dx []) (j := .ins CS dx [("looks", lk), ("knowns", .ref td), ("binds", .ref b)])
      have sA := sb.trans sn
      have := t.pd_le wb
      exact ⟨_, rfl, _, rfl, _, v, d, kn, false, t, wb, kvs, rfl, ScAt.mk' upd_same (sA _ _ htd) (hkn.same sA) (sn _ _ upd_same) rfl, ht.same sA, sA _ _ hd, hw.same sA, hok, by omega, fun r H' s' hr => q hf _ _ (sA.trans s') hr⟩
    · refine ifT (decide_eq_true (by omega)) ?_
      exact e (by unfold fits; rw [decide_eq_true hp, decide_eq_false hdp]; rfl) _ s12
  · refine ifT (decide_eq_true (by omega)) ?_
    exact e (by unfold fits; rw [decide_eq_false hp]; rfl) _ s1
end
end K70
/-! Calls that may raise. -/
namespace K70
open PySem PySem.Spec PyProof.Rows L2
def tMethX (C : Addr) (m : Str) (sp : Sp) (E : L2.St → XK) (ta : TE) (t : TA) : TE := fun σ H Q => ta σ H fun x H1 => ∃ a dx fs, x = .ref a ∧ H1 a = some (.ins C dx fs) ∧ fs.lookup m = none ∧
  t σ H1 fun vs H2 => sp (x :: vs) H2 Q (E σ)
section
variable {X : Cx} {W : WX} {k j : Nat} {x m : Str} {sp : Sp} {C : Addr} {e o : Expr} {es : List Expr} {t : TA} {ta : TE} {p pos apos : Pos}
theorem pe_cX (tk : Takes X W) (h : Has X.prog X.w X.K X.mg X.base (CX X.prog X.w) k x sp) (hr : Room j X.A) (hk : k ≤ j) (ha : PA X (e :: es) t) (hg : Gl X x := by rfl) (hdb : (x == ("__debug__" : Str)) = false := by decide)
    (he : starEach (e :: es) X.env = (false, eval e X.env) :: starEach es X.env := by rfl) (hpl : (backTo pos (starEach es X.env)).any (·.1) = false := by rfl) : PE X (.Call (.Name x p) (e :: es) [] pos) (tCallS sp (WE W) t) := by
  obtain ⟨f, fd, ps, F, g, kp, b⟩ := h
  exact pe_callS F (hr.mono hk) hg g kp b (fun σ => passAt tk σ) ha hdb he hpl
theorem pe_mX {pl : Sem Bool} (tk : Takes X W) (h : HasM X.prog X.w X.K X.mg X.base (CX X.prog X.w) k C m sp) (c : Cls X.K C) (hr : Room j X.A) (hk : k ≤ j) (ho : PE X o ta) (ha : PA X (e :: es) t)
    (hst : starEach (e :: es) X.env = (false, eval e X.env) :: starEach es X.env := by rfl) (hpl : (backTo pos (starEach es X.env)).any (·.1) = false := by rfl)
    (ht : eval (.Call (.Attribute o m apos) (e :: es) [] pos) X.env = (do
      let ov ← eval o X.env
      standAt apos.atName
      let (f, first) ← holding [ov] (getMethod ov m pl)
      callWith pos f first (backTo pos (starEach (e :: es) X.env)) (backToKw pos (keywordEach [] X.env))) := by rfl) :
    PE X (.Call (.Attribute o m apos) (e :: es) [] pos) (tMethX C m sp (WE W) ta t) := by
  obtain ⟨f, fd, ps, F, hm, b⟩ := h
  refine ⟨fun pins s σ H Q I h => ?_⟩
  refine PySem.W.methodCall_KW (pl := pl) (thn (ho.run pins s σ H _ I h) fun u s1 ⟨x, H1, I1, rx, a, dx, fs, ex, ea, l, q⟩ => ?_) ht
  subst ex
  obtain rfl : u = Value.ref a := rx
  refine getmeth_ok I1 ea c hm l ?_
  refine PySem.W.callWith_K (first := [.ref a]) (h₀ := X.base) I.ok.mod.kin hm.kp (thn (ha.run pos pins s1 σ H1 _ I1 q) fun us s2 ⟨vs, H2, I2, r, q2⟩ => ⟨I2.kIn, ?_⟩) hst hpl
  exact run_fnS (us := .ref a :: us) (vs := .ref a :: vs) F (hr.mono hk) b (passAt tk σ) I2 (.cons rfl r) q2
end
/-- all but o stand as they stood -/
def SameX (o : Addr) (H H' : Hp) : Prop := ∀ b u, b ≠ o → H b = some u → H' b = some u
theorem SameX.of {o : Addr} {H H' : Hp} (s : Same H H') : SameX o H H' := fun b u _ e => s b u e
theorem SameX.trans {o : Addr} {H H1 H2 : Hp} (a : SameX o H H1) (b : SameX o H1 H2) : SameX o H H2 := fun c u n e => b c u n (a c u n e)
theorem SameX.new {o : Addr} {H H1 H2 : Hp} (a : Same H H1) (n : H o = none) (b : SameX o H1 H2) : Same H H2 := fun c u e => b c u (ne_of_none e n) (a c u e)
theorem SameX.upd {o : Addr} {H : Hp} {u : HO} : SameX o H (upd H o u) := fun b v n e => by rw [upd_ne n]; exact e
theorem SameX.tps {o : Addr} {H H' : Hp} {u : HO} (s : SameX o H H') (h : H o = some u) (hu : isT u = false) : Tps H H' := fun b v e t => s b v (fun z => by
  subst z
  rw [h] at e
  cases e
  rw [hu] at t
  cases t) e
end K70
namespace K70
open PySem PySem.Spec PyProof.Rows L2
def othV (t : Tm) : List V := if t.uses = 0 then [] else [.str "one"]
theorem othV0 {t : Tm} (h : t.uses = 0) : othV t = [] := if_pos h
theorem othV1 {t : Tm} (h : t.uses ≠ 0) : othV t = [.str "one"] := if_neg h
def LdAt (K : PySem.W.Frag) (H : Hp) (v : V) : Option Kd → Prop
  | none => v = .non
  | some k => KdAt K H v k
def BoAt (K : PySem.W.Frag) (H : Hp) (v : V) : Option Tm → Prop
  | none => v = .non
  | some b => TmAt K H v b
/-- a Function: its term, told kind, whole, times -/
def FnO (K : PySem.W.Frag) (CF : Addr) (H : Hp) (o : Addr) (t : Tm) (ld : Option Kd) (bo : Option Tm) (n : Int) : Prop :=
  ∃ dx lk v ot vl vb, H o = some (.ins CF dx [("looks", .ref lk), ("term", v), ("others", .ref ot), ("leads", vl), ("body", vb), ("times", .int n)]) ∧
    SqT K H lk [] ∧ TmAt K H v t ∧ SqT K H ot (othV t) ∧ LdAt K H vl ld ∧ BoAt K H vb bo
section
variable {K : PySem.W.Frag} {CF : Addr} {H H' : Hp}
theorem LdAt.mono (e : Tps H H') {v : V} : ∀ {ld : Option Kd}, LdAt K H v ld → LdAt K H' v ld
  | none, h => h
  | some _, h => KdAt.mono e h
theorem BoAt.mono (e : Tps H H') {v : V} : ∀ {b : Option Tm}, BoAt K H v b → BoAt K H' v b
  | none, h => h
  | some _, h => TmAt.mono e h
theorem FnO.move {o : Addr} {t : Tm} {ld : Option Kd} {bo : Option Tm} {n : Int} (e : Tps H H') (h : ∀ u, H o = some u → H' o = some u) : FnO K CF H o t ld bo n → FnO K CF H' o t ld bo n :=
  fun ⟨dx, lk, v, ot, vl, vb, h1, h2, h3, h4, h5, h6⟩ => ⟨dx, lk, v, ot, vl, vb, h _ h1, e.seq h2, h3.mono e, e.seq h4, h5.mono e, h6.mono e⟩
theorem FnO.same {o : Addr} {t : Tm} {ld : Option Kd} {bo : Option Tm} {n : Int} (e : Same H H') : FnO K CF H o t ld bo n → FnO K CF H' o t ld bo n := FnO.move (tps e) fun _ h => e _ _ h
theorem FnO.ins {o : Addr} {t : Tm} {ld : Option Kd} {bo : Option Tm} {n : Int} (h : FnO K CF H o t ld bo n) : ∃ u, H o = some u ∧ isT u = false := by
  obtain ⟨dx, lk, v, ot, vl, vb, h1, _⟩ := h
  exact ⟨_, h1, rfl⟩
end
/-- who is told of, and its kind -/
def TbAt (K : PySem.W.Frag) (CF : Addr) (H : Hp) (t : Tm) (kvs : List (Key × V)) : Option Kd → Prop
  | none => t.uses = 0
  | some k => t.uses ≠ 0 ∧ ∃ o t1 b n, valV kvs (.inr "one") = some (.ref o) ∧ FnO K CF H o t1 (some k) b n
def WbAt (K : PySem.W.Frag) (CF : Addr) (H : Hp) (t : Tm) (kvs : List (Key × V)) : Option Tm → Prop
  | none => t.uses = 0
  | some b => t.uses ≠ 0 ∧ ∃ o t1 l n, valV kvs (.inr "one") = some (.ref o) ∧ FnO K CF H o t1 l (some b) n
theorem TbAt.same {K : PySem.W.Frag} {CF : Addr} {H H' : Hp} (e : Same H H') {t : Tm} {kvs : List (Key × V)} : ∀ {kn : Option Kd}, TbAt K CF H t kvs kn → TbAt K CF H' t kvs kn
  | none, h => h
  | some _, ⟨h, o, t1, b, n, h1, h2⟩ => ⟨h, o, t1, b, n, h1, h2.same e⟩
theorem WbAt.same {K : PySem.W.Frag} {CF : Addr} {H H' : Hp} (e : Same H H') {t : Tm} {kvs : List (Key × V)} : ∀ {kn : Option Tm}, WbAt K CF H t kvs kn → WbAt K CF H' t kvs kn
  | none, h => h
  | some _, ⟨h, o, t1, b, n, h1, h2⟩ => ⟨h, o, t1, b, n, h1, h2.same e⟩
theorem nodup_one {ys : List Str} {n : Nat} (nd : ys.Nodup) (h : ∀ k, k ∈ ys ↔ k ∈ List.replicate n ("one" : Str)) : ys = if n = 0 then ([] : List Str) else [("one" : Str)] := by
  by_cases hn : n = 0
  · subst hn
    rw [if_pos rfl]
    cases ys with
    | nil => rfl
    | cons y r => exact absurd ((h y).mp (.head _)) List.not_mem_nil
  · rw [if_neg hn]
    have h1 : ("one" : Str) ∈ ys := (h _).mpr (List.mem_replicate.mpr ⟨hn, rfl⟩)
    have h2 : ∀ y ∈ ys, y = ("one" : Str) := fun y hy => (List.mem_replicate.mp ((h y).mp hy)).2
    match ys, nd, h1, h2 with
    | [], _, h1, _ => cases h1
    | [y], _, _, h2 => rw [h2 y (.head _)]
    | y :: z :: r, nd, _, h2 =>
      have a := h2 y (.head _)
      have b := h2 z (.tail _ (.head _))
      subst a
      subst b
      exact absurd (List.Mem.head _) (List.nodup_cons.mp nd).1
section
variable {P : Program} {w : World} {K : PySem.W.Frag} {mg : Str → Option Value} {base : Heap} {CS CF CT : Addr}
/-! ### Function -/
def spFnInit (K : PySem.W.Frag) (CF : Addr) : Sp := fun vs H Q _ => ∃ a dx lk v t n, vs = [.ref a, .ref lk, v, .int n] ∧ H a = some (.ins CF dx []) ∧ SqT K H lk [] ∧ TmAt K H v t ∧ t.depth ≤ 30 ∧ t.uses ≤ 60 ∧ ∀ H', SameX a H H' → FnO K CF H' a t none none n → Q .non H'
theorem has_Function (T : Txt w K mg) (O : Own w K mg CS CF CT) : HasC P w K mg base 34 "Function" CF (spFnInit K CF) := by
  obtain ⟨f, fd, D⟩ := O.c_Function
  have h_uses_of := has_uses_of (P := P) (base := base) T 30
  refine D.ok0 sc_Function_init (fun vs H Q E h => ?_) (fun cdv A outer s H vs Q E hr h => ?_)
  · obtain ⟨_, _, _, _, _, _, rfl, _⟩ := h
    rfl
  obtain ⟨a, dx, lk, v, t, n, rfl, ha, hlk, ht, hl, hu, q⟩ := h
  refine ⟨_, (pss_cons (ps_fld (pv 0) (pv 1) rfl) (pss_cons (ps_fld (pv 0) (pv 2) rfl) (pss_cons (ps_fld (pv 0) (pe_tupleOf rfl T.b_tuple (pe_callB (cr_sortTx rfl) (by rfl) T.b_sorted bt_sorted (pa_cons (pe_callTy (cr_setTx rfl) (by rfl) T.b_set bt_set (pa_cons (pe_c h_uses_of hr (by omega) (pa_cons (pv 2) pa_nil)) pa_nil)) pa_nil))) rfl) (pss_cons (ps_fld (pv 0) pe_non rfl) (pss_cons (ps_fld (pv 0) pe_non rfl) (pss_one (ps_fld (pv 0) (pv 3) rfl))))))), ?_⟩
  refine ⟨_, rfl, _, rfl, a, CF, dx, [], rfl, ha, D.cl, O.n_CF_looks, by decide, ?_⟩
  refine ⟨_, rfl, _, rfl, a, CF, dx, _, rfl, upd_same, D.cl, O.n_CF_term, (show 1 < 1000 by decide), ?_⟩
  have x1 : SameX a H (upd (upd H a (.ins CF dx [("looks", .ref lk)])) a (.ins CF dx [("looks", .ref lk), ("term", v)])) := SameX.upd.trans SameX.upd
  have t1 := x1.tps ha rfl
  refine ⟨_, rfl, v, t, rfl, ht.mono t1, hl, hu, fun u H1 s1 ⟨b, eb, nb, hb⟩ => ?_⟩
  subst eb
  refine ⟨b, List.replicate t.uses ("one" : Str), rfl, .of ?_, ?_, fun p hp => ?_⟩
  · rw [hb, ones, List.map_replicate]
  · rw [List.length_replicate]; omega
  have s2 := same_new hp (TxO w p (List.replicate t.uses ("one" : Str)))
  refine ⟨p, _, rfl, upd_same, by rw [List.length_replicate]; omega, fun ys p3 nd hy hn3 => ?_⟩
  have ey := nodup_one nd hy
  have s3 := same_new hn3 (.lst (ys.map V.str))
  refine .inl ⟨p3, _, rfl, .of upd_same, fun p4 hn4 => ?_⟩
  have s4 := same_new hn4 (.tup (ys.map V.str))
  have sA := s1.trans (s2.trans (s3.trans s4))
  have eo : ys.map V.str = othV t := by
    rw [ey]
    unfold othV
    split <;> rfl
  have ha4 := sA _ _ upd_same
  refine ⟨_, rfl, a, CF, dx, _, rfl, ha4, D.cl, O.n_CF_others, (show 2 < 1000 by decide), ?_⟩
  refine ⟨_, rfl, a, CF, dx, _, rfl, upd_same, D.cl, O.n_CF_leads, (show 3 < 1000 by decide), ?_⟩
  refine ⟨_, rfl, a, CF, dx, _, rfl, upd_same, D.cl, O.n_CF_body, (show 4 < 1000 by decide), ?_⟩
  refine ⟨_, rfl, _, rfl, a, CF, dx, _, rfl, upd_same, D.cl, O.n_CF_times, (show 5 < 1000 by decide), ?_⟩
  have x5 : ∀ {u1 u2 u3 u4 : HO}, SameX a (upd (upd (upd H1 p (TxO w p (List.replicate t.uses ("one" : Str)))) p3 (.lst (ys.map V.str))) p4 (.tup (ys.map V.str))) (upd (upd (upd (upd (upd (upd (upd H1 p (TxO w p (List.replicate t.uses ("one" : Str)))) p3 (.lst (ys.map V.str))) p4 (.tup (ys.map V.str))) a u1) a u2) a u3) a u4) := fun {_ _ _ _} => SameX.upd.trans (SameX.upd.trans (SameX.upd.trans SameX.upd))
  have t5 : ∀ {u1 u2 u3 u4 : HO}, Tps _ (upd (upd (upd (upd (upd (upd (upd H1 p (TxO w p (List.replicate t.uses ("one" : Str)))) p3 (.lst (ys.map V.str))) p4 (.tup (ys.map V.str))) a u1) a u2) a u3) a u4) := fun {_ _ _ _} => x5.tps ha4 rfl
  refine q _ ((x1.trans (.of sA)).trans x5) ⟨dx, lk, v, p4, .non, .non, upd_same, ?_, ?_, ?_, rfl, rfl⟩
  · exact (t1.trans ((tps sA).trans t5)).seq hlk
  · exact ht.mono (t1.trans ((tps sA).trans t5))
  · exact eo ▸ t5.seq (.of upd_same)
/-! ### told_by -/
def spToldBy (K : PySem.W.Frag) (CF : Addr) : Sp := fun vs H Q _ => ∃ fs nt kvs t kn, vs = [.ref fs, .ref nt] ∧ H fs = some (.dK kvs) ∧ SqT K H nt (othV t) ∧ TbAt K CF H t kvs kn ∧ Ret H Q fun r H' => ∃ g kns, r = .ref g ∧ H' g = some (.dK kns) ∧ KnAt K H' kns kn
theorem one_pair {K : PySem.W.Frag} {H : Hp} {ys : List V} {p2 p3 : Addr} : Paired (fun p (kv : Key × V) => SqT K H p [kV kv.1, kv.2]) [p2] [((.inr "one" : Key), V.ref p3)] ↔ SqT K H p2 [.str "one", .ref p3] :=
  ⟨fun h => by cases h; assumption, fun h => .cons h .nil⟩
theorem has_told_by (T : Txt w K mg) (O : Own w K mg CS CF CT) : Has P w K mg base CX0 1 "told_by" (spToldBy K CF) := by
  obtain ⟨f, fd, D⟩ := T.f_told_by
  have c_Function : Cls K CF := O.c_Function.elim fun _ h => h.elim fun _ h => h.cl
  refine D.ok0 sc_told_by (fun vs H Q E h => ?_) (fun cdv A outer s H vs Q E hr h => ?_)
  · obtain ⟨_, _, _, _, _, rfl, _⟩ := h
    rfl
  obtain ⟨fs, nt, kvs, t, kn, rfl, hfs, hnt, htb, q⟩ := h
  have hu := hu_of hr
  refine ⟨_, (pss_one (ps_ret (pe_callTy (call_dictP rfl) (by rfl) T.b_dict bt_dict (pa_cons (pe_lc (own := [("name", 2)]) rfl sc_told_by.nd (pi_tup (pv 1)) (blkOk_by (own := [("name", 2)]) (N := ["functions", "names", "name"]) (sc := defScope s_told_by) (by decide +kernel)) (fun _ _ _ _ _ => (pg_name (i := 2) sc_told_by.nd rfl (Or.inl rfl) (hf := .inr rfl))) (fun _ _ _ _ _ => pts_one (pt_cmp (pc_din hu (pv 2) (pv 0)))) (fun _ _ _ _ _ => (pe_tup (pa_cons (pv 2) (pa_cons (pe_tup (pa_cons (pe_fldK (K := K) rfl (pe_dget hu (pv 0) (pv 2) (fun _ _ => rfl)) rfl) (pa_cons (pe_fldK (K := K) rfl (pe_dget hu (pv 0) (pv 2) (fun _ _ => rfl)) rfl) pa_nil))) pa_nil))))) pa_nil)))), ?_⟩
  cases kn with
  | none =>
    rw [othV0 htb] at hnt
    refine ⟨_, rfl, nt, rfl, ⟨_, hnt⟩, fun D hD => ?_⟩
    refine lc_none (walk_tup (xs := [])) hD ((tps (same_new hD _)).seq hnt) fun H1 s1 hD1 => ?_
    exact ⟨D, [], [], rfl, .of hD1, .nil, fun g hg => q _ _ (updN s1 hg) ⟨g, _, rfl, upd_same, rfl⟩⟩
  | some k =>
    obtain ⟨h0, o, t1, b, n, hv, hfo⟩ := htb
    rw [othV1 h0] at hnt
    refine ⟨_, rfl, nt, rfl, ⟨_, hnt⟩, fun D hD => ?_⟩
    obtain ⟨dx, lk, v, ot, vl, vb, f1, f2, f3, f4, f5, f6⟩ := hfo
    refine lc_flt (walk_tup (xs := [V.str "one"])) (fun _ => true) (fun i y H' => ∃ p2 p3, y = .ref p2 ∧ SqT K H' p2 [.str "one", .ref p3] ∧ SqT K H' p3 [.ref lk, vl]) hD (show 1 ≤ 1000 by decide) (fun _ _ _ _ e ⟨p2, p3, a, b, c⟩ => ⟨p2, p3, a, e.seq b, e.seq c⟩) (fun H' sh => (tps sh).seq hnt) ?_ ?_
    · rintro i x H2 H3 Qk Qn hi sh ⟨rfl, hx⟩ qk qn
      have hi0 : i = 0 := Nat.lt_one_iff.mp hi
      subst hi0
      cases hx
      have dg := DGet.k (k := (.inr "one" : Key)) (sh _ _ hfs)
      rw [hv] at dg
      refine ⟨rfl, _, rfl, _, rfl, fs, _, rfl, dg, _, rfl, iteT ?_⟩
      refine ⟨_, rfl, _, rfl, _, rfl, fs, _, rfl, dg, o, CF, dx, _, _, rfl, sh _ _ f1, c_Function, O.n_CF_looks, rfl, ?_⟩
      refine ⟨_, rfl, _, rfl, fs, _, rfl, dg, o, CF, dx, _, _, rfl, sh _ _ f1, c_Function, O.n_CF_leads, rfl, sz2, fun p3 n3 => ⟨sz2, fun p2 n2 => ?_⟩⟩
      exact qk rfl _ _ (updN (same_new n3 _) n2) ⟨p2, p3, rfl, .of upd_same, .of ((same_new n2 _) _ _ upd_same)⟩
    · intro H2 ys sh e p
      obtain ⟨y, rfl, p2, p3, rfl, c1, c2⟩ := Paired.one (show Paired _ ys [0] from p)
      refine ⟨D, [p2], [(.inr "one", .ref p3)], rfl, .of e, .cons c1 .nil, fun g hg => ?_⟩
      have sA := updN (o := .dK (mergeK [] [((.inr "one" : Key), V.ref p3)])) sh hg
      have sg := same_new hg (.dK (mergeK [] [((.inr "one" : Key), V.ref p3)]))
      exact q _ _ sA ⟨g, _, rfl, upd_same, p3, lk, vl, rfl, (tps sg).seq c2, (tps sA).seq f2, KdAt.same sA f5⟩
/-! ### give_kind -/
def spGiveKind (K : PySem.W.Frag) (CF : Addr) : Sp := fun vs H Q _ => ∃ fs o kvs t ld bo n kn k, vs = [.ref fs, .ref o] ∧ H fs = some (.dK kvs) ∧ FnO K CF H o t ld bo n ∧ TbAt K CF H t kvs kn ∧ t.depth ≤ 30 ∧ kin kn false t = some k ∧ k.word = "fun" ∧ KnOk kn ∧
  ∀ H', SameX o H H' → FnO K CF H' o t (some k) bo n → Q .non H'
theorem has_give_kind (T : Txt w K mg) (O : Own w K mg CS CF CT) : Has P w K mg base CX0 162 "give_kind" (spGiveKind K CF) := by
  obtain ⟨f, fd, D⟩ := T.f_give_kind
  have c_Function : Cls K CF := O.c_Function.elim fun _ h => h.elim fun _ h => h.cl
  have h_told_by := has_told_by (P := P) (base := base) T O
  have h_kind_of := has_kind_of (P := P) (base := base) T O
  have h_opens_in := has_opens_in (P := P) (base := base) T 60
  refine D.ok0 sc_give_kind (fun vs H Q E h => ?_) (fun cdv A outer s H vs Q E hr h => ?_)
  · obtain ⟨_, _, _, _, _, _, _, _, _, rfl, _⟩ := h
    rfl
  obtain ⟨fs, o, kvs, t, ld, bo, n, kn, k, rfl, hfs, hfo, htb, hl, hki, hkw, hko, q⟩ := h
  have hu := hu_of hr
  obtain ⟨dx, lk, v, ot, vl, vb, f1, f2, f3, f4, f5, f6⟩ := id hfo
  refine ⟨_, (pss_cons (ps_set (i := 2) sc_give_kind.nd rfl (Or.inr rfl) (pe_c h_told_by hr (by omega) (pa_cons (pv 0) (pa_cons (pe_fld (pv 1) rfl) pa_nil)))) (pss_cons (ps_set (i := 3) sc_give_kind.nd rfl (Or.inl rfl) (pe_tupleOf rfl T.b_tuple (pe_lc (own := [("name", 4)]) rfl sc_give_kind.nd (pi_tup (pe_fld (pv 1) rfl)) (blkOk_by (own := [("name", 4)]) (N := ["functions", "one", "told", "known", "name", "found"]) (sc := defScope s_give_kind) (by decide +kernel)) (fun _ _ _ _ _ => (pg_name (i := 4) sc_give_kind.nd rfl (Or.inl rfl) (hf := .inr rfl))) (fun _ _ _ _ _ => pts_one (pt_cmp (pc_din hu (pv 4) (pv 2)))) (fun _ _ _ _ _ => (pe_tup (pa_cons (pv 4) (pa_cons (pe_ix (r := rIxT K) ix_tup (pe_dget hu (pv 2) (pv 4) (fun _ _ => rfl)) pe_int (fun _ _ => rfl)) (pa_cons (pe_ix (r := rIxT K) ix_tup (pe_dget hu (pv 2) (pv 4) (fun _ _ => rfl)) pe_int (fun _ _ => rfl)) pa_nil)))))))) (pss_cons (ps_set (i := 5) sc_give_kind.nd rfl (Or.inr rfl) (pe_c h_kind_of hr (by omega) (pa_cons (pe_fld (pv 1) rfl) (pa_cons (pe_fld (pv 1) rfl) (pa_cons (pv 3) pa_nil))))) (pss_cons (ps_if (PW.pt (pw_or (pt_cmpR op_ne (pe_ix ix_tup (pv 5) pe_int (fun _ _ => rfl)) pe_str (nomark _)) (pw_or1 (pt_not (pt_val (pe_callB (cr_all rfl) (by rfl) T.b_all bt_all (pa_cons (pe_lc (own := [("name", 4)]) (tt := tYes) rfl sc_give_kind.nd (pi_tup (pe_fld (pv 1) rfl)) (blkOk_by (own := [("name", 4)]) (N := ["functions", "one", "told", "known", "name", "found"]) (sc := defScope s_give_kind) (by decide +kernel)) (fun _ _ _ _ _ => (pg_name (i := 4) sc_give_kind.nd rfl (Or.inl rfl) (hf := .inr rfl))) (fun _ _ _ _ _ => pts_nil) (fun _ _ _ _ _ => (pe_cmpR (r := rIn K false) op_in_seq (pv 4) (pe_c h_opens_in hr (by omega) (pa_cons (pv 5) pa_nil)) rfl))) pa_nil))))))) (pss_one ps_never) pss_nil) (pss_one (ps_fld (pv 1) (pv 5) rfl)))))), ?_⟩
  refine ⟨_, rfl, _, rfl, o, CF, dx, _, _, rfl, f1, c_Function, O.n_CF_others, rfl, fs, ot, kvs, t, kn, rfl, hfs, f4, htb, fun r H1 s1 ⟨g, kns, er, hg, hkn⟩ => ?_⟩
  subst er
  refine ⟨_, rfl, o, CF, dx, _, _, rfl, s1 _ _ f1, c_Function, O.n_CF_others, rfl, ot, rfl, ⟨_, (tps s1).seq f4⟩, fun D hD => ?_⟩
  have hle : (othV t).length ≤ 1 := by unfold othV; split <;> decide
  refine lc_flt (walk_tup (xs := othV t)) (fun _ => true) (fun i y H' => ∃ p z u kk, kn = some kk ∧ y = .ref p ∧ SqT K H' p [.str "one", .ref z, u] ∧ SqT K H' z [] ∧ KdAt K H' u kk) hD (by omega) (fun _ _ _ _ e ⟨p, z, u, kk, a, b, c, d, f⟩ => ⟨p, z, u, kk, a, b, e.seq c, e.seq d, f.mono e⟩) (fun H' sh => (tps (s1.trans sh)).seq f4) ?_ ?_
  · rintro i x H2 H3 Qk Qn hi sh ⟨rfl, hx⟩ qk qn
    cases kn with
    | none => rw [othV0 htb] at hi; exact absurd hi (Nat.not_lt_zero _)
    | some kk =>
      rw [othV1 htb.1] at hx hi
      have hi0 : i = 0 := Nat.lt_one_iff.mp hi
      subst hi0
      cases hx
      obtain ⟨p, z, u, rfl, e1, e2, e3⟩ := hkn
      have dg := DGet.k (k := (.inr "one" : Key)) (sh _ _ hg)
      rw [kv_one] at dg
      refine ⟨rfl, _, rfl, _, rfl, g, _, rfl, dg, _, rfl, iteT ?_⟩
      refine ⟨_, rfl, _, rfl, _, rfl, g, _, rfl, dg, p, _, _, _, rfl, rfl, (tps sh).seq e1, at0, ?_⟩
      refine ⟨_, rfl, _, rfl, g, _, rfl, dg, p, _, _, _, rfl, rfl, (tps sh).seq e1, at1, sz3, fun p2 n2 => ?_⟩
      have sn := same_new n2 (.tup [.str "one", .ref z, u])
      exact qk rfl _ _ sn ⟨p2, z, u, kk, rfl, rfl, .of upd_same, (tps (sh.trans sn)).seq e2, e3.same (sh.trans sn)⟩
  · intro H2 ys sh e p
    have hk : ∀ (H3 : Hp) (kt : Addr), Tps H2 H3 → SqT K H3 kt ys → KtAt K H3 kt kn := by
      intro H3 kt e3 hs3
      cases kn with
      | none =>
        rw [othV0 htb] at p
        rw [Paired.nil' (show Paired _ ys [] from p)] at hs3
        exact hs3
      | some kk =>
        rw [othV1 htb.1] at p
        obtain ⟨y, rfl, p1, z, u, k1, ek, rfl, a1, a2, a3⟩ := Paired.one (show Paired _ ys [0] from p)
        cases ek
        exact ⟨p1, z, u, hs3, e3.seq a1, e3.seq a2, a3.mono e3⟩
    refine .inl ⟨D, ys, rfl, .of e, fun kt nkt => ?_⟩
    have s3 := updN (o := .tup ys) (s1.trans sh) nkt
    have hkt := hk _ kt (tps (same_new nkt _)) (.of upd_same)
    refine ⟨_, rfl, o, CF, dx, _, _, rfl, s3 _ _ f1, c_Function, O.n_CF_term, rfl, _, rfl, o, CF, dx, _, _, rfl, s3 _ _ f1, c_Function, O.n_CF_looks, rfl, _, rfl, v, _, kt, kn, t, k, rfl, f3.same s3, hkt, hl, hki, hko, fun r H4 s4 hr4 => ?_⟩
    obtain ⟨ra, rxs, rfl, hrs, _⟩ := hr4.view
    have s5 := s3.trans s4
    refine ⟨_, rfl, ra, _, _, _, rfl, rfl, hrs, at0, rfl, _, rfl, ?_⟩
    rw [hkw]
    refine iteF ?_
    refine ⟨_, rfl, o, CF, dx, _, _, rfl, s5 _ _ f1, c_Function, O.n_CF_looks, rfl, lk, rfl, ⟨_, (tps s5).seq f2⟩, fun D2 hD2 => ?_⟩
    refine lc_none (walk_tup (xs := [])) hD2 ((tps (s5.trans (same_new hD2 _))).seq f2) fun H6 s6 hD6 => ?_
    refine ⟨D2, [], rfl, .of hD6, true, rfl, iteF ?_⟩
    have s7 := s5.trans s6
    refine ⟨_, rfl, _, rfl, o, CF, dx, _, rfl, s7 _ _ f1, c_Function, O.n_CF_leads, (show 6 < 1000 by decide), ?_⟩
    have xx : SameX o H (upd H6 o (.ins CF dx [("looks", .ref lk), ("term", v), ("others", .ref ot), ("leads", .ref ra), ("body", vb), ("times", .int n)])) := (SameX.of s7).trans SameX.upd
    have tt := xx.tps f1 rfl
    have t6 : Tps H4 (upd H6 o (.ins CF dx [("looks", .ref lk), ("term", v), ("others", .ref ot), ("leads", .ref ra), ("body", vb), ("times", .int n)])) := (tps s6).trans (tps_mut (s7 _ _ f1) rfl)
    exact q _ xx ⟨dx, lk, v, ot, .ref ra, vb, upd_same, tt.seq f2, f3.mono tt, tt.seq f4, KdAt.mono t6 hr4, f6.mono tt⟩
end
end K70
namespace K70
open PySem PySem.Spec PyProof.Rows L2
section
variable {P : Program} {w : World} {K : PySem.W.Frag} {mg : Str → Option Value} {base : Heap} {CS CF CT : Addr}
/-! ### give_whole -/
def spGiveWhole (K : PySem.W.Frag) (CF DM : Addr) : Sp := fun vs H Q E => ∃ fs o kvs t ld bo n kn wb, vs = [.ref fs, .ref o] ∧ H fs = some (.dK kvs) ∧ FnO K CF H o t ld bo n ∧ TbAt K CF H t kvs kn ∧ WbAt K CF H t kvs wb ∧ WOk wb t ∧ t.depth ≤ 30 ∧
  (fits wb t = true → ∀ H', SameX o H H' → FnO K CF H' o t ld (some (t.wh wb)) n → Q .non H') ∧ (fits wb t = false → ∀ H', Same H H' → E (.ref DM) none H')
theorem has_give_whole (T : Txt w K mg) (O : Own w K mg CS CF CT) {DM DK DN : Addr} (R : Err w K mg DM DK DN) : Has P w K mg base (CX P w) 92 "give_whole" (spGiveWhole K CF DM) := by
  obtain ⟨f, fd, D⟩ := T.f_give_whole
  have c_Function : Cls K CF := O.c_Function.elim fun _ h => h.elim fun _ h => h.cl
  have h_told_by := has_told_by (P := P) (base := base) T O
  have h_whole_of := has_whole_of (P := P) (base := base) T O R
  refine D.okX sc_give_whole (fun vs H Q E h => ?_) (fun cdv A outer s H vs Q E hr h => ?_)
  · obtain ⟨_, _, _, _, _, _, _, _, _, rfl, _⟩ := h
    rfl
  obtain ⟨fs, o, kvs, t, ld, bo, n, kn, wb, rfl, hfs, hfo, htb, hwb, hok, hl, q, qe⟩ := h
  have hu := hu_of hr
  obtain ⟨dx, lk, v, ot, vl, vb, f1, f2, f3, f4, f5, f6⟩ := id hfo
  refine ⟨_, (pss_cons (ps_set (i := 2) sc_give_whole.nd rfl (Or.inl rfl) (pe_callTy (call_dictP rfl) (by rfl) T.b_dict bt_dict (pa_cons (pe_lc (own := [("name", 3)]) (tt := tYes) rfl sc_give_whole.nd (pi_tup (pe_fld (pv 1) rfl)) (blkOk_by (own := [("name", 3)]) (N := ["functions", "one", "wholes", "name"]) (sc := defScope s_give_whole) (by decide +kernel)) (fun _ _ _ _ _ => (pg_name (i := 3) sc_give_whole.nd rfl (Or.inl rfl) (hf := .inr rfl))) (fun _ _ _ _ _ => pts_nil) (fun _ _ _ _ _ => (pe_tup (pa_cons (pv 3) (pa_cons (pe_fldK (K := K) rfl (pe_dget hu (pv 0) (pv 3) (fun _ _ => rfl)) rfl) pa_nil))))) pa_nil))) (pss_one (ps_fld (pv 1) (pe_cX (takes_of rfl rfl rfl rfl) h_whole_of hr (by omega) (pa_cons (pe_fld (pv 1) rfl) (pa_cons (pe_fld (pv 1) rfl) (pa_cons (pe_c h_told_by hr (by omega) (pa_cons (pv 0) (pa_cons (pe_fld (pv 1) rfl) pa_nil))) (pa_cons (pv 2) pa_nil))))) rfl))), ?_⟩
  refine ⟨_, rfl, o, CF, dx, _, _, rfl, f1, c_Function, O.n_CF_others, rfl, ot, rfl, ⟨_, f4⟩, fun D hD => ?_⟩
  have hle : (othV t).length ≤ 1 := by unfold othV; split <;> decide
  refine lc_map (walk_tup (xs := othV t)) (fun i y H' => ∃ p u b, wb = some b ∧ y = .ref p ∧ SqT K H' p [.str "one", u] ∧ TmAt K H' u b) hD (by omega) (fun _ _ _ _ e ⟨p, u, b, h1, h2, h3, h4⟩ => ⟨p, u, b, h1, h2, e.seq h3, h4.mono e⟩) (fun H' sh => (tps sh).seq f4) ?_ ?_ gm_name
  · rintro i x H2 H3 Qk hi sh ⟨rfl, hx⟩ qk
    cases wb with
    | none => rw [othV0 hwb] at hi; exact absurd hi (Nat.not_lt_zero _)
    | some b =>
      obtain ⟨h0, o1, t1, l1, n1, hv, dx1, lk1, v1, ot1, vl1, vb1, g1, g2, g3, g4, g5, g6⟩ := hwb
      rw [othV1 h0] at hx hi
      have hi0 : i = 0 := Nat.lt_one_iff.mp hi
      subst hi0
      cases hx
      have dg := DGet.k (k := (.inr "one" : Key)) (sh _ _ hfs)
      rw [hv] at dg
      refine ⟨rfl, _, rfl, _, rfl, _, rfl, fs, _, rfl, dg, o1, CF, dx1, _, _, rfl, sh _ _ g1, c_Function, O.n_CF_body, rfl, sz2, fun p2 n2 => ?_⟩
      have sn := same_new n2 (.tup [.str "one", vb1])
      exact qk _ _ sn ⟨p2, vb1, b, rfl, rfl, .of upd_same, TmAt.same (sh.trans sn) g6⟩
  · intro H2 ys sh e hy hys
    have hk : ∃ ps kvs', ys = ps.map V.ref ∧ Paired (fun p (kv : Key × V) => SqT K H2 p [kV kv.1, kv.2]) ps kvs' ∧ WhAt K H2 (mergeK [] kvs') wb := by
      cases wb with
      | none =>
        rw [othV0 hwb] at hy
        cases ys with
        | nil => exact ⟨[], [], rfl, .nil, rfl⟩
        | cons a r => cases hy
      | some b =>
        rw [othV1 hwb.1] at hy
        obtain ⟨y, rfl⟩ := len1 hy
        obtain ⟨p, u, b', eb, rfl, a1, a2⟩ := hys 0 y rfl
        cases eb
        exact ⟨[p], [(.inr "one", u)], rfl, .cons a1 .nil, u, rfl, a2⟩
    obtain ⟨ps, kvs', rfl, hpp, hwh⟩ := hk
    refine ⟨D, ps, kvs', rfl, .of e, hpp, fun g hg => ?_⟩
    have sg := updN (o := .dK (mergeK [] kvs')) sh hg
    refine ⟨_, rfl, o, CF, dx, _, _, rfl, sg _ _ f1, c_Function, O.n_CF_looks, rfl, ?_⟩
    refine ⟨_, rfl, o, CF, dx, _, _, rfl, sg _ _ f1, c_Function, O.n_CF_term, rfl, ?_⟩
    refine ⟨_, rfl, _, rfl, o, CF, dx, _, _, rfl, sg _ _ f1, c_Function, O.n_CF_others, rfl, fs, ot, kvs, t, kn, rfl, sg _ _ hfs, (tps sg).seq f4, htb.same sg, fun r H3 s3 ⟨td, kns, er, htd, hkn⟩ => ?_⟩
    subst er
    have sA := sg.trans s3
    refine ⟨_, rfl, _, v, td, g, t, wb, mergeK [] kvs', kns, kn, rfl, f3.same sA, htd, hkn, s3 _ _ upd_same, hwh.same ((same_new hg _).trans s3), hok, hl, fun hf r H4 s4 hr4 => ?_, fun hf H4 s4 => qe hf _ (sA.trans s4)⟩
    have sB := sA.trans s4
    refine ⟨_, rfl, o, CF, dx, _, rfl, sB _ _ f1, c_Function, O.n_CF_body, (show 6 < 1000 by decide), ?_⟩
    have xx : SameX o H (upd H4 o (.ins CF dx [("looks", .ref lk), ("term", v), ("others", .ref ot), ("leads", vl), ("body", r), ("times", .int n)])) := (SameX.of sB).trans SameX.upd
    have tt := xx.tps f1 rfl
    exact q hf _ xx ⟨dx, lk, v, ot, vl, r, upd_same, tt.seq f2, f3.mono tt, tt.seq f4, f5.mono tt, TmAt.mono (tps_mut (sB _ _ f1) rfl) hr4⟩
/-! ### reach_of -/
def spReach0 (K : PySem.W.Frag) : Sp := fun vs H Q _ => ∃ fs nm, vs = [fs, .ref nm] ∧ SqT K H nm [] ∧ Ret H Q fun r H' => ∃ l, r = .ref l ∧ H' l = some (.lst [])
def spReach2 (K : PySem.W.Frag) (CF : Addr) : Sp := fun vs H Q _ => ∃ fs nm kvs o1 t1 l1 b1 n1 o2 t2 l2 b2 n2, vs = [.ref fs, .ref nm] ∧ H nm = some (.lst [.str "other"]) ∧ Rd H fs (.dK kvs) ∧ valV kvs (.inr "one") = some (.ref o1) ∧ valV kvs (.inr "other") = some (.ref o2) ∧
  FnO K CF H o1 t1 l1 b1 n1 ∧ FnO K CF H o2 t2 l2 b2 n2 ∧ t1.uses = 0 ∧ t2.uses ≠ 0 ∧ Ret H Q fun r H' => ∃ l, r = .ref l ∧ H' l = some (.lst [.str "other", .str "one"])
def spReach (K : PySem.W.Frag) (CF : Addr) : Sp := fun vs H Q E => spReach0 K vs H Q E ∨ spReach2 K CF vs H Q E
theorem Rd.same {H H' : Hp} {a : Addr} {u : HO} (e : Same H H') (h : Rd H a u) : Rd H' a u := h.elim (fun h => .inl (e _ _ h)) fun ⟨o, h⟩ => .inr ⟨o, e _ _ h⟩
theorem dget_rd {H : Hp} {a : Addr} {kvs : List (Key × V)} {k : Key} {v : V} (h : Rd H a (.dK kvs)) (e : valV kvs k = some v) : DGet H a (kV k) (some v) := .inl ⟨kvs, k, h, rfl, e.symm⟩
def lft : Nat → List V
  | 2 => [.str "other"]
  | 1 => [.str "one"]
  | _ => []
def fnd (fin : List V) : Nat → List V
  | 2 => []
  | 1 => [.str "other"]
  | _ => fin
theorem sh_str {z : Str} (h : PyData.canLay0 (.str z) = true) : SeqAt.shaped (.list [.str z]) = true := by
  show (PyData.canLay0 (.list [.str z]) && decide ((PyData.list [.str z]).depth ≤ 64)) = true
  simp only [PyData.canLay0, PyData.canLayAll0, PyData.depth, PyData.depthAll, Bool.and_true]
  have h' : PyData.strOk z = true := by simpa only [PyData.canLay0] using h
  rw [h']
  rfl
theorem has_reach_of (T : Txt w K mg) (O : Own w K mg CS CF CT) : Has P w K mg base CX0 1 "reach_of" (spReach K CF) := by
  obtain ⟨f, fd, D⟩ := T.f_reach_of
  have c_Function : Cls K CF := O.c_Function.elim fun _ h => h.elim fun _ h => h.cl
  refine D.ok0 sc_reach_of (fun vs H Q E h => ?_) (fun cdv A outer s H vs Q E hr h => ?_)
  · rcases h with ⟨_, _, rfl, _⟩ | ⟨_, _, _, _, _, _, _, _, _, _, _, _, _, rfl, _⟩ <;> rfl
  have hu := hu_of hr
  have ha : ∃ (fv : V) (nm : Addr) (xs : List V), vs = [fv, .ref nm] ∧ (SqL K H nm xs ∨ SqT K H nm xs) ∧ ∃ (m : Nat) (fin : List V), xs = lft m ∧ fnd fin m = [] ∧ m ≤ 2 ∧ fin.length ≤ 2 ∧ (m ≠ 0 → ∃ fs kvs o1 t1 l1 b1 n1 o2 t2 l2 b2 n2, fv = .ref fs ∧ fin = [.str "other", .str "one"] ∧ Rd H fs (.dK kvs) ∧ valV kvs (.inr "one") = some (.ref o1) ∧ valV kvs (.inr "other") = some (.ref o2) ∧
      FnO K CF H o1 t1 l1 b1 n1 ∧ FnO K CF H o2 t2 l2 b2 n2 ∧ t1.uses = 0 ∧ t2.uses ≠ 0) ∧ Ret H Q fun r H' => ∃ l, r = .ref l ∧ H' l = some (.lst fin) := by
    rcases h with ⟨fs, nm, rfl, h1, h2⟩ | ⟨fs, nm, kvs, o1, t1, l1, b1, n1, o2, t2, l2, b2, n2, rfl, h1, h2, h3, h4, h5, h6, h7, h8, h9⟩
    · exact ⟨fs, nm, [], rfl, .inr h1, 0, [], rfl, rfl, by omega, by decide, fun h => absurd rfl h, h2⟩
    · exact ⟨.ref fs, nm, _, rfl, .inl (.of h1), 2, [.str "other", .str "one"], rfl, rfl, by omega, by decide, fun _ => ⟨fs, kvs, o1, t1, l1, b1, n1, o2, t2, l2, b2, n2, rfl, rfl, h2, h3, h4, h5, h6, h7, h8⟩, h9⟩
  obtain ⟨fv, nm, xs, rfl, hnm, m0, fin, rfl, hf0, hm0, hfl, hh, q⟩ := ha
  refine ⟨_, (pss_cons (ps_set (i := 2) sc_reach_of.nd rfl (Or.inl rfl) (pe_lst pa_nil)) (pss_cons (ps_set (i := 3) sc_reach_of.nd rfl (Or.inl rfl) (pe_callTy call_list_of (by rfl) T.b_list bt_list (pa_cons (pv 1) pa_nil))) (pss_cons (ps_while PassesOwn.never (pt_cmpR (op_neD hr.units) (pv 3) (pe_lst pa_nil) (nomark _)) (pss_cons (ps_set (i := 4) sc_reach_of.nd rfl (Or.inl rfl) (pe_bm0 PySem.F.plainAttrs_list PySem.F.slot_list_pop PySem.F.type_list_pop mt_pop (pv 3))) (pss_one (ps_if (PW.pt (pw_and (pt_cmp (pc_din hu (pv 4) (pv 0))) (pw_and1 (pt_cmpR op_notIn_seq (pv 4) (pv 2) rfl)))) (pss_cons (ps_expr (pe_bm PySem.F.plainAttrs_list PySem.F.slot_list_append PySem.F.type_list_append mt_append (pv 2) (pa_cons (pv 4) pa_nil))) (pss_one (ps_expr (pe_bm PySem.F.plainAttrs_list PySem.F.slot_list_extend PySem.F.type_list_extend mt_extendT (pv 3) (pa_cons (pe_fld (pe_dget hu (pv 0) (pv 4) (fun _ _ => rfl)) rfl) pa_nil))))) pss_nil)))) (pss_one (ps_ret (pv 2)))))), ?_⟩
  refine ⟨sz0, fun g hg => ?_⟩
  have s1 := same_new hg (.lst [])
  refine ⟨_, rfl, nm, lft m0, rfl, hnm.elim (fun h => .inl (h.elim (fun h => .inl (Rd.same s1 h)) .inr)) (fun h => .inr ((tps s1).seq h)), fun l hnl => ?_⟩
  have s2 := updN (o := .lst (lft m0)) s1 hnl
  have hgl : g ≠ l := ne_of_none upd_same hnl
  refine ⟨fun m σ H' => m ≤ m0 ∧ Same H H' ∧ H' g = some (.lst (fnd fin m)) ∧ H' l = some (.lst (lft m)) ∧ ∃ u, σ = [some fv, some (.ref nm), some (.ref g), some (.ref l), u], ⟨m0, Nat.le_refl _, s2, ?_, upd_same, _, rfl⟩, ?_⟩
  · rw [upd_ne hgl, hf0]
    exact upd_same
  rintro m σ H' ⟨hm, sh, hg', hl', u, rfl⟩
  have hlo : H l = none := s1.free hnl
  refine ⟨_, rfl, sz0, fun p hp => ?_⟩
  have s3 := same_new hp (.lst [])
  have sA := sh.trans s3
  have gA := s3 _ _ hg'
  have lA := s3 _ _ hl'
  match m, hm, hg', hl', gA, lA with
  | 0, _, hg', hl', gA, lA =>
    refine ⟨.list [], .list [], .lst (.of lA) .nil, .lst (.of upd_same) .nil, by decide, by decide, _, rfl, iteF ?_⟩
    exact ⟨_, rfl, q _ _ sA ⟨g, rfl, gA⟩⟩
  | 1, hm, hg', hl', gA, lA =>
    obtain ⟨fs, kvs, o1, t1, l1, b1, n1, o2, t2, l2, b2, n2, rfl, rfl, hrd, v1, v2, fo1, fo2, u1, u2⟩ := hh (by omega)
    refine ⟨.list [.str "one"], .list [], .lst (.of lA) (.cons (.str _) .nil), .lst (.of upd_same) .nil, sh_str ly_one, by decide, _, rfl, iteT ?_⟩
    have sB := same_mut (o := .lst []) sA hlo
    have gB := (upd_ne (H := upd H' p (.lst [])) (o := .lst []) hgl).trans gA
    obtain ⟨dx1, lk1, w1, ot1, vl1, vb1, f1, f2, f3, f4, f5, f6⟩ := fo1
    refine ⟨fun σ' H'' => ∃ m', m' < 1 ∧ m' ≤ m0 ∧ Same H H'' ∧ H'' g = some (.lst (fnd [.str "other", .str "one"] m')) ∧ H'' l = some (.lst (lft m')) ∧ ∃ u, σ' = [some (.ref fs), some (.ref nm), some (.ref g), some (.ref l), u], fun σ' H'' ⟨m', a, b⟩ => ⟨m', a, b⟩, ?_⟩
    refine ⟨_, rfl, .inl ⟨rfl, _, .of lA⟩, l, _, _, rfl, rfl, lA, rfl, ?_⟩
    refine ⟨_, rfl, _, rfl, fs, _, rfl, dget_rd (Rd.same sB hrd) v1, _, rfl, iteT ?_⟩
    refine ⟨_, rfl, _, rfl, g, _, rfl, .inl (.of gB), rfl, rfl, _, rfl, ifT (by decide +kernel) ?_⟩
    refine ⟨_, rfl, .inl ⟨rfl, _, .of gB⟩, _, rfl, g, _, _, rfl, rfl, gB, (show 1 < sizeLine by decide), ?_⟩
    have sC := same_mut (o := .lst ([.str "other"] ++ [V.str "one"])) sB hg
    have lC := (upd_ne (H := upd (upd H' p (.lst [])) l (.lst [])) (o := .lst ([.str "other"] ++ [V.str "one"])) (Ne.symm hgl)).trans upd_same
    refine ⟨_, rfl, .inl ⟨rfl, _, .of lC⟩, _, rfl, _, rfl, fs, _, rfl, dget_rd (Rd.same sC hrd) v1, o1, CF, dx1, _, _, rfl, sC _ _ f1, c_Function, O.n_CF_others, rfl, l, ot1, [], othV t1, rfl, rfl, lC, (tps sC).seq f4, ?_, ?_⟩
    · rw [othV0 u1]; decide
    · rw [othV0 u1]
      refine ⟨0, by omega, by omega, same_mut sC hlo, ?_, upd_same, _, rfl⟩
      rw [upd_ne hgl]
      exact upd_same
  | 2, hm, hg', hl', gA, lA =>
    obtain ⟨fs, kvs, o1, t1, l1, b1, n1, o2, t2, l2, b2, n2, rfl, rfl, hrd, v1, v2, fo1, fo2, u1, u2⟩ := hh (by omega)
    refine ⟨.list [.str "other"], .list [], .lst (.of lA) (.cons (.str _) .nil), .lst (.of upd_same) .nil, sh_str ly_other, by decide, _, rfl, iteT ?_⟩
    have sB := same_mut (o := .lst []) sA hlo
    have gB := (upd_ne (H := upd H' p (.lst [])) (o := .lst []) hgl).trans gA
    obtain ⟨dx1, lk1, w1, ot1, vl1, vb1, f1, f2, f3, f4, f5, f6⟩ := fo2
    refine ⟨fun σ' H'' => ∃ m', m' < 2 ∧ m' ≤ m0 ∧ Same H H'' ∧ H'' g = some (.lst (fnd [.str "other", .str "one"] m')) ∧ H'' l = some (.lst (lft m')) ∧ ∃ u, σ' = [some (.ref fs), some (.ref nm), some (.ref g), some (.ref l), u], fun σ' H'' ⟨m', a, b⟩ => ⟨m', a, b⟩, ?_⟩
    refine ⟨_, rfl, .inl ⟨rfl, _, .of lA⟩, l, _, _, rfl, rfl, lA, rfl, ?_⟩
    refine ⟨_, rfl, _, rfl, fs, _, rfl, dget_rd (Rd.same sB hrd) v2, _, rfl, iteT ?_⟩
    refine ⟨_, rfl, _, rfl, g, _, rfl, .inl (.of gB), rfl, rfl, _, rfl, ifT (by decide +kernel) ?_⟩
    refine ⟨_, rfl, .inl ⟨rfl, _, .of gB⟩, _, rfl, g, _, _, rfl, rfl, gB, (show 0 < sizeLine by decide), ?_⟩
    have sC := same_mut (o := .lst ([] ++ [V.str "other"])) sB hg
    have lC := (upd_ne (H := upd (upd H' p (.lst [])) l (.lst [])) (o := .lst ([] ++ [V.str "other"])) (Ne.symm hgl)).trans upd_same
    refine ⟨_, rfl, .inl ⟨rfl, _, .of lC⟩, _, rfl, _, rfl, fs, _, rfl, dget_rd (Rd.same sC hrd) v2, o2, CF, dx1, _, _, rfl, sC _ _ f1, c_Function, O.n_CF_others, rfl, l, ot1, [], othV t2, rfl, rfl, lC, (tps sC).seq f4, ?_, ?_⟩
    · rw [othV1 u2]; exact (show 0 + 1 ≤ sizeLine by decide)
    · rw [othV1 u2]
      refine ⟨1, by omega, by omega, same_mut sC hlo, ?_, upd_same, _, rfl⟩
      rw [upd_ne hgl]
      exact upd_same
  | k + 3, hm, _, _, _, _ => omega
end
end K70
namespace K70
open PySem PySem.Spec PyProof.Rows L2
section
variable {P : Program} {w : World} {K : PySem.W.Frag} {mg : Str → Option Value} {base : Heap} {CS CF CT : Addr}
/-! ### by_uses -/
def spByUses (K : PySem.W.Frag) (CF : Addr) : Sp := fun vs H Q _ => ∃ fs nm kvs o2 t2 l2 b2 n2, vs = [.ref fs, .ref nm] ∧ H nm = some (.lst [.str "other"]) ∧ H fs = some (.dK kvs) ∧ valV kvs (.inr "other") = some (.ref o2) ∧
  FnO K CF H o2 t2 l2 b2 n2 ∧ t2.uses ≠ 0 ∧ Ret H Q fun r H' => ∃ l, r = .ref l ∧ H l = none ∧ H' l = some (.lst [.str "other"])
theorem one_false {ys : List V} (hl : ys.length = 1) (h : ∀ (i : Nat) (y : V), ys[i]? = some y → y = .bl false) : ys = [V.bl false] := by
  obtain ⟨y, rfl⟩ := len1 hl
  rw [h 0 y rfl]
def bfnd : Nat → List V
  | 1 => []
  | _ => [.str "other"]
def blft : Nat → List V
  | 1 => [.str "other"]
  | _ => []
theorem has_by_uses (T : Txt w K mg) (O : Own w K mg CS CF CT) : Has P w K mg base CX0 1 "by_uses" (spByUses K CF) := by
  obtain ⟨f, fd, D⟩ := T.f_by_uses
  have c_Function : Cls K CF := O.c_Function.elim fun _ h => h.elim fun _ h => h.cl
  refine D.ok0 sc_by_uses (fun vs H Q E h => ?_) (fun cdv A outer s H vs Q E hr h => ?_)
  · obtain ⟨_, _, _, _, _, _, _, _, rfl, _⟩ := h
    rfl
  have hu := hu_of hr
  obtain ⟨fs, nm, kvs, o2, t2, l2, b2, n2, rfl, hnm, hfs, v2, fo2, u2, q⟩ := h
  obtain ⟨dx1, lk1, w1, ot1, vl1, vb1, f1, f2, f3, f4, f5, f6⟩ := fo2
  rw [othV1 u2] at f4
  refine ⟨_, (pss_cons (ps_set (i := 2) sc_by_uses.nd rfl (Or.inl rfl) (pe_lst pa_nil)) (pss_cons (ps_set (i := 3) sc_by_uses.nd rfl (Or.inr rfl) (pe_callTy call_list_of (by rfl) T.b_list bt_list (pa_cons (pv 1) pa_nil))) (pss_cons (ps_while PassesOwn.never (pt_cmpR (op_neD hr.units) (pv 3) (pe_lst pa_nil) (nomark _)) (pss_cons (ps_set (i := 4) sc_by_uses.nd rfl (Or.inr rfl) (pe_lc (own := [("name", 5)]) rfl sc_by_uses.nd (pi_list (pv 3)) (blkOk_by (own := [("name", 5)]) (N := ["functions", "names", "found", "left", "ready", "name", "other"]) (sc := defScope s_by_uses) (by decide +kernel)) (fun _ _ _ _ _ => (pg_name (i := 5) sc_by_uses.nd rfl (Or.inl rfl) (hf := .inr rfl))) (fun _ _ _ _ _ => pts_one (pt_not (pt_val (pe_callB (r := rAny K) (cr_any rfl) (by rfl) T.b_any bt_any (pa_cons (pe_lc (own := [("other", 6)]) (tt := tYes) rfl sc_by_uses.nd (pi_tupK (K := K) rfl (pe_fldK (K := K) rfl (pe_dget hu (pv 0) (pv 5) (fun _ _ => rfl)) rfl)) (blkOk_by (own := [("other", 6)]) (N := ["functions", "names", "found", "left", "ready", "name", "other"]) (sc := _) (by rfl)) (fun _ _ _ _ _ => (pg_name (i := 6) sc_by_uses.nd rfl (Or.inl rfl) (hf := .inr rfl))) (fun _ _ _ _ _ => pts_nil) (fun _ _ _ _ _ => (pe_cmpR (r := rIn K false) op_in_seq (pv 6) (pv 3) rfl))) pa_nil))))) (fun _ _ _ _ _ => (pv 5)))) (pss_cons (ps_expr (pe_bm PySem.F.plainAttrs_list PySem.F.slot_list_extend PySem.F.type_list_extend mt_extend (pv 2) (pa_cons (pv 4) pa_nil))) (pss_one (ps_set (i := 3) sc_by_uses.nd rfl (Or.inr rfl) (pe_lc (own := [("name", 5)]) rfl sc_by_uses.nd (pi_list (pv 3)) (blkOk_by (own := [("name", 5)]) (N := ["functions", "names", "found", "left", "ready", "name", "other"]) (sc := defScope s_by_uses) (by decide +kernel)) (fun _ _ _ _ _ => (pg_name (i := 5) sc_by_uses.nd rfl (Or.inl rfl) (hf := .inr rfl))) (fun _ _ _ _ _ => pts_one (pt_cmpR (r := rIn K true) op_notIn_seq (pv 5) (pv 4) rfl)) (fun _ _ _ _ _ => (pv 5)))))))) (pss_one (ps_ret (pv 2)))))), ?_⟩
  refine ⟨sz0, fun g hg => ?_⟩
  have s1 := same_new hg (.lst [])
  refine ⟨_, rfl, nm, [.str "other"], rfl, .inl (.of (s1 _ _ hnm)), fun l hnl => ?_⟩
  have s2 := updN (o := .lst [.str "other"]) s1 hnl
  have hgl : g ≠ l := ne_of_none upd_same hnl
  refine ⟨fun m σ H' => m ≤ 1 ∧ Same H H' ∧ H' g = some (.lst (bfnd m)) ∧ ∃ l u4 u5 u6, σ = [some (.ref fs), some (.ref nm), some (.ref g), some (.ref l), u4, u5, u6] ∧ g ≠ l ∧ H' l = some (.lst (blft m)), ⟨1, Nat.le_refl _, s2, ?_, l, _, _, _, rfl, hgl, upd_same⟩, ?_⟩
  · rw [upd_ne hgl]
    exact upd_same
  rintro m σ H' ⟨hm, sh, hg', l, u4, u5, u6, rfl, hgl, hl'⟩
  refine ⟨_, rfl, sz0, fun p hp => ?_⟩
  have s3 := same_new hp (.lst [])
  have sA := sh.trans s3
  have gA := s3 _ _ hg'
  have lA := s3 _ _ hl'
  match m, hm, hg', hl', gA, lA with
  | 0, _, hg', hl', gA, lA =>
    refine ⟨.list [], .list [], .lst (.of lA) .nil, .lst (.of upd_same) .nil, by decide, by decide, _, rfl, iteF ?_⟩
    exact ⟨_, rfl, q _ _ sA ⟨g, rfl, hg, gA⟩⟩
  | 1, hm, hg', hl', gA, lA =>
    refine ⟨.list [.str "other"], .list [], .lst (.of lA) (.cons (.str _) .nil), .lst (.of upd_same) .nil, sh_str ly_other, by decide, _, rfl, iteT ?_⟩
    refine ⟨fun σ' H'' => ∃ m', m' < 1 ∧ m' ≤ 1 ∧ Same H H'' ∧ H'' g = some (.lst (bfnd m')) ∧ ∃ l u4 u5 u6, σ' = [some (.ref fs), some (.ref nm), some (.ref g), some (.ref l), u4, u5, u6] ∧ g ≠ l ∧ H'' l = some (.lst (blft m')), fun σ' H'' ⟨m', a, b⟩ => ⟨m', a, b⟩, ?_⟩
    refine ⟨_, rfl, l, rfl, ⟨_, .of lA⟩, fun D hD => ?_⟩
    refine lc_flt (walk_list (xs := [V.str "other"])) (fun _ => true) (fun i y _ => y = .str "other") hD (show 1 ≤ 1000 by decide) (fun _ _ _ _ _ h => h) (fun H' sh => .of (sh _ _ lA)) ?_ ?_
    · rintro i x H2 H3 Qk Qn hi s4 ⟨rfl, hx⟩ qk qn
      have hi0 : i = 0 := Nat.lt_one_iff.mp hi
      subst hi0
      cases hx
      have sB := sA.trans s4
      refine ⟨rfl, _, rfl, _, rfl, fs, _, rfl, dget_rd (.of (sB _ _ hfs)) v2, o2, CF, dx1, _, _, rfl, sB _ _ f1, c_Function, O.n_CF_others, rfl, ot1, rfl, ⟨_, (tps sB).seq f4⟩, fun D2 hD2 => ?_⟩
      refine lc_map (walk_tup (xs := [V.str "one"])) (fun i y _ => y = .bl false) hD2 (show 1 ≤ 1000 by decide) (fun _ _ _ _ _ h => h) (fun H' s5 => (tps (sB.trans s5)).seq f4) ?_ ?_ gm_name
      · rintro i x H4 H5 Qk2 hi2 s5 ⟨rfl, hx2⟩ qk2
        have hi0 : i = 0 := Nat.lt_one_iff.mp hi2
        subst hi0
        cases hx2
        refine ⟨rfl, _, rfl, _, rfl, l, _, rfl, .inl (.of ((s4.trans s5) _ _ lA)), rfl, rfl, qk2 _ _ (Same.refl _) ?_⟩
        exact congrArg V.bl (by decide +kernel)
      · intro H4 ys s5 e hy hys
        have ey := one_false hy hys
        subst ey
        refine ⟨D2, [false], rfl, .of e, _, rfl, iteT ?_⟩
        exact ⟨_, rfl, qk rfl _ _ s5 rfl⟩
    · intro H2 ys s4 e p
      obtain ⟨y, rfl, rfl⟩ := Paired.one (show Paired _ ys [0] from p)
      have gB := s4 _ _ gA
      have sB := sA.trans s4
      refine ⟨_, rfl, .inl ⟨rfl, _, .of gB⟩, _, rfl, g, D, [], [.str "other"], rfl, rfl, gB, e, (show 0 + 1 ≤ sizeLine by decide), ?_⟩
      have sC := same_mut (o := .lst ([] ++ [V.str "other"])) sB hg
      have lB := s4 _ _ lA
      have lC := (upd_ne (H := H2) (o := .lst ([] ++ [V.str "other"])) (Ne.symm hgl)).trans lB
      have hDg : D ≠ g := fun z => by
        subst z
        rw [gA] at hD
        cases hD
      have DC := (upd_ne (H := H2) (o := .lst ([] ++ [V.str "other"])) hDg).trans e
      refine ⟨_, rfl, l, rfl, ⟨_, .of lC⟩, fun D3 hD3 => ?_⟩
      refine lc_flt (walk_list (xs := [V.str "other"])) (fun _ => false) (fun i y _ => False) hD3 (show 1 ≤ 1000 by decide) (fun _ _ _ _ _ h => h) (fun H' s6 => .of (s6 _ _ lC)) ?_ ?_
      · rintro i x H4 H5 Qk Qn hi s6 ⟨rfl, hx⟩ qk qn
        have hi0 : i = 0 := Nat.lt_one_iff.mp hi
        subst hi0
        cases hx
        refine ⟨rfl, _, rfl, _, rfl, D, _, rfl, .inl (.of (s6 _ _ DC)), rfl, rfl, _, rfl, ifF (by decide +kernel) ?_⟩
        exact qn rfl _ (Same.refl _)
      · intro H4 ys s6 e6 p
        cases (show Paired _ ys [] from p)
        refine ⟨0, by omega, by omega, sC.trans s6, s6 _ _ upd_same, D3, _, _, _, rfl, ?_, e6⟩
        exact ne_of_none upd_same hD3
  | k + 2, hm, _, _, _, _ => omega
end
end K70
namespace K70
open PySem PySem.Spec PyProof.Rows L2
/-- the stand at a: its list of states at sl, the last of them fs -/
def StO (CT : Addr) (H : Hp) (a sl fs : Addr) (n : Nat) : Prop := ∃ dx ds, H a = some (.ins CT dx [("states", .ref sl)]) ∧ H sl = some (.lst (ds ++ [.ref fs])) ∧ ds.length ≤ n
theorem StO.same {CT : Addr} {H H' : Hp} (e : Same H H') {a sl fs : Addr} {n : Nat} : StO CT H a sl fs n → StO CT H' a sl fs n := fun ⟨dx, ds, h1, h2, h3⟩ => ⟨dx, ds, e _ _ h1, e _ _ h2, h3⟩
theorem at_last {α : Type} {ds : List α} {x : α} : atI (ds ++ [x]) (-1) = some x := by
  have hl : (ds ++ [x]).length = ds.length + 1 := by simp
  unfold atI ixN
  rw [if_neg (by decide : ¬ (0 : Int) ≤ -1), hl, if_pos (by omega : -((ds.length + 1 : Nat) : Int) ≤ -1)]
  have e : ((-1 : Int) + ((ds.length + 1 : Nat) : Int)).toNat = ds.length := by omega
  rw [e]
  show (ds ++ [x])[ds.length]? = some x
  simp
theorem putK_new {kvs : List (Key × V)} {k : Key} {v : V} (h : valV kvs k = none) : putK kvs k v = kvs ++ [(k, v)] := by
  unfold putK
  rw [if_neg]
  rw [valV_any, h]
  exact Bool.false_ne_true
theorem KdAt.fnw {K : PySem.W.Frag} {H : Hp} {v : V} {k : Kd} (h : KdAt K H v k) : True := trivial
section
variable {P : Program} {w : World} {K : PySem.W.Frag} {mg : Str → Option Value} {base : Heap} {CS CF CT : Addr}
/-! ### kinds_anew -/
def spAnew (K : PySem.W.Frag) (CF : Addr) : Sp := fun vs H Q _ => ∃ fs nm kvs o t ld bo n kn k, vs = [.ref fs, .ref nm] ∧ H nm = some (.lst [.str "other"]) ∧ H fs = some (.dK kvs) ∧ valV kvs (.inr "other") = some (.ref o) ∧ FnO K CF H o t ld bo n ∧ t.uses ≠ 0 ∧
  TbAt K CF H t kvs kn ∧ t.depth ≤ 30 ∧ kin kn false t = some k ∧ k.word = "fun" ∧ KnOk kn ∧ ∀ H' l, SameX o H H' → FnO K CF H' o t (some k) bo n → H l = none → H' l = some (.lst []) → Q (.ref l) H'
theorem has_kinds_anew (T : Txt w K mg) (O : Own w K mg CS CF CT) : Has P w K mg base CX0 163 "kinds_anew" (spAnew K CF) := by
  obtain ⟨f, fd, D⟩ := T.f_kinds_anew
  have c_Function : Cls K CF := O.c_Function.elim fun _ h => h.elim fun _ h => h.cl
  have h_give_kind := has_give_kind (P := P) (base := base) T O
  refine D.ok0 sc_kinds_anew (fun vs H Q E h => ?_) (fun cdv A outer s H vs Q E hr h => ?_)
  · obtain ⟨_, _, _, _, _, _, _, _, _, _, rfl, _⟩ := h
    rfl
  have hu := hu_of hr
  obtain ⟨fs, nm, kvs, o, t, ld, bo, n, kn, k, rfl, hnm, hfs, hv, hfo, hu2, htb, hl, hki, hkw, hko, q⟩ := h
  refine ⟨_, (pss_cons (ps_set (i := 2) sc_kinds_anew.nd rfl (Or.inr rfl) (pe_lst pa_nil)) (pss_cons (ps_for PassesOwn.never rfl (pi_list (pv 1)) (pg_name (i := 3) sc_kinds_anew.nd rfl (Or.inl rfl)) (pss_cons (ps_set (i := 4) sc_kinds_anew.nd rfl (Or.inl rfl) (pe_dget hu (pv 0) (pv 3) (fun _ _ => rfl))) (pss_one (ps_try_thru0 (pss_cons (ps_if (pt_val (pe_callB (cr_any rfl) (by rfl) T.b_any bt_any (pa_cons (pe_lc (own := [("other", 5)]) (tt := tYes) rfl sc_kinds_anew.nd (pi_tup (pe_fld (pv 4) rfl)) (blkOk_by (own := [("other", 5)]) (N := ["functions", "names", "broken", "name", "one", "other"]) (sc := defScope s_kinds_anew) (by decide +kernel)) (fun _ _ _ _ _ => (pg_name (i := 5) sc_kinds_anew.nd rfl (Or.inl rfl) (hf := .inr rfl))) (fun _ _ _ _ _ => pts_nil) (fun _ _ _ _ _ => (pe_cmpR (r := rIn K false) op_in_seq (pv 5) (pv 2) rfl))) pa_nil))) (pss_one ps_never) pss_nil) (pss_one (ps_expr (pe_c h_give_kind hr (by omega) (pa_cons (pv 0) (pa_cons (pv 4) pa_nil)))))))))) (pss_one (ps_ret (pv 2))))), ?_⟩
  refine ⟨sz0, fun g hg => ?_⟩
  have s1 := same_new hg (.lst [])
  have nm1 := s1 _ _ hnm
  refine ⟨_, rfl, nm, rfl, ⟨_, .of nm1⟩, ?_⟩
  refine for_one (walk_list (xs := [V.str "other"])) (fun σ H3 => SameX o H H3 ∧ FnO K CF H3 o t (some k) bo n ∧ H3 g = some (.lst []) ∧ H3 nm = some (.lst [.str "other"]) ∧ ∃ u3 u4 u5, σ = [some (.ref fs), some (.ref nm), some (.ref g), u3, u4, u5]) (.of nm1) (fun _ _ h => .of h.2.2.2.1) ?_ ?_
  · rintro x H' ⟨rfl, hx⟩
    cases hx
    obtain ⟨dx, lk, v, ot, vl, vb, f1, f2, f3, f4, f5, f6⟩ := id hfo
    rw [othV1 hu2] at f4
    refine ⟨_, rfl, _, rfl, fs, _, rfl, dget_rd (.of (s1 _ _ hfs)) hv, ?_⟩
    refine ⟨_, rfl, o, CF, dx, _, _, rfl, s1 _ _ f1, c_Function, O.n_CF_others, rfl, ot, rfl, ⟨_, (tps s1).seq f4⟩, fun D hD => ?_⟩
    refine lc_map (walk_tup (xs := [V.str "one"])) (fun i y _ => y = .bl false) hD (show 1 ≤ 1000 by decide) (fun _ _ _ _ _ h => h) (fun H' s5 => (tps (s1.trans s5)).seq f4) ?_ ?_ gm_name
    · rintro i x H4 H5 Qk2 hi2 s5 ⟨rfl, hx2⟩ qk2
      have hi0 : i = 0 := Nat.lt_one_iff.mp hi2
      subst hi0
      cases hx2
      exact ⟨rfl, _, rfl, _, rfl, g, _, rfl, .inl (.of (s5 _ _ upd_same)), rfl, rfl, qk2 _ _ (Same.refl _) rfl⟩
    · intro H4 ys s5 e hy hys
      have ey := one_false hy hys
      subst ey
      have sA := s1.trans s5
      refine ⟨D, [false], rfl, .of e, _, rfl, iteF ?_⟩
      refine ⟨_, rfl, _, rfl, fs, o, kvs, t, ld, bo, n, kn, k, rfl, sA _ _ hfs, hfo.same sA, htb.same sA, hl, hki, hkw, hko, fun H6 x6 fo6 => ?_⟩
      have hgo : g ≠ o := Ne.symm (ne_of_none f1 hg)
      have hno : nm ≠ o := ne_of hnm f1 (by intro z; cases z)
      exact ⟨(SameX.of sA).trans x6, fo6, x6 _ _ hgo (s5 _ _ upd_same), x6 _ _ hno (sA _ _ hnm), _, _, _, rfl⟩
  · rintro σ H3 ⟨x3, fo3, hg3, hn3, u3, u4, u5, rfl⟩
    exact ⟨_, rfl, q _ _ x3 fo3 hg hg3⟩
/-! ### Stand -/
def spStInit (CT : Addr) : Sp := fun vs H Q _ => ∃ a dx, vs = [.ref a] ∧ H a = some (.ins CT dx []) ∧ ∀ H' sl d, SameX a H H' → H sl = none → H d = none → StO CT H' a sl d 0 → H' d = some (.dK []) → Q .non H'
theorem has_Stand (T : Txt w K mg) (O : Own w K mg CS CF CT) : HasC P w K mg base 1 "Stand" CT (spStInit CT) := by
  obtain ⟨f, fd, D⟩ := O.c_Stand
  refine D.ok0 sc_Stand_init (fun vs H Q E h => ?_) (fun cdv A outer s H vs Q E hr h => ?_)
  · obtain ⟨_, _, rfl, _⟩ := h
    rfl
  obtain ⟨a, dx, rfl, ha, q⟩ := h
  refine ⟨_, (pss_one (ps_fld (pv 0) (pe_lst (pa_cons pe_dnewK pa_nil)) rfl)), ?_⟩
  intro d hd
  refine ⟨sz1, fun l hnl => ?_⟩
  have s1 := same_new hd (.dK [])
  have s2 := updN (o := .lst [.ref d]) s1 hnl
  refine ⟨_, rfl, a, CT, dx, [], rfl, s2 _ _ ha, D.cl, O.n_CT_states, by decide, ?_⟩
  have hla : l ≠ a := Ne.symm (ne_of_none (s1 _ _ ha) hnl)
  have hda : d ≠ a := Ne.symm (ne_of_none ha hd)
  have hdl : d ≠ l := ne_of_none upd_same hnl
  refine q _ l d ((SameX.of s2).trans SameX.upd) (s1.free hnl) hd ⟨dx, [], upd_same, ?_, Nat.le_refl _⟩ ?_
  · rw [upd_ne hla]; exact upd_same
  · rw [upd_ne hda, upd_ne hdl]; exact upd_same
def spStFun (CT : Addr) : Sp := fun vs H Q _ => ∃ a z sl fs n kvs o, vs = [.ref a, .str z] ∧ StO CT H a sl fs n ∧ H fs = some (.dK kvs) ∧ valV kvs (.inr z) = some (.ref o) ∧ Q (.ref o) H
theorem has_St_function (T : Txt w K mg) (O : Own w K mg CS CF CT) : HasM P w K mg base CX0 1 CT "function" (spStFun CT) := by
  obtain ⟨f, fd, D⟩ := O.m_Stand_function
  have c_Stand : Cls K CT := O.c_Stand.elim fun _ h => h.elim fun _ h => h.cl
  refine D.ok0 sc_Stand_function (fun vs H Q E h => ?_) (fun cdv A outer s H vs Q E hr h => ?_)
  · obtain ⟨_, _, _, _, _, _, _, rfl, _⟩ := h
    rfl
  have hu := hu_of hr
  obtain ⟨a, z, sl, fs, n, kvs, o, rfl, ⟨dx, ds, ha, hsl, _⟩, hfs, hv, q⟩ := h
  refine ⟨_, (pss_cons (ps_if (pt_cmp (pc_dnotin hu (pv 1) (pe_ix ix_list (pe_fld (pv 0) rfl) (pe_un un_neg pe_int) (fun _ _ => rfl)))) (pss_one ps_never) pss_nil) (pss_one (ps_ret (pe_dget hu (pe_ix ix_list (pe_fld (pv 0) rfl) (pe_un un_neg pe_int) (fun _ _ => rfl)) (pv 1) (fun _ _ => rfl))))), ?_⟩
  have dg := dget_rd (k := (.inr z : Key)) (.of hfs) hv
  refine ⟨_, rfl, _, rfl, a, CT, dx, _, _, rfl, ha, c_Stand, O.n_CT_states, rfl, _, rfl, sl, _, _, _, rfl, rfl, .of hsl, at_last, fs, _, rfl, dg, _, rfl, iteF ?_⟩
  exact ⟨_, rfl, a, CT, dx, _, _, rfl, ha, c_Stand, O.n_CT_states, rfl, _, rfl, sl, _, _, _, rfl, rfl, .of hsl, at_last, _, rfl, fs, _, rfl, dg, q⟩
def spStNames (K : PySem.W.Frag) (CT : Addr) : Sp := fun vs H Q _ => ∃ a sl fs n kvs, vs = [.ref a] ∧ StO CT H a sl fs n ∧ H fs = some (.dK kvs) ∧ Ret H Q fun r H' => ∃ p, r = .ref p ∧ SqT K H' p (kvs.map fun kv => kV kv.1)
theorem has_St_names (T : Txt w K mg) (O : Own w K mg CS CF CT) : HasM P w K mg base CX0 1 CT "names" (spStNames K CT) := by
  obtain ⟨f, fd, D⟩ := O.m_Stand_names
  have c_Stand : Cls K CT := O.c_Stand.elim fun _ h => h.elim fun _ h => h.cl
  refine D.ok0 sc_Stand_names (fun vs H Q E h => ?_) (fun cdv A outer s H vs Q E hr h => ?_)
  · obtain ⟨_, _, _, _, _, rfl, _⟩ := h
    rfl
  obtain ⟨a, sl, fs, n, kvs, rfl, ⟨dx, ds, ha, hsl, _⟩, hfs, q⟩ := h
  refine ⟨_, (pss_one (ps_ret (pe_callTy (call_tupD rfl) (by rfl) T.b_tuple bt_tuple (pa_cons (pe_ix ix_list (pe_fld (pv 0) rfl) (pe_un un_neg pe_int) (fun _ _ => rfl)) pa_nil)))), ?_⟩
  exact ⟨_, rfl, a, CT, dx, _, _, rfl, ha, c_Stand, O.n_CT_states, rfl, _, rfl, sl, _, _, _, rfl, rfl, .of hsl, at_last, fs, kvs, rfl, .of hfs, fun p hp => q _ _ (same_new hp _) ⟨p, rfl, .of upd_same⟩⟩
/-- the n-th body, the n-th times -/
def spStWhole (K : PySem.W.Frag) (CF CT : Addr) : Sp := fun vs H Q _ => ∃ a z sl fs n kvs o t ld b m, vs = [.ref a, .str z] ∧ StO CT H a sl fs n ∧ H fs = some (.dK kvs) ∧ valV kvs (.inr z) = some (.ref o) ∧ FnO K CF H o t ld (some b) m ∧ ∀ v, TmAt K H v b → Q v H
theorem has_St_whole (T : Txt w K mg) (O : Own w K mg CS CF CT) : HasM P w K mg base CX0 2 CT "whole" (spStWhole K CF CT) := by
  obtain ⟨f, fd, D⟩ := O.m_Stand_whole
  have c_Stand : Cls K CT := O.c_Stand.elim fun _ h => h.elim fun _ h => h.cl
  have c_Function : Cls K CF := O.c_Function.elim fun _ h => h.elim fun _ h => h.cl
  have h_Stand_function := has_St_function (P := P) (base := base) T O
  refine D.ok0 sc_Stand_whole (fun vs H Q E h => ?_) (fun cdv A outer s H vs Q E hr h => ?_)
  · obtain ⟨_, _, _, _, _, _, _, _, _, _, _, rfl, _⟩ := h
    rfl
  obtain ⟨a, z, sl, fs, n, kvs, o, t, ld, b, m, rfl, hst, hfs, hv, hfo, q⟩ := h
  refine ⟨_, (pss_one (ps_ret (pe_fld (pe_m h_Stand_function c_Stand hr (by omega) (pv 0) (pa_cons (pv 1) pa_nil)) rfl))), ?_⟩
  obtain ⟨dx, ds, ha, hsl, hdl⟩ := id hst
  obtain ⟨dx2, lk, v, ot, vl, vb, f1, f2, f3, f4, f5, f6⟩ := id hfo
  exact ⟨_, rfl, a, dx, _, rfl, ha, rfl, _, rfl, a, z, sl, fs, n, kvs, o, rfl, hst, hfs, hv, o, CF, dx2, _, _, rfl, f1, c_Function, O.n_CF_body, rfl, q _ f6⟩
def spStMade (K : PySem.W.Frag) (CF CT : Addr) : Sp := fun vs H Q _ => ∃ a z sl fs n kvs o t ld b m, vs = [.ref a, .str z] ∧ StO CT H a sl fs n ∧ H fs = some (.dK kvs) ∧ valV kvs (.inr z) = some (.ref o) ∧ FnO K CF H o t ld b m ∧ Q (.int m) H
theorem has_St_made (T : Txt w K mg) (O : Own w K mg CS CF CT) : HasM P w K mg base CX0 2 CT "made" (spStMade K CF CT) := by
  obtain ⟨f, fd, D⟩ := O.m_Stand_made
  have c_Stand : Cls K CT := O.c_Stand.elim fun _ h => h.elim fun _ h => h.cl
  have c_Function : Cls K CF := O.c_Function.elim fun _ h => h.elim fun _ h => h.cl
  have h_Stand_function := has_St_function (P := P) (base := base) T O
  refine D.ok0 sc_Stand_made (fun vs H Q E h => ?_) (fun cdv A outer s H vs Q E hr h => ?_)
  · obtain ⟨_, _, _, _, _, _, _, _, _, _, _, rfl, _⟩ := h
    rfl
  obtain ⟨a, z, sl, fs, n, kvs, o, t, ld, b, m, rfl, hst, hfs, hv, hfo, q⟩ := h
  refine ⟨_, (pss_one (ps_ret (pe_fld (pe_m h_Stand_function c_Stand hr (by omega) (pv 0) (pa_cons (pv 1) pa_nil)) rfl))), ?_⟩
  obtain ⟨dx, ds, ha, hsl, hdl⟩ := id hst
  obtain ⟨dx2, lk, v, ot, vl, vb, f1, f2, f3, f4, f5, f6⟩ := id hfo
  exact ⟨_, rfl, a, dx, _, rfl, ha, rfl, _, rfl, a, z, sl, fs, n, kvs, o, rfl, hst, hfs, hv, o, CF, dx2, _, _, rfl, f1, c_Function, O.n_CF_times, rfl, q⟩
end
end K70
namespace K70
open PySem PySem.Spec PyProof.Rows L2
section
variable {P : Program} {w : World} {K : PySem.W.Frag} {mg : Str → Option Value} {base : Heap} {CS CF CT : Addr}
theorem Dm.okX {x q : Str} {st : Stmt} {N ps : List Str} {f C : Addr} {fd : FuncData} {sp : Sp} {k : Nat} (D : Dm K C x q st ps f fd) (S : FnScope N ps (defScope st)) (len : ∀ vs H Q E, sp vs H Q E → vs.length = ps.length)
    (hbody : ∀ (cdv : Value) (A : Around) (outer : List Env) (s : Shared) (H : Hp) (vs : List V) (Q : VK) (E : XK), Room k (A.deeper (envOfC q (defScope st) s.heap.objs.size f cdv)) → sp vs H Q E →
      ∃ t, PSs (cxOf (CX P w) P w K mg base N q (defScope st) f cdv A outer s H E) (defBody st) t ∧ t { nx := fun _ H' => Q .non H', rt := Q } (start N vs) H) : HasM P w K mg base (CX P w) (k + 1) C x sp :=
  ⟨f, fd, ps, D.fn.ok S len hbody, D.me, D.bd⟩
/-! ### tell -/
def spTell (K : PySem.W.Frag) (CF CT DM : Addr) : Sp := fun vs H Q E => ∃ a z lk v sl fs n kvs t k kn wb, vs = [.ref a, .str z, .ref lk, v] ∧ StO CT H a sl fs n ∧ n ≤ 10 ∧ H fs = some (.dK kvs) ∧ kvs.length ≤ 10 ∧ okName z = true ∧ valV kvs (.inr z) = none ∧ SqT K H lk [] ∧ TmAt K H v t ∧
  t.depth ≤ 30 ∧ t.uses ≤ 60 ∧ TbAt K CF H t kvs kn ∧ kin kn false t = some k ∧ k.word = "fun" ∧ KnOk kn ∧ WbAt K CF H t kvs wb ∧ WOk wb t ∧
  (fits wb t = true → ∀ r H' fs' o, SameX sl H H' → KdAt K H' r k → StO CT H' a sl fs' (n + 1) → H' fs' = some (.dK (kvs ++ [((.inr z : Key), .ref o)])) → FnO K CF H' o t (some k) (some (t.wh wb)) 1 → Q r H') ∧ (fits wb t = false → ∀ H', Same H H' → E (.ref DM) none H')
theorem has_tell (T : Txt w K mg) (O : Own w K mg CS CF CT) {DM DK DN : Addr} (R : Err w K mg DM DK DN) : HasM P w K mg base (CX P w) 170 CT "tell" (spTell K CF CT DM) := by
  obtain ⟨f, fd, D⟩ := O.m_Stand_tell
  have c_Stand : Cls K CT := O.c_Stand.elim fun _ h => h.elim fun _ h => h.cl
  have c_Function : Cls K CF := O.c_Function.elim fun _ h => h.elim fun _ h => h.cl
  have h_is_name := has_is_name (P := P) (base := base) T
  have h_Function_init := has_Function (P := P) (base := base) T O
  have h_give_kind := has_give_kind (P := P) (base := base) T O
  have h_give_whole := has_give_whole (P := P) (base := base) T O R
  refine D.okX sc_Stand_tell (fun vs H Q E h => ?_) (fun cdv A outer s H vs Q E hr h => ?_)
  · obtain ⟨_, _, _, _, _, _, _, _, _, _, _, _, rfl, _⟩ := h
    rfl
  have hu := hu_of hr
  obtain ⟨a, z, lk, v, sl, fs, n, kvs, t, k, kn, wb, rfl, hst, hn, hfs, hkl, hz, hv, hlk, ht, hl, hus, htb, hki, hkw, hko, hwb, hok, q, qe⟩ := h
  obtain ⟨dx, ds, ha, hsl, hdl⟩ := id hst
  refine ⟨_, (pss_cons (ps_set (i := 4) sc_Stand_tell.nd rfl (Or.inl rfl) (pe_callTy call_dictD (by rfl) T.b_dict bt_dict (pa_cons (pe_ix ix_list (pe_fld (pv 0) rfl) (pe_un un_neg pe_int) (fun _ _ => rfl)) pa_nil))) (pss_cons (ps_if (pt_not (pt_val (pe_c h_is_name hr (by omega) (pa_cons (pv 1) pa_nil)))) (pss_one ps_never) pss_nil) (pss_cons (ps_if (pt_cmp (pc_din hu (pv 1) (pv 4))) (pss_one ps_never) pss_nil) (pss_cons (ps_set (i := 5) sc_Stand_tell.nd rfl (Or.inl rfl) (pe_new h_Function_init hr (by omega) (pa_cons (pv 2) (pa_cons (pv 3) (pa_cons pe_int pa_nil))))) (pss_cons (ps_expr (pe_c h_give_kind hr (by omega) (pa_cons (pv 4) (pa_cons (pv 5) pa_nil)))) (pss_cons (ps_expr (pe_cX (takes_of rfl rfl rfl rfl) h_give_whole hr (by omega) (pa_cons (pv 4) (pa_cons (pv 5) pa_nil)))) (pss_cons (ps_dput hu (pv 4) (pv 1) (pv 5) rfl) (pss_cons (ps_expr (pe_bm PySem.F.plainAttrs_list PySem.F.slot_list_append PySem.F.type_list_append mt_append (pe_fld (pv 0) rfl) (pa_cons (pv 4) pa_nil))) (pss_one (ps_ret (pe_fld (pv 5) rfl))))))))))), ?_⟩
  refine ⟨_, rfl, a, CT, dx, _, _, rfl, ha, c_Stand, O.n_CT_states, rfl, _, rfl, sl, _, _, _, rfl, rfl, .of hsl, at_last, fs, kvs, rfl, .of hfs, fun g hg => ?_⟩
  have s1 := same_new hg (.dK kvs)
  refine ⟨_, rfl, z, rfl, hz, fun r H2 s2 er => ?_⟩
  subst er
  refine ⟨true, rfl, iteF ?_⟩
  have sA := s1.trans s2
  have gA := s2 _ _ (upd_same (H := H) (a := g) (o := .dK kvs))
  refine ⟨_, rfl, _, rfl, g, _, rfl, DGet.k (k := (.inr z : Key)) gA, _, rfl, ?_⟩
  rw [hv]
  refine iteF ?_
  refine ⟨_, rfl, _, rfl, fun o dxo no nd ne => ⟨o, dxo, lk, v, t, 1, rfl, upd_same, ?_⟩⟩
  have sB : Same H2 (upd (upd H2 dxo (.own o)) o (.ins CF dxo [])) := fun b u e => by rw [upd_ne (ne_of_none e no), upd_ne (ne_of_none e nd)]; exact e
  have sAB := sA.trans sB
  refine ⟨(tps sAB).seq hlk, ht.same sAB, hl, hus, fun H3 x3 fo3 => ⟨rfl, ?_⟩⟩
  have s3 : Same H2 H3 := SameX.new sB no x3
  have sC := sA.trans s3
  have gC := s3 _ _ gA
  refine ⟨_, rfl, _, rfl, g, o, kvs, t, none, none, 1, kn, k, rfl, gC, fo3, htb.same sC, hl, hki, hkw, hko, fun H4 x4 fo4 => ?_⟩
  have s4 : Same H2 H4 := SameX.new s3 no x4
  have sD := sA.trans s4
  have gD := s4 _ _ gA
  refine ⟨_, rfl, _, rfl, g, o, kvs, t, some k, none, 1, kn, wb, rfl, gD, fo4, htb.same sD, hwb.same sD, hok, hl, fun hf H5 x5 fo5 => ?_, fun hf H5 s5 => qe hf _ (sD.trans s5)⟩
  have s5 : Same H2 H5 := SameX.new s4 no x5
  have sE := sA.trans s5
  have gE := s5 _ _ gA
  refine ⟨_, rfl, _, rfl, _, rfl, g, _, rfl, DPut.k (k := (.inr z : Key)) gE (Nat.lt_of_le_of_lt (by omega : kvs.length ≤ 1000) (by decide)), ?_⟩
  rw [putK_new hv]
  have sF := same_mut (o := .dK (kvs ++ [((.inr z : Key), V.ref o)])) sE hg
  have hgo : o ≠ g := fun e => by rw [e, gA] at no; cases no
  have fo6 : FnO K CF (upd H5 g (.dK (kvs ++ [((.inr z : Key), V.ref o)]))) o t (some k) (some (t.wh wb)) 1 := fo5.move (tps_mut gE rfl) fun u e => by rw [upd_ne hgo]; exact e
  have hslF := sF _ _ hsl
  refine ⟨_, rfl, a, CT, dx, _, _, rfl, sF _ _ ha, c_Stand, O.n_CT_states, rfl, .inl ⟨rfl, _, .of hslF⟩, _, rfl, sl, _, _, rfl, rfl, hslF, ?_, ?_⟩
  · rw [List.length_append]
    exact Nat.lt_of_le_of_lt (by simp; omega : _ ≤ 1000) (by decide)
  have hgsl : g ≠ sl := Ne.symm (ne_of_none hsl hg)
  have haslx : a ≠ sl := ne_of ha hsl (by intro z; cases z)
  have tG : Tps (upd H5 g (.dK (kvs ++ [((.inr z : Key), V.ref o)]))) (upd (upd H5 g (.dK (kvs ++ [((.inr z : Key), V.ref o)]))) sl (.lst (ds ++ [.ref fs] ++ [.ref g]))) := tps_mut hslF rfl
  obtain ⟨u6, hu6, _⟩ := fo6.ins
  have hosl : o ≠ sl := fun e => by rw [e, sA _ _ hsl] at no; cases no
  have fo7 : FnO K CF (upd (upd H5 g (.dK (kvs ++ [((.inr z : Key), V.ref o)]))) sl (.lst (ds ++ [.ref fs] ++ [.ref g]))) o t (some k) (some (t.wh wb)) 1 := fo6.move tG fun u e => by rw [upd_ne hosl]; exact e
  obtain ⟨dx7, lk7, v7, ot7, vl7, vb7, f1, f2, f3, f4, f5, f6⟩ := id fo7
  refine ⟨_, rfl, o, CF, dx7, _, _, rfl, f1, c_Function, O.n_CF_leads, rfl, ?_⟩
  refine q hf _ _ g o ((SameX.of sF).trans SameX.upd) f5 ⟨dx, ds ++ [.ref fs], ?_, upd_same, by rw [List.length_append]; simp; omega⟩ ?_ fo7
  · rw [upd_ne haslx]; exact sF _ _ ha
  · rw [upd_ne hgsl]; exact upd_same
end
end K70
namespace K70
open PySem PySem.Spec PyProof.Rows L2
theorem uses_plain : ∀ {t : Tm}, t.plain = true → t.uses = 0
  | .nm, _ => rfl
  | .one, _ => rfl
  | .told, h => by cases h
  | .fn t, h => uses_plain (t := t) h
  | .call s t, h => by
    have h' : s.plain = true ∧ t.plain = true := by simpa [Tm.plain] using h
    show s.uses + t.uses = 0
    rw [uses_plain h'.1, uses_plain h'.2]
  | .plus s t, h => by
    have h' : s.plain = true ∧ t.plain = true := by simpa [Tm.plain] using h
    show s.uses + t.uses = 0
    rw [uses_plain h'.1, uses_plain h'.2]
  | .pair s t, h => by
    have h' : s.plain = true ∧ t.plain = true := by simpa [Tm.plain] using h
    show s.uses + t.uses = 0
    rw [uses_plain h'.1, uses_plain h'.2]
  | .left t, h => uses_plain (t := t) h
theorem same_unlock {H H' : Hp} {d : Addr} {u w : HO} (h : H d = some u) (s : Same (upd H d w) H') : Same H (upd H' d u) := fun b v e => by
  by_cases hb : b = d
  · subst hb
    rw [h] at e
    cases e
    exact upd_same
  · rw [upd_ne hb]
    exact s b v (by rw [upd_ne hb]; exact e)
abbrev kOne : Key := .inr "one"
abbrev kOther : Key := .inr "other"
theorem ne_keys : kOther ≠ kOne := by decide +kernel
theorem val_one {u v : V} : valV [(kOne, u), (kOther, v)] kOne = some u := valV_pos rfl
theorem val_other {u v : V} : valV [(kOne, u), (kOther, v)] kOther = some v := (valV_neg (Ne.symm ne_keys)).trans (valV_pos rfl)
theorem put_one {u v y : V} : putK [(kOne, u), (kOther, v)] kOne y = [(kOne, y), (kOther, v)] := by
  unfold putK
  rw [if_pos (by rw [valV_any, val_one]; rfl), List.map_cons, List.map_cons, if_pos rfl, if_neg ne_keys]
  rfl
theorem put_other {u v y : V} : putK [(kOne, u), (kOther, v)] kOther y = [(kOne, u), (kOther, y)] := by
  unfold putK
  rw [if_pos (by rw [valV_any, val_other]; rfl), List.map_cons, List.map_cons, if_neg (Ne.symm ne_keys), if_pos rfl]
  rfl
section
variable {P : Program} {w : World} {K : PySem.W.Frag} {mg : Str → Option Value} {base : Heap} {CS CF CT : Addr}
def spRetell (K : PySem.W.Frag) (CF CT DM : Addr) : Sp := fun vs H Q E => ∃ a lk v sl fs n t k o1 t1 ld1 bo1 n1 o2 t2 ld2 bo2 n2 k2, vs = [.ref a, .str "one", .ref lk, v] ∧ StO CT H a sl fs n ∧ n ≤ 10 ∧ H fs = some (.dK [(kOne, .ref o1), (kOther, .ref o2)]) ∧ SqT K H lk [] ∧ TmAt K H v t ∧
  t.depth ≤ 30 ∧ t.plain = true ∧ kin none false t = some k ∧ k.word = "fun" ∧ k.depth ≤ 30 ∧ fits none t = true ∧ FnO K CF H o1 t1 ld1 bo1 n1 ∧ t1.uses = 0 ∧ FnO K CF H o2 t2 ld2 bo2 n2 ∧ t2.uses ≠ 0 ∧ t2.uses ≤ 60 ∧ t2.depth ≤ 30 ∧ kin (some k) false t2 = some k2 ∧ k2.word = "fun" ∧
  (fits (some t) t2 = true → ∀ r H' fs' p1 p2, SameX sl H H' → KdAt K H' r k → StO CT H' a sl fs' (n + 1) → H' fs' = some (.dK [(kOne, .ref p1), (kOther, .ref p2)]) → FnO K CF H' p1 t (some k) (some t) (n1 + 1) → FnO K CF H' p2 t2 (some k2) (some (t2.wh (some t))) (n2 + 1) → Q r H') ∧
  (fits (some t) t2 = false → ∀ H', Same H H' → E (.ref DM) none H')
theorem has_retell (T : Txt w K mg) (O : Own w K mg CS CF CT) {DM DK DN : Addr} (R : Err w K mg DM DK DN) : HasM P w K mg base (CX P w) 170 CT "retell" (spRetell K CF CT DM) := by
  obtain ⟨f, fd, D⟩ := O.m_Stand_retell
  have c_Stand : Cls K CT := O.c_Stand.elim fun _ h => h.elim fun _ h => h.cl
  have c_Function : Cls K CF := O.c_Function.elim fun _ h => h.elim fun _ h => h.cl
  have h_Stand_function := has_St_function (P := P) (base := base) T O
  have h_Function_init := has_Function (P := P) (base := base) T O
  have h_reach_of := has_reach_of (P := P) (base := base) T O
  have h_by_uses := has_by_uses (P := P) (base := base) T O
  have h_kinds_anew := has_kinds_anew (P := P) (base := base) T O
  have h_give_kind := has_give_kind (P := P) (base := base) T O
  have h_give_whole := has_give_whole (P := P) (base := base) T O R
  refine D.okX sc_Stand_retell (fun vs H Q E h => ?_) (fun cdv A outer s H vs Q E hr h => ?_)
  · obtain ⟨_, _, _, _, _, _, _, _, _, _, _, _, _, _, _, _, _, _, _, rfl, _⟩ := h
    rfl
  have hu := hu_of hr
  obtain ⟨a, lk, v, sl, fs, n, t, k, o1, t1, ld1, bo1, n1, o2, t2, ld2, bo2, n2, k2, rfl, hst, hn, hfs, hlk, ht, hl, hpl, hki, hkw, hkd, hft, hfo1, hu1, hfo2, hu2, hu2', hl2, hki2, hkw2, q, qe⟩ := h
  obtain ⟨dx, ds, ha, hsl, hdl⟩ := id hst
  have hu0 := uses_plain hpl
  refine ⟨_, (pss_cons (ps_set (i := 4) sc_Stand_retell.nd rfl (Or.inr rfl) (pe_ix ix_list (pe_fld (pv 0) rfl) (pe_un un_neg pe_int) (fun _ _ => rfl))) (pss_cons (ps_set (i := 5) sc_Stand_retell.nd rfl (Or.inl rfl) (pe_new h_Function_init hr (by omega) (pa_cons (pv 2) (pa_cons (pv 3) (pa_cons (pe_op op_add (pe_fld (pe_m h_Stand_function c_Stand hr (by omega) (pv 0) (pa_cons (pv 1) pa_nil)) rfl) pe_int) pa_nil))))) (pss_cons (ps_if (pt_cmpR op_in_seq (pv 1) (pe_c h_reach_of hr (by omega) (pa_cons (pv 4) (pa_cons (pe_fld (pv 5) rfl) pa_nil))) rfl) (pss_one ps_never) pss_nil) (pss_cons (ps_expr (pe_c h_give_kind hr (by omega) (pa_cons (pv 4) (pa_cons (pv 5) pa_nil)))) (pss_cons (ps_set (i := 6) sc_Stand_retell.nd rfl (Or.inl rfl) (pe_callTy call_dictD (by rfl) T.b_dict bt_dict (pa_cons (pv 4) pa_nil))) (pss_cons (ps_dput hu (pv 6) (pv 1) (pv 5) rfl) (pss_cons (ps_lock (ps_setLc (i := 7) (own := [("other", 8)]) rfl sc_Stand_retell.nd rfl rfl (sw_true rfl rfl rfl (by decide +kernel)) (pi_keys (pv 4)) (blkOk_by (own := [("other", 8)]) (N := ["self", "name", "looked", "term", "before", "one", "functions", "others", "other", "kept", "broken"]) (sc := defScope s_Stand_retell) (by decide +kernel)) (fun _ _ _ _ _ => (pg_name (i := 8) sc_Stand_retell.nd rfl (Or.inl rfl) (hf := .inr rfl))) (fun _ _ _ _ _ => pts_one (PW.pt (pw_and (pt_cmpR op_ne (pv 8) (pv 1) (nomark _)) (pw_and1 (pt_cmpR (r := rIn K false) op_in_seq (pv 1) (pe_c h_reach_of hr (by omega) (pa_cons (pv 4) (pa_cons (pe_lst (pa_cons (pv 8) pa_nil)) pa_nil))) rfl))))) (fun _ _ _ _ _ => (pv 8)))) (pss_cons (ps_for (passes_of rfl) rfl (pi_list (pv 7)) (pg_name (i := 8) sc_Stand_retell.nd rfl (Or.inl rfl)) (pss_cons (ps_set (i := 9) sc_Stand_retell.nd rfl (Or.inl rfl) (pe_dget hu (pv 4) (pv 8) (fun _ _ => rfl))) (pss_one (ps_dput hu (pv 6) (pv 8) (pe_new h_Function_init hr (by omega) (pa_cons (pe_fld (pv 9) rfl) (pa_cons (pe_fld (pv 9) rfl) (pa_cons (pe_op op_add (pe_fld (pv 9) rfl) pe_int) pa_nil)))) rfl)))) (pss_cons (ps_set (i := 7) sc_Stand_retell.nd rfl (Or.inl rfl) (pe_c h_by_uses hr (by omega) (pa_cons (pv 6) (pa_cons (pv 7) pa_nil)))) (pss_cons (ps_set (i := 10) sc_Stand_retell.nd rfl (Or.inr rfl) (pe_c h_kinds_anew hr (by omega) (pa_cons (pv 6) (pa_cons (pv 7) pa_nil)))) (pss_cons (ps_if (pt_cmpR (op_neD hr.units) (pv 10) (pe_lst pa_nil) (nomark _)) (pss_one ps_never) pss_nil) (pss_cons (ps_for (passes_of rfl) rfl (pi_list (pe_op op_cat (pe_lst (pa_cons (pv 1) pa_nil)) (pv 7))) (pg_name (i := 8) sc_Stand_retell.nd rfl (Or.inl rfl)) (pss_one (ps_expr (pe_cX (takes_of rfl rfl rfl rfl) h_give_whole hr (by omega) (pa_cons (pv 6) (pa_cons (pe_dget hu (pv 6) (pv 8) (fun _ _ => rfl)) pa_nil)))))) (pss_cons (ps_expr (pe_bm PySem.F.plainAttrs_list PySem.F.slot_list_append PySem.F.type_list_append mt_append (pe_fld (pv 0) rfl) (pa_cons (pv 6) pa_nil))) (pss_one (ps_ret (pe_fld (pv 5) rfl)))))))))))))))), ?_⟩
  refine ⟨_, rfl, a, CT, dx, _, _, rfl, ha, c_Stand, O.n_CT_states, rfl, _, rfl, sl, _, _, _, rfl, rfl, .of hsl, at_last, ?_⟩
  obtain ⟨dxp, lkp, vp, otp, vlp, vbp, p1, p2, p3, p4, p5, p6⟩ := id hfo1
  refine ⟨_, rfl, _, rfl, _, rfl, a, dx, _, rfl, ha, rfl, _, rfl, a, _, sl, fs, n, _, o1, rfl, hst, hfs, val_one, o1, CF, dxp, _, _, rfl, p1, c_Function, O.n_CF_times, rfl, _, _, rfl, rfl, fun o dxo no nd ne => ⟨o, dxo, lk, v, t, n1 + 1, rfl, upd_same, ?_⟩⟩
  have sB : Same H (upd (upd H dxo (.own o)) o (.ins CF dxo [])) := fun b u e => by rw [upd_ne (ne_of_none e no), upd_ne (ne_of_none e nd)]; exact e
  refine ⟨(tps sB).seq hlk, ht.same sB, hl, by omega, fun H3 x3 fo3 => ⟨rfl, ?_⟩⟩
  have s3 : Same H H3 := SameX.new sB no x3
  obtain ⟨dx3, lk3, v3, ot3, vl3, vb3, q1, q2, q3, q4, q5, q6⟩ := id fo3
  rw [othV0 hu0] at q4
  -- if name in reach_of(before, one.others)
  refine ⟨_, rfl, _, rfl, _, rfl, o, CF, dx3, _, _, rfl, q1, c_Function, O.n_CF_others, rfl, .inl ⟨.ref fs, ot3, rfl, q4, fun r H4 s4 ⟨l, er, hl4⟩ => ?_⟩⟩
  subst er
  refine ⟨l, [], rfl, .inl (.of hl4), rfl, rfl, _, rfl, ifF rfl ?_⟩
  have s34 := s3.trans s4
  have fo4 := fo3.same s4
  -- give_kind(before, one)
  refine ⟨_, rfl, _, rfl, fs, o, _, t, none, none, n1 + 1, none, k, rfl, s34 _ _ hfs, fo4, hu0, hl, hki, hkw, (fun _ e => by cases e), fun H5 x5 fo5 => ?_⟩
  have s5 : Same H H5 := SameX.new s34 no x5
  -- functions = dict(before); functions[name] = one
  refine ⟨_, rfl, fs, _, rfl, .of (s5 _ _ hfs), fun g hg => ?_⟩
  have s6 := updN (o := .dK [(kOne, .ref o1), (kOther, .ref o2)]) s5 hg
  have ng : H g = none := s5.free hg
  refine ⟨_, rfl, _, rfl, _, rfl, g, _, rfl, DPut.k (k := kOne) upd_same (show 2 < sizeLine by decide), ?_⟩
  rw [put_one, upd_upd]
  have s7 := updN (o := .dK [(kOne, .ref o), (kOther, .ref o2)]) s5 hg
  have fo7 := fo5.same (same_new hg (.dK [(kOne, .ref o), (kOther, .ref o2)]))
  have hgo : g ≠ o := fun e => by
    obtain ⟨u, hu, _⟩ := fo5.ins
    rw [e, hu] at hg
    cases hg
  -- others = [..]
  refine ⟨fs, _, s7 _ _ hfs, trivial, fun od => ?_⟩
  refine ⟨_, rfl, fs, od, rfl, .inl ⟨_, upd_same, fun D hD => ?_⟩⟩
  refine lc_flt (walk_keys (kvs := [(kOne, V.ref o1), (kOther, V.ref o2)])) (fun i => decide (i = 1)) (fun i y _ => y = .str "other") hD (show 2 ≤ 1000 by decide) (fun _ _ _ _ _ h => h) (fun H' sh => sh _ _ upd_same) ?_ ?_
  · rintro i x H8 H9 Qk Qn hi s8 ⟨rfl, kx, vx, hx, rfl⟩ qk qn
    have hrd := s8 _ _ (upd_same (H := upd H5 g (.dK [(kOne, .ref o), (kOther, .ref o2)])) (a := fs) (o := .frz od (.dK [(kOne, .ref o1), (kOther, .ref o2)])))
    match i, hi with
    | 0, _ =>
      cases hx
      exact ⟨rfl, _, rfl, _, rfl, rfl, _, rfl, ifF rfl (iteF (qn rfl _ (Same.refl _)))⟩
    | 1, _ =>
      cases hx
      refine ⟨rfl, _, rfl, _, rfl, rfl, _, rfl, ifT (by decide +kernel) ?_⟩
      refine ⟨_, rfl, _, rfl, _, rfl, sz1, fun l2 nl2 => ?_⟩
      have t8 : Tps H (upd (upd H5 g (.dK [(kOne, .ref o), (kOther, .ref o2)])) fs (.frz od (.dK [(kOne, .ref o1), (kOther, .ref o2)]))) := (tps s7).trans (tps_mut (s7 _ _ hfs) rfl)
      have mv : ∀ {p : Addr} {tt : Tm} {ll : Option Kd} {bb : Option Tm} {nn : Int}, FnO K CF H p tt ll bb nn → FnO K CF (upd H9 l2 (.lst [.str "other"])) p tt ll bb nn := by
        intro p tt ll bb nn hp
        have hpf : p ≠ fs := fun e => by
          obtain ⟨_, _, _, _, _, _, h1, _⟩ := hp
          rw [e, hfs] at h1
          cases h1
        exact hp.move (t8.trans (tps (s8.trans (same_new nl2 _)))) fun u e => (s8.trans (same_new nl2 _)) _ _ (by rw [upd_ne hpf]; exact s7 _ _ e)
      refine .inr ⟨fs, l2, _, o1, t1, ld1, bo1, n1, o2, t2, ld2, bo2, n2, rfl, upd_same, .inr ⟨od, (same_new nl2 _) _ _ hrd⟩, val_one, val_other, mv hfo1, mv hfo2, hu1, hu2, fun r H10 s10 ⟨l3, er, hl3⟩ => ?_⟩
      subst er
      refine ⟨l3, _, rfl, .inl (.of hl3), rfl, rfl, _, rfl, ifT (by decide +kernel) ?_⟩
      exact ⟨_, rfl, qk rfl _ _ ((same_new nl2 (.lst [.str "other"])).trans s10) rfl⟩
    | j + 2, hi => exact absurd hi (by show ¬ (j + 2 < 2); omega)
  · intro H8 ys s8 e p
    obtain ⟨y, rfl, rfl⟩ := Paired.one (show Paired _ ys [1] from p)
    refine ⟨s8 _ _ upd_same, ?_⟩
    have s9' : Same (upd H5 g (.dK [(kOne, .ref o), (kOther, .ref o2)])) (upd H8 fs (.dK [(kOne, .ref o1), (kOther, .ref o2)])) := same_unlock (s7 _ _ hfs) s8
    have s9 := s7.trans s9'
    have fo9 := fo7.same s9'
    have g9 := s9' _ _ (upd_same (H := H5) (a := g) (o := .dK [(kOne, .ref o), (kOther, .ref o2)]))
    have hDf : D ≠ fs := fun z => by
      rw [z, upd_same] at hD
      cases hD
    have D9 : (upd H8 fs (.dK [(kOne, .ref o1), (kOther, .ref o2)])) D = some (.lst [.str "other"]) := by rw [upd_ne hDf]; exact e
    have nD : H D = none := s7.free (by rw [upd_ne hDf] at hD; exact hD)
    generalize upd H8 fs (.dK [(kOne, .ref o1), (kOther, .ref o2)]) = H9 at *
    -- for other in others
    refine ⟨_, rfl, D, rfl, ⟨_, .of D9⟩, ?_⟩
    refine for_one (walk_list (xs := [V.str "other"])) (fun σ H' => ∃ p, Same H H' ∧ H' D = some (.lst [.str "other"]) ∧ H' g = some (.dK [(kOne, .ref o), (kOther, .ref p)]) ∧ FnO K CF H' o t (some k) none (n1 + 1) ∧ FnO K CF H' p t2 none none (n2 + 1) ∧ H p = none ∧ p ≠ o ∧ ∃ u8 u9, σ = [some (.ref a), some (.str "one"), some (.ref lk), some v, some (.ref fs), some (.ref o), some (.ref g), some (.ref D), u8, u9, none]) (.of D9) (fun _ _ h => h.elim fun _ h => .of h.2.1) ?_ ?_
    · rintro x H' ⟨rfl, hx⟩
      cases hx
      obtain ⟨dx2, lk2, w2, ot2, vl2, vb2, r1, r2, r3, r4, r5, r6⟩ := id hfo2
      refine ⟨_, rfl, _, rfl, fs, _, rfl, dget_rd (.of (s9 _ _ hfs)) val_other, ?_⟩
      refine ⟨_, rfl, o2, CF, dx2, _, _, rfl, s9 _ _ r1, c_Function, O.n_CF_looks, rfl, _, rfl, o2, CF, dx2, _, _, rfl, s9 _ _ r1, c_Function, O.n_CF_term, rfl, _, rfl, o2, CF, dx2, _, _, rfl, s9 _ _ r1, c_Function, O.n_CF_times, rfl, _, _, rfl, rfl, fun p dxp np nd ne => ⟨p, dxp, lk2, w2, t2, n2 + 1, rfl, upd_same, ?_⟩⟩
      have sC : Same H' (upd (upd H' dxp (.own p)) p (.ins CF dxp [])) := fun b u e => by rw [upd_ne (ne_of_none e np), upd_ne (ne_of_none e nd)]; exact e
      refine ⟨(tps (s9.trans sC)).seq r2, r3.same (s9.trans sC), hl2, hu2', fun H11 x11 fo11 => ⟨rfl, ?_⟩⟩
      have s11 : Same H' H11 := SameX.new sC np x11
      refine ⟨_, rfl, _, rfl, g, _, rfl, DPut.k (k := kOther) (s11 _ _ g9) (show 2 < sizeLine by decide), ?_⟩
      rw [put_other]
      have tm := tps_mut (o := .dK [(kOne, .ref o), (kOther, .ref p)]) (s11 _ _ g9) rfl
      have hog : o ≠ g := Ne.symm hgo
      have hpg : p ≠ g := fun e => by rw [e, g9] at np; cases np
      have hDg : D ≠ g := ne_of D9 g9 (by intro z; cases z)
      have hpo : p ≠ o := fun e => by
        obtain ⟨u, hu, _⟩ := fo9.ins
        rw [e, hu] at np
        cases np
      refine ⟨p, same_mut (s9.trans s11) ng, ?_, upd_same, (fo9.same s11).move tm fun u e => (upd_ne hog).trans e, fo11.move tm fun u e => (upd_ne hpg).trans e, s9.free np, hpo, _, _, rfl⟩
      rw [upd_ne hDg]
      exact s11 _ _ D9
    · rintro σ H10 ⟨p, s10, D10, g10, fo10, fp10, np, hpo, u8, u9, rfl⟩
      -- others = by_uses(functions, others)
      refine ⟨_, rfl, _, rfl, g, D, _, p, t2, none, none, n2 + 1, rfl, D10, g10, val_other, fp10, hu2, fun r H11 s11 ⟨l2, er, nl2, hl2'⟩ => ?_⟩
      subst er
      have s11' := s10.trans s11
      have g11 := s11 _ _ g10
      have fo11 := fo10.same s11
      have fp11 := fp10.same s11
      -- broken = kinds_anew(functions, others)
      refine ⟨_, rfl, _, rfl, g, l2, _, p, t2, none, none, n2 + 1, some k, k2, rfl, hl2', g11, val_other, fp11, hu2, ⟨hu2, o, t, none, n1 + 1, val_one, fo11⟩, hl2, hki2, hkw2, (fun kk e => by cases e; exact hkd), fun H12 lb x12 fp12 nlb hlb => ?_⟩
      have s12 : Same H H12 := SameX.new s11' np x12
      obtain ⟨up, hup, hupT⟩ := fp11.ins
      have t12 := x12.tps hup hupT
      have g12 : H12 g = some (.dK [(kOne, .ref o), (kOther, .ref p)]) := x12 _ _ (fun e => by
        obtain ⟨_, _, _, _, _, _, h1, _⟩ := fp11
        rw [e, h1] at g11
        cases g11) g11
      have hl12 : H12 l2 = some (.lst [.str "other"]) := x12 _ _ (fun e => by
        obtain ⟨_, _, _, _, _, _, h1, _⟩ := fp11
        rw [← e, hl2'] at h1
        cases h1) hl2'
      have fo12 : FnO K CF H12 o t (some k) none (n1 + 1) := fo11.move t12 fun u e => x12 _ _ (Ne.symm hpo) e
      -- if broken != []
      refine ⟨_, rfl, sz0, fun pp hpp => ⟨.list [], .list [], .lst (.of ((same_new hpp (.lst [])) _ _ hlb)) .nil, .lst (.of upd_same) .nil, by decide, by decide, _, rfl, ifF rfl ?_⟩⟩
      have s13 := same_new hpp (.lst [])
      -- for other in [name] + others
      refine ⟨_, rfl, sz1, fun lx nlx => ?_⟩
      have s14 := same_new nlx (.lst [.str "one"])
      refine ⟨_, rfl, lx, l2, [.str "one"], [.str "other"], rfl, rfl, upd_same, (s13.trans s14) _ _ hl12, (show 1 + 1 ≤ sizeLine by decide), fun ly nly => ⟨ly, rfl, ⟨_, .of upd_same⟩, ?_⟩⟩
      have s15 := s13.trans (s14.trans (same_new nly (.lst ([.str "one"] ++ [.str "other"]))))
      have s15H := s12.trans s15
      have nly0 : H ly = none := (s12.trans (s13.trans s14)).free nly
      refine for_it (walk_list (xs := [V.str "one", V.str "other"])) (fun i σ H' => Same H H' ∧ H' ly = some (.lst [.str "one", .str "other"]) ∧ H' g = some (.dK [(kOne, .ref o), (kOther, .ref p)]) ∧ FnO K CF H' o t (some k) (if i = 0 then none else some t) (n1 + 1) ∧ FnO K CF H' p t2 (some k2) (if i = 2 then some (t2.wh (some t)) else none) (n2 + 1) ∧ (i = 2 → fits (some t) t2 = true) ∧
        ∃ u8 u9, σ = [some (.ref a), some (.str "one"), some (.ref lk), some v, some (.ref fs), some (.ref o), some (.ref g), some (.ref l2), u8, u9, some (.ref lb)]) ?_ ?_ ?_ ?_
      · exact ⟨s15H, upd_same, s15 _ _ g12, fo12.same s15, fp12.same s15, (fun e => by cases e), _, _, rfl⟩
      · exact fun i σ H' _ h => .of h.2.1
      · rintro i x σ H16 H17 hi ⟨s16, ly16, g16, fo16, fp16, hff, u8, u9, rfl⟩ ⟨rfl, hx⟩
        match i, hi with
        | 0, _ =>
          cases hx
          rw [if_pos rfl] at fo16
          rw [if_neg (by decide : ¬ 0 = 2)] at fp16
          refine ⟨_, rfl, _, rfl, _, rfl, g, _, rfl, dget_rd (.of g16) val_one, ?_⟩
          refine ⟨g, o, _, t, some k, none, n1 + 1, none, none, rfl, g16, fo16, hu0, hu0, ⟨fun _ => hpl, (fun b e => by cases e)⟩, hl, fun _ H18 x18 fo18 => ?_, fun hf => ?_⟩
          · rw [Tm.wh_plain hpl] at fo18
            obtain ⟨uo, huo, huoT⟩ := fo16.ins
            have t18 := x18.tps huo huoT
            have hgo' : g ≠ o := hgo
            have hlyo : ly ≠ o := fun e => by
              obtain ⟨_, _, _, _, _, _, h1, _⟩ := fo16
              rw [e, h1] at ly16
              cases ly16
            exact ⟨SameX.new s16 no x18, x18 _ _ hlyo ly16, x18 _ _ hgo' g16, fo18, fp16.move t18 fun u e => x18 _ _ hpo e, (fun e => by cases e), _, _, rfl⟩
          · rw [hft] at hf
            cases hf
        | 1, _ =>
          cases hx
          rw [if_neg (by decide : ¬ 1 = 0)] at fo16
          rw [if_neg (by decide : ¬ 1 = 2)] at fp16
          refine ⟨_, rfl, _, rfl, _, rfl, g, _, rfl, dget_rd (.of g16) val_other, ?_⟩
          refine ⟨g, p, _, t2, some k2, none, n2 + 1, some k, some t, rfl, g16, fp16, ⟨hu2, o, t, some t, n1 + 1, val_one, fo16⟩, ⟨hu2, o, t, some k, n1 + 1, val_one, fo16⟩, ⟨(fun e => by cases e), (fun b e => by cases e; exact ⟨hpl, hl⟩)⟩, hl2, fun hf H18 x18 fp18 => ?_, fun hf H18 s18 => qe hf _ (s16.trans s18)⟩
          obtain ⟨up', hup', hupT'⟩ := fp16.ins
          have t18 := x18.tps hup' hupT'
          have hgp : g ≠ p := fun e => by
            obtain ⟨_, _, _, _, _, _, h1, _⟩ := fp16
            rw [e, h1] at g16
            cases g16
          have hlyp : ly ≠ p := fun e => by
            obtain ⟨_, _, _, _, _, _, h1, _⟩ := fp16
            rw [e, h1] at ly16
            cases ly16
          exact ⟨SameX.new s16 np x18, x18 _ _ hlyp ly16, x18 _ _ hgp g16, fo16.move t18 fun u e => x18 _ _ (Ne.symm hpo) e, fp18, fun _ => hf, _, _, rfl⟩
        | j + 2, hi => exact absurd hi (by show ¬ (j + 2 < 2); omega)
      · rintro σ H16 ⟨s16, ly16, g16, fo16, fp16, hff, u8, u9, rfl⟩
        replace fo16 : FnO K CF H16 o t (some k) (some t) (n1 + 1) := fo16
        replace fp16 : FnO K CF H16 p t2 (some k2) (some (t2.wh (some t))) (n2 + 1) := fp16
        have hf := hff rfl
        have hsl16 := s16 _ _ hsl
        -- self.states.append(functions)
        refine ⟨_, rfl, a, CT, dx, _, _, rfl, s16 _ _ ha, c_Stand, O.n_CT_states, rfl, .inl ⟨rfl, _, .of hsl16⟩, _, rfl, sl, _, _, rfl, rfl, hsl16, ?_, ?_⟩
        · rw [List.length_append]
          exact Nat.lt_of_le_of_lt (by simp; omega : _ ≤ 1000) (by decide)
        have hgsl : g ≠ sl := Ne.symm (ne_of_none hsl ng)
        have haslx : a ≠ sl := ne_of ha hsl (by intro z; cases z)
        have hosl : o ≠ sl := Ne.symm (ne_of_none hsl no)
        have hpsl : p ≠ sl := Ne.symm (ne_of_none hsl np)
        have tG : Tps H16 (upd H16 sl (.lst (ds ++ [.ref fs] ++ [.ref g]))) := tps_mut hsl16 rfl
        have fo17 : FnO K CF (upd H16 sl (.lst (ds ++ [.ref fs] ++ [.ref g]))) o t (some k) (some t) (n1 + 1) := fo16.move tG fun u e => (upd_ne hosl).trans e
        have fp17 : FnO K CF (upd H16 sl (.lst (ds ++ [.ref fs] ++ [.ref g]))) p t2 (some k2) (some (t2.wh (some t))) (n2 + 1) := fp16.move tG fun u e => (upd_ne hpsl).trans e
        obtain ⟨dx7, lk7, v7, ot7, vl7, vb7, z1, z2, z3, z4, z5, z6⟩ := id fo17
        refine ⟨_, rfl, o, CF, dx7, _, _, rfl, z1, c_Function, O.n_CF_leads, rfl, ?_⟩
        refine q hf _ _ g o p ((SameX.of s16).trans SameX.upd) z5 ⟨dx, ds ++ [.ref fs], ?_, upd_same, by rw [List.length_append]; simp; omega⟩ ?_ fo17 fp17
        · rw [upd_ne haslx]; exact s16 _ _ ha
        · rw [upd_ne hgsl]; exact g16
end
end K70
namespace K70
open PySem PySem.Spec PyProof.Rows L2
/-- the law's sums -/
def sumT : Nat → Nat → Tm
  | 0, _ => .one
  | f + 1, m => if m = 1 then .one else .plus (sumT f ((m - 1) / 4 * 2 + 1)) (sumT f (m - 1 - ((m - 1) / 4 * 2 + 1)))
def sumOk : Nat → Nat → Bool
  | 0, _ => false
  | f + 1, m => decide (m = 1) || (decide (2 ≤ m) && decide (m ≤ 1000) && decide ((m - 1) / 4 * 2 + 1 ≤ m - 1) && sumOk f ((m - 1) / 4 * 2 + 1) && sumOk f (m - 1 - ((m - 1) / 4 * 2 + 1)))
def leftsT : Nat → Tm → Tm
  | 0, t => t
  | n + 1, t => .left (leftsT n t)
def dueParts (n : Nat) : Tm := .fn (leftsT n (.pair (.call .told .nm) (.call .told .nm)))
def dueDeep (n : Nat) : Tm := .fn (leftsT n (.call .told .nm))
theorem shaped_ints (ns : List Int) : SeqAt.shaped (.list (ns.map PyData.int)) = true := by
  have h1 : PyData.canLayAll0 (ns.map PyData.int) = true := by
    induction ns with
    | nil => rfl
    | cons n r ih => simp only [List.map_cons, PyData.canLayAll0, PyData.canLay0, ih, Bool.and_self]
  have h2 : PyData.depthAll (ns.map PyData.int) = 0 := by
    induction ns with
    | nil => rfl
    | cons n r ih => simp only [List.map_cons, PyData.depthAll, PyData.depth, ih (by simpa only [List.map_cons, PyData.canLayAll0, PyData.canLay0, Bool.true_and] using h1), Nat.max_self]
  show (PyData.canLay0 (.list (ns.map PyData.int)) && decide ((PyData.list (ns.map PyData.int)).depth ≤ 64)) = true
  simp only [PyData.canLay0, h1, PyData.depth, h2, Bool.true_and]
  rfl
theorem dp_ints {K : PySem.W.Frag} {H : Hp} {a : Addr} {ns : List Int} (h : H a = some (.lst (ns.map V.int))) : Dp K H (.ref a) (.list (ns.map PyData.int)) := by
  refine .lst (.of h) ?_
  clear h
  induction ns with
  | nil => exact .nil
  | cons n r ih => exact .cons (.int n) ih
section
variable {P : Program} {w : World} {K : PySem.W.Frag} {mg : Str → Option Value} {base : Heap} {CS CF CT : Addr}
/-! ### _law_deck, _law_draw -/
/-- the deck: its cells, and two ints -/
def DkO (H : Hp) (a : Addr) : Prop := ∃ (c : Addr) (ns : List Int) (x y : Int), a ≠ c ∧ H a = some (.lst [.ref c, .int x, .int y]) ∧ H c = some (.lst (ns.map V.int)) ∧ ns.length ≤ 100
theorem DkO.same {H H' : Hp} (e : Same H H') {a : Addr} : DkO H a → DkO H' a := fun ⟨c, ns, x, y, h0, h1, h2, h3⟩ => ⟨c, ns, x, y, h0, e _ _ h1, e _ _ h2, h3⟩
def spDeck (K : PySem.W.Frag) : Sp := fun vs H Q _ => ∃ (a : Addr) (ns : List Int), vs = [.ref a] ∧ SqL K H a (ns.map V.int) ∧ ns.length ≤ 63 ∧ ∀ d H', DkO H' d → Q (.ref d) H'
theorem cut63 {ns : List Int} (h : ns.length ≤ 63) : cutV (ns.map V.int) none (some 63) = ns.map V.int := by
  show ((ns.map V.int).drop 0).take (min 63 (ns.map V.int).length - 0) = ns.map V.int
  rw [List.length_map, Nat.min_eq_right h, List.drop_zero, Nat.sub_zero]
  exact List.take_of_length_le (by rw [List.length_map]; omega)
theorem has_l_deck (T : Txt w K mg) : Has P w K mg base CX0 1 "_law_deck" (spDeck K) := by
  obtain ⟨f, fd, D⟩ := T.f_l_deck
  refine D.ok0 sc_l_deck (fun vs H Q E h => ?_) (fun cdv A outer s H vs Q E hr h => ?_)
  · obtain ⟨_, _, rfl, _⟩ := h
    rfl
  obtain ⟨a, ns, rfl, hs, hn, q⟩ := h
  refine ⟨_, (pss_cons (ps_set (i := 1) sc_l_deck.nd rfl (Or.inl rfl) (pe_lstRev rfl rfl T.b_list rfl T.b_reversed (pe_slice sl_list (pv 0) po_none (po_some pe_int)))) (pss_one (ps_ret (pe_lst (pa_cons (pv 1) (pa_cons (pe_op op_add (pe_op op_modN (pe_callB (cr_sum rfl) (by rfl) T.b_sum bt_sum (pa_cons (pv 1) pa_nil)) pe_int) (pe_op op_mul pe_int (pe_callB call_len_seq (by rfl) T.b_len bt_len (pa_cons (pv 1) pa_nil)))) (pa_cons pe_int pa_nil))))))), ?_⟩
  refine ⟨_, rfl, _, rfl, a, _, rfl, hs, fun p hp => ?_⟩
  rw [cut63 hn]
  refine ⟨p, _, rfl, .of upd_same, fun c hc => ?_⟩
  have er : (ns.map V.int).reverse = ns.reverse.map V.int := by rw [List.map_reverse]
  rw [er]
  refine ⟨_, rfl, _, rfl, c, ns.reverse, rfl, .of upd_same, _, _, rfl, rfl, (by decide : (2147483629 : Int) ≠ 0), ?_⟩
  refine ⟨_, rfl, c, _, rfl, .inl (.of upd_same), _, _, rfl, rfl, .inl (by decide), _, _, rfl, rfl, sz3, fun d hd => ?_⟩
  have hcd : c ≠ d := ne_of_none upd_same hd
  exact q _ _ ⟨c, ns.reverse, _, _, Ne.symm hcd, upd_same, by rw [upd_ne hcd]; exact upd_same, by rw [List.length_reverse]; omega⟩
def spDraw : Sp := fun vs H Q _ => ∃ (d : Addr) (m : Int), vs = [.ref d, .int m] ∧ DkO H d ∧ 0 < m ∧ m < 1000 ∧ ∀ x H', DkO H' d → 0 ≤ x → x < m → Q (.int x) H'
theorem fmod_lt {i m : Int} (h : 0 < m) : 0 ≤ i.fmod m ∧ i.fmod m < m := ⟨Int.fmod_nonneg_of_pos i h, Int.fmod_lt_of_pos i h⟩
theorem fm64 {i M : Int} (h : 0 < M) (h2 : M ≤ 2 ^ 62) : -(2 ^ 64) < i.fmod M ∧ i.fmod M < 2 ^ 64 := by
  have h3 := fmod_lt (i := i) h
  have e1 : (2 : Int) ^ 62 = 4611686018427387904 := by decide
  have e2 : (2 : Int) ^ 64 = 18446744073709551616 := by decide
  rw [e1] at h2
  rw [e2]
  omega
theorem has_l_draw (T : Txt w K mg) : Has P w K mg base CX0 1 "_law_draw" spDraw := by
  obtain ⟨f, fd, D⟩ := T.f_l_draw
  refine D.ok0 sc_l_draw (fun vs H Q E h => ?_) (fun cdv A outer s H vs Q E hr h => ?_)
  · obtain ⟨_, _, rfl, _⟩ := h
    rfl
  obtain ⟨d, m, rfl, ⟨c, ns, x, y, hdc, hd, hc, hn⟩, m0, m1, q⟩ := h
  refine ⟨_, (pss_cons (ps_asg (pe_op op_add (pe_ix ix_list (pv 0) pe_int (fun _ _ => rfl)) pe_int) (pg_sub (pv 0) pe_int set_list)) (pss_cons (ps_set (i := 2) sc_l_draw.nd rfl (Or.inl rfl) (pe_ifExp (pt_cmpR (op_eqD hr.units) (pe_ix ix_list (pv 0) pe_int (fun _ _ => rfl)) (pe_lst pa_nil) (nomark _)) (pe_ix ix_list (pv 0) pe_int (fun _ _ => rfl)) (pe_bm0 PySem.F.plainAttrs_list PySem.F.slot_list_pop PySem.F.type_list_pop mt_pop (pe_ix ix_list (pv 0) pe_int (fun _ _ => rfl))))) (pss_cons (ps_if (pt_cmpR op_ge (pv 2) (pe_op op_pow pe_int pe_int) (nomark _)) (pss_cons (ps_expr (pe_bm PySem.F.plainAttrs_list PySem.F.slot_list_append PySem.F.type_list_append mt_append (pe_ix ix_list (pv 0) pe_int (fun _ _ => rfl)) (pa_cons (pe_op op_fdivN (pv 2) (pv 1)) pa_nil))) (pss_one (ps_ret (pe_op op_modN (pv 2) (pv 1))))) pss_nil) (pss_cons (ps_set (i := 3) sc_l_draw.nd rfl (Or.inl rfl) (pe_op op_modN (pe_op op_mul (pe_op op_add (pe_op op_add (pe_op op_modN (pv 2) pe_int) (pe_op op_mul pe_int (pe_ix ix_list (pv 0) pe_int (fun _ _ => rfl)))) pe_int) pe_int) pe_int)) (pss_cons (ps_set (i := 3) sc_l_draw.nd rfl (Or.inl rfl) (pe_op op_modN (pe_op op_add (pe_op op_add (pe_op op_mul (pv 3) (pv 3)) (pe_op op_mul pe_int (pe_ix ix_list (pv 0) pe_int (fun _ _ => rfl)))) pe_int) pe_int)) (pss_one (ps_ret (pe_op op_modN (pe_op op_fdivN (pe_op op_modN (pe_op op_mul (pv 3) (pe_op op_add (pe_op op_fdivN (pv 3) pe_int) pe_int)) pe_int) pe_int) (pv 1))))))))), ?_⟩
  refine ⟨_, rfl, d, _, _, _, rfl, rfl, .of hd, at2, _, _, rfl, rfl, _, rfl, d, _, _, 2, rfl, rfl, hd, rfl, ?_⟩
  have e1 : ([V.ref c, .int x, .int y] : List V).set 2 (.int (y + 1)) = [.ref c, .int x, .int (y + 1)] := rfl
  rw [e1]
  have hcd : c ≠ d := Ne.symm hdc
  have hd1 : (upd H d (.lst [.ref c, .int x, .int (y + 1)])) d = some (.lst [.ref c, .int x, .int (y + 1)]) := upd_same
  have hc1 : (upd H d (.lst [.ref c, .int x, .int (y + 1)])) c = some (.lst (ns.map V.int)) := (upd_ne hcd).trans hc
  generalize upd H d (.lst [.ref c, .int x, .int (y + 1)]) = H1 at *
  refine ⟨_, rfl, d, _, _, _, rfl, rfl, .of hd1, at0, sz0, fun p hp => ?_⟩
  have s2 := same_new hp (.lst [])
  have hd2 := s2 _ _ hd1
  have hc2 := s2 _ _ hc1
  refine ⟨_, .list [], dp_ints hc2, .lst (.of upd_same) .nil, shaped_ints ns, by decide, _, rfl, ?_⟩
  generalize upd H1 p (.lst []) = H2 at *
  cases ns with
  | nil =>
    refine iteT ?_
    refine ⟨_, rfl, d, _, _, _, rfl, rfl, .of hd2, at1, ?_⟩
    generalize hns : ([] : List Int) = ns' at hc2
    have hn3 : ns'.length ≤ 99 := by rw [← hns]; decide
    clear hns hc1 hc hn
    generalize x = cell
    have mne : m ≠ 0 := by omega
    refine ⟨_, rfl, _, _, rfl, rfl, ⟨by decide, by decide, by decide⟩, _, _, rfl, rfl, _, rfl, ite2 (fun _ => ?_) (fun _ => ?_)⟩
    · refine ⟨_, rfl, d, _, _, _, rfl, rfl, .of hd2, at0, .inl ⟨rfl, _, .of hc2⟩, _, rfl, _, rfl, _, _, rfl, rfl, ⟨mne, by omega⟩, c, _, _, rfl, rfl, hc2, ?_, ?_⟩
      · rw [List.length_map]
        exact Nat.lt_of_le_of_lt (by omega : ns'.length ≤ 1000) (by decide)
      · refine ⟨_, rfl, _, rfl, _, _, rfl, rfl, mne, ?_⟩
        refine q _ _ ⟨c, ns' ++ [cell.fdiv m], _, y + 1, hdc, (upd_ne hdc).trans hd2, ?_, ?_⟩ (fmod_lt m0).1 (fmod_lt m0).2
        · rw [upd_same, List.map_append]
          rfl
        · rw [List.length_append]
          exact (by omega : ns'.length + 1 ≤ 100)
    · refine ⟨_, rfl, _, _, rfl, rfl, (show (2147483629 : Int) ≠ 0 by decide), _, rfl, d, _, _, _, rfl, rfl, .of hd2, at2, _, _, rfl, rfl, .inl ⟨by decide, by decide⟩, _, _, rfl, rfl, _, _, rfl, rfl, _, _, rfl, rfl, .inr ⟨by decide, by decide⟩, _, _, rfl, rfl, (show (2147483647 : Int) ≠ 0 by decide), ?_⟩
      refine ⟨_, rfl, _, rfl, _, _, rfl, rfl, .inl (fm64 (by decide) (by decide)), _, rfl, d, _, _, _, rfl, rfl, .of hd2, at2, _, _, rfl, rfl, .inl ⟨by decide, by decide⟩, _, _, rfl, rfl, _, _, rfl, rfl, _, _, rfl, rfl, (show (2147483587 : Int) ≠ 0 by decide), ?_⟩
      refine ⟨_, rfl, _, rfl, _, _, rfl, rfl, ⟨by decide, by decide⟩, _, _, rfl, rfl, _, _, rfl, rfl, .inl (fm64 (by decide) (by decide)), _, _, rfl, rfl, (show (2305843009213693951 : Int) ≠ 0 by decide), _, _, rfl, rfl, ⟨by decide, by decide⟩, _, rfl, _, _, rfl, rfl, mne, ?_⟩
      exact q _ _ ⟨c, ns', _, y + 1, hdc, hd2, hc2, by omega⟩ (fmod_lt m0).1 (fmod_lt m0).2
  | cons n0 r0 =>
    refine iteF ?_
    have hne : n0 :: r0 ≠ [] := by intro z; cases z
    have eL : (n0 :: r0).map V.int = (n0 :: r0).dropLast.map V.int ++ [.int ((n0 :: r0).getLast hne)] := by
      conv => lhs; rw [← List.dropLast_concat_getLast hne]
      rw [List.map_append]
      rfl
    generalize hcell : (n0 :: r0).getLast hne = cell at eL
    have hn3 : (n0 :: r0).dropLast.length ≤ 99 := by rw [List.length_dropLast]; omega
    generalize (n0 :: r0).dropLast = ns' at eL hn3
    rw [eL] at hc2
    refine ⟨_, rfl, d, _, _, _, rfl, rfl, .of hd2, at0, .inl ⟨rfl, _, .of hc2⟩, c, _, .int cell, rfl, rfl, hc2, ?_, ?_⟩
    · rw [List.length_append]
      show (ns'.map V.int ++ [V.int cell])[(ns'.map V.int).length + 1 - 1]? = some (.int cell)
      rw [Nat.add_sub_cancel, List.getElem?_append_right (Nat.le_refl _), Nat.sub_self]
      rfl
    rw [List.dropLast_concat]
    have hd3 := (upd_ne (H := H2) (o := .lst (ns'.map V.int)) hdc).trans hd2
    have hc3 : (upd H2 c (.lst (ns'.map V.int))) c = some (.lst (ns'.map V.int)) := upd_same
    clear hd2 hc2
    generalize upd H2 c (.lst (ns'.map V.int)) = H5 at *
    have hd2 := hd3
    have hc2 := hc3
    have mne : m ≠ 0 := by omega
    refine ⟨_, rfl, _, _, rfl, rfl, ⟨by decide, by decide, by decide⟩, _, _, rfl, rfl, _, rfl, ite2 (fun _ => ?_) (fun _ => ?_)⟩
    · refine ⟨_, rfl, d, _, _, _, rfl, rfl, .of hd2, at0, .inl ⟨rfl, _, .of hc2⟩, _, rfl, _, rfl, _, _, rfl, rfl, ⟨mne, by omega⟩, c, _, _, rfl, rfl, hc2, ?_, ?_⟩
      · rw [List.length_map]
        exact Nat.lt_of_le_of_lt (by omega : ns'.length ≤ 1000) (by decide)
      · refine ⟨_, rfl, _, rfl, _, _, rfl, rfl, mne, ?_⟩
        refine q _ _ ⟨c, ns' ++ [cell.fdiv m], x, y + 1, hdc, (upd_ne hdc).trans hd2, ?_, ?_⟩ (fmod_lt m0).1 (fmod_lt m0).2
        · rw [upd_same, List.map_append]
          rfl
        · rw [List.length_append]
          exact (by omega : ns'.length + 1 ≤ 100)
    · refine ⟨_, rfl, _, _, rfl, rfl, (show (2147483629 : Int) ≠ 0 by decide), _, rfl, d, _, _, _, rfl, rfl, .of hd2, at2, _, _, rfl, rfl, .inl ⟨by decide, by decide⟩, _, _, rfl, rfl, _, _, rfl, rfl, _, _, rfl, rfl, .inr ⟨by decide, by decide⟩, _, _, rfl, rfl, (show (2147483647 : Int) ≠ 0 by decide), ?_⟩
      refine ⟨_, rfl, _, rfl, _, _, rfl, rfl, .inl (fm64 (by decide) (by decide)), _, rfl, d, _, _, _, rfl, rfl, .of hd2, at2, _, _, rfl, rfl, .inl ⟨by decide, by decide⟩, _, _, rfl, rfl, _, _, rfl, rfl, _, _, rfl, rfl, (show (2147483587 : Int) ≠ 0 by decide), ?_⟩
      refine ⟨_, rfl, _, rfl, _, _, rfl, rfl, ⟨by decide, by decide⟩, _, _, rfl, rfl, _, _, rfl, rfl, .inl (fm64 (by decide) (by decide)), _, _, rfl, rfl, (show (2305843009213693951 : Int) ≠ 0 by decide), _, _, rfl, rfl, ⟨by decide, by decide⟩, _, rfl, _, _, rfl, rfl, mne, ?_⟩
      exact q _ _ ⟨c, ns', x, y + 1, hdc, hd2, hc2, by omega⟩ (fmod_lt m0).1 (fmod_lt m0).2
end
end K70
namespace K70
open PySem PySem.Spec PyProof.Rows L2
theorem sz4 {x y z u : V} : [x, y, z, u].length ≤ sizeLine := (show 4 ≤ sizeLine by decide)
section
variable {P : Program} {w : World} {K : PySem.W.Frag} {mg : Str → Option Value} {base : Heap} {CS CF CT : Addr}
/-! ### _law_sum -/
theorem fd4 (i : Int) : i.fdiv 4 = i / 4 := Int.fdiv_eq_ediv_of_nonneg i (by decide)
def spSum (K : PySem.W.Frag) (n : Nat) : Sp := fun vs H Q _ => ∃ m : Nat, vs = [.int m] ∧ sumOk n m = true ∧ Ret H Q fun u H' => TmAt K H' u (sumT n m)
theorem has_l_sum (T : Txt w K mg) : ∀ n, Has P w K mg base CX0 (n + 1) "_law_sum" (spSum K n) := by
  intro n
  obtain ⟨f, fd, D⟩ := T.f_l_sum
  induction n with
  | zero => exact D.none sc_l_sum fun vs H Q E ⟨_, _, h, _⟩ => by cases h
  | succ n h_l_sum =>
    refine D.ok0 sc_l_sum (fun vs H Q E h => ?_) (fun cdv A outer s H vs Q E hr h => ?_)
    · obtain ⟨_, rfl, _⟩ := h
      rfl
    obtain ⟨m, rfl, hm, q⟩ := h
    refine ⟨_, (pss_cons (ps_if (pt_cmpR op_eq (pv 0) pe_int (nomark _)) (pss_one (ps_ret (pe_tup (pa_cons pe_str (pa_cons pe_int pa_nil))))) pss_nil) (pss_cons (ps_set (i := 1) sc_l_sum.nd rfl (Or.inl rfl) (pe_op op_add (pe_op op_mul (pe_op op_fdivN (pe_op op_sub (pv 0) pe_int) pe_int) pe_int) pe_int)) (pss_one (ps_ret (pe_tup (pa_cons pe_str (pa_cons (pe_c h_l_sum hr (by omega) (pa_cons (pv 1) pa_nil)) (pa_cons (pe_c h_l_sum hr (by omega) (pa_cons (pe_op op_sub (pe_op op_sub (pv 0) pe_int) (pv 1)) pa_nil)) pa_nil)))))))), ?_⟩
    refine ⟨_, rfl, rfl, _, rfl, ?_⟩
    by_cases h1 : m = 1
    · subst h1
      refine ifT (decide_eq_true rfl) ?_
      exact ⟨sz2, fun p hp => q _ _ (same_new hp _) (.one (.of upd_same))⟩
    · refine ifF (decide_eq_false fun e => h1 (by injection e; omega)) ?_
      have hm2 : 2 ≤ m ∧ m ≤ 1000 ∧ (m - 1) / 4 * 2 + 1 ≤ m - 1 ∧ sumOk n ((m - 1) / 4 * 2 + 1) = true ∧ sumOk n (m - 1 - ((m - 1) / 4 * 2 + 1)) = true := by
        have h2 := hm
        simp only [sumOk, Bool.or_eq_true, Bool.and_eq_true, decide_eq_true_eq] at h2
        rcases h2 with h2 | ⟨⟨⟨⟨a, b⟩, c⟩, d⟩, e⟩
        · exact absurd h2 h1
        · exact ⟨a, b, c, d, e⟩
      obtain ⟨m2, m1000, mle, o1, o2⟩ := hm2
      have et : sumT (n + 1) m = .plus (sumT n ((m - 1) / 4 * 2 + 1)) (sumT n (m - 1 - ((m - 1) / 4 * 2 + 1))) := by
        show (if m = 1 then Tm.one else _) = _
        rw [if_neg h1]
      rw [et] at q
      have e1 : ((m : Int) - 1).fdiv 4 * 2 + 1 = (((m - 1) / 4 * 2 + 1 : Nat) : Int) := by
        rw [fd4]
        omega
      have e2 : (m : Int) - 1 - (((m : Int) - 1).fdiv 4 * 2 + 1) = ((m - 1 - ((m - 1) / 4 * 2 + 1) : Nat) : Int) := by
        rw [e1]
        omega
      refine ⟨_, rfl, _, _, rfl, rfl, _, _, rfl, rfl, ⟨by decide, by decide⟩, _, _, rfl, rfl, .inr ⟨by decide, by decide⟩, _, _, rfl, rfl, ?_⟩
      refine ⟨_, rfl, _, congrArg (fun z => [V.int z]) e1, o1, fun u H1 s1 hu => ?_⟩
      refine ⟨_, rfl, _, _, rfl, rfl, _, rfl, _, _, rfl, rfl, _, congrArg (fun z => [V.int z]) e2, o2, fun u2 H2 s2 hu2 => ?_⟩
      refine ⟨sz3, fun p hp => ?_⟩
      have s3 := same_new hp (.tup [.str "plus", u, u2])
      exact q _ _ (s1.trans (s2.trans s3)) (.plus (.of upd_same) (hu.same (s2.trans s3)) (hu2.same s3))
/-! ### _law_lefts, _law_fun, the dues -/
def spLefts (K : PySem.W.Frag) : Sp := fun vs H Q _ => ∃ v t, ∃ n : Nat, vs = [v, .int n] ∧ TmAt K H v t ∧ n ≤ 1000 ∧ Ret H Q fun u H' => TmAt K H' u (leftsT n t)
theorem has_l_lefts (T : Txt w K mg) : Has P w K mg base CX0 1 "_law_lefts" (spLefts K) := by
  obtain ⟨f, fd, D⟩ := T.f_l_lefts
  refine D.ok0 sc_l_lefts (fun vs H Q E h => ?_) (fun cdv A outer s H vs Q E hr h => ?_)
  · obtain ⟨_, _, _, rfl, _⟩ := h
    rfl
  obtain ⟨v, t, n, rfl, ht, hn, q⟩ := h
  refine ⟨_, (pss_cons (ps_for PassesOwn.never rfl (pi_range1 rfl T.b_range (pa_cons (pv 1) pa_nil)) (pg_name (i := 2) sc_l_lefts.nd rfl (Or.inl rfl)) (pss_one (ps_set (i := 0) sc_l_lefts.nd rfl (Or.inl rfl) (pe_tup (pa_cons pe_str (pa_cons (pv 0) (pa_cons (pe_tup (pa_cons pe_str pa_nil)) pa_nil))))))) (pss_one (ps_ret (pv 0)))), ?_⟩
  refine ⟨_, rfl, (n : Int), rfl, Int.le_trans (by decide) (Int.natCast_nonneg n), Int.lt_of_le_of_lt (by omega : (n : Int) ≤ 1000) (by decide), ?_⟩
  refine for_it (walk_range (lo := 0) (n := n)) (fun i σ H3 => Same H H3 ∧ ∃ u u2, σ = [some u, some (.int n), u2] ∧ TmAt K H3 u (leftsT i t)) ?_ ?_ ?_ ?_
  · exact ⟨Same.refl _, v, _, rfl, ht⟩
  · exact fun _ _ _ _ _ => trivial
  · rintro i x σ H3 H4 hi ⟨sh, u, u2, rfl, hu⟩ ⟨rfl, rfl⟩
    refine ⟨_, rfl, sz1, fun p hp => ⟨sz3, fun p2 hp2 => ?_⟩⟩
    have s1 := same_new hp (.tup [.str "truth"])
    have s2 := same_new hp2 (.tup [.str "left", u, .ref p])
    exact ⟨sh.trans (s1.trans s2), _, _, rfl, .left (.of upd_same) (hu.same (s1.trans s2)) (.truth (.of (s2 _ _ upd_same)))⟩
  · rintro σ H3 ⟨sh, u, u2, rfl, hu⟩
    exact ⟨_, rfl, q _ _ sh hu⟩
def spFun (K : PySem.W.Frag) : Sp := fun vs H Q _ => ∃ v t, vs = [v] ∧ TmAt K H v t ∧ Ret H Q fun u H' => TmAt K H' u (.fn t)
theorem has_l_fun (T : Txt w K mg) : Has P w K mg base CX0 1 "_law_fun" (spFun K) := by
  obtain ⟨f, fd, D⟩ := T.f_l_fun
  refine D.ok0 sc_l_fun (fun vs H Q E h => ?_) (fun cdv A outer s H vs Q E hr h => ?_)
  · obtain ⟨_, _, rfl, _⟩ := h
    rfl
  obtain ⟨v, t, rfl, ht, q⟩ := h
  refine ⟨_, (pss_one (ps_ret (pe_tup (pa_cons pe_str (pa_cons pe_str (pa_cons (pe_tup (pa_cons pe_str pa_nil)) (pa_cons (pv 0) pa_nil))))))), ?_⟩
  refine ⟨sz1, fun p hp => ⟨_, rfl, sz4, fun p2 hp2 => ?_⟩⟩
  have s1 := same_new hp (.tup [.str "num"])
  have s2 := same_new hp2 (.tup [.str "fun", .str "x", .ref p, v])
  exact q _ _ (s1.trans s2) (.fn (.of upd_same) (.num (.of (s2 _ _ upd_same))) (ht.same (s1.trans s2)))
def spDue (K : PySem.W.Frag) (g : Nat → Tm) : Sp := fun vs H Q _ => ∃ n : Nat, vs = [.int n] ∧ n ≤ 1000 ∧ Ret H Q fun u H' => TmAt K H' u (g n)
theorem has_l_due_parts (T : Txt w K mg) : Has P w K mg base CX0 2 "_law_due_parts" (spDue K dueParts) := by
  obtain ⟨f, fd, D⟩ := T.f_l_due_parts
  have h_l_fun := has_l_fun (P := P) (base := base) T
  have h_l_lefts := has_l_lefts (P := P) (base := base) T
  refine D.ok0 sc_l_due_parts (fun vs H Q E h => ?_) (fun cdv A outer s H vs Q E hr h => ?_)
  · obtain ⟨_, rfl, _⟩ := h
    rfl
  obtain ⟨n, rfl, hn, q⟩ := h
  refine ⟨_, (pss_cons (ps_set (i := 1) sc_l_due_parts.nd rfl (Or.inl rfl) (pe_tup (pa_cons pe_str (pa_cons (pe_tup (pa_cons pe_str (pa_cons pe_str (pa_cons pe_tup0 pa_nil)))) (pa_cons (pe_tup (pa_cons pe_str (pa_cons pe_str pa_nil))) pa_nil))))) (pss_one (ps_ret (pe_c h_l_fun hr (by omega) (pa_cons (pe_c h_l_lefts hr (by omega) (pa_cons (pe_tup (pa_cons pe_str (pa_cons (pv 1) (pa_cons (pv 1) pa_nil)))) (pa_cons (pv 0) pa_nil))) pa_nil))))), ?_⟩
  intro z hz
  refine ⟨sz3, fun p1 n1 => ⟨sz2, fun p2 n2 => ⟨sz3, fun p3 n3 => ?_⟩⟩⟩
  have s0 := same_new hz (.frz tupO (.tup []))
  have s1 := same_new n1 (.tup [.str "told", .str "one", .ref z])
  have s2 := same_new n2 (.tup [.str "name", .str "x"])
  have s3 := same_new n3 (.tup [.str "call", .ref p1, .ref p2])
  refine ⟨_, rfl, _, rfl, sz3, fun p4 n4 => ?_⟩
  have s4 := same_new n4 (.tup [.str "pair", .ref p3, .ref p3])
  have h1 : TmAt K _ (.ref p1) .told := .told ((tps (s2.trans (s3.trans s4))).seq (.of upd_same)) ((tps (s1.trans (s2.trans (s3.trans s4)))).e0 upd_same)
  have h2 : TmAt K _ (.ref p2) .nm := .nm ((tps (s3.trans s4)).seq (.of upd_same))
  have h3 : TmAt K _ (.ref p3) (.call .told .nm) := .call ((tps s4).seq (.of upd_same)) h1 h2
  refine ⟨_, rfl, _, _, n, rfl, .pair (.of upd_same) h3 h3, hn, fun u H5 s5 hu => ?_⟩
  exact ⟨u, _, rfl, hu, fun r H6 s6 hr6 => q _ _ (s0.trans (s1.trans (s2.trans (s3.trans (s4.trans (s5.trans s6)))))) hr6⟩
theorem has_l_due_deep (T : Txt w K mg) : Has P w K mg base CX0 2 "_law_due_deep" (spDue K dueDeep) := by
  obtain ⟨f, fd, D⟩ := T.f_l_due_deep
  have h_l_fun := has_l_fun (P := P) (base := base) T
  have h_l_lefts := has_l_lefts (P := P) (base := base) T
  refine D.ok0 sc_l_due_deep (fun vs H Q E h => ?_) (fun cdv A outer s H vs Q E hr h => ?_)
  · obtain ⟨_, rfl, _⟩ := h
    rfl
  obtain ⟨n, rfl, hn, q⟩ := h
  refine ⟨_, (pss_one (ps_ret (pe_c h_l_fun hr (by omega) (pa_cons (pe_c h_l_lefts hr (by omega) (pa_cons (pe_tup (pa_cons pe_str (pa_cons (pe_tup (pa_cons pe_str (pa_cons pe_str (pa_cons pe_tup0 pa_nil)))) (pa_cons (pe_tup (pa_cons pe_str (pa_cons pe_str pa_nil))) pa_nil)))) (pa_cons (pv 0) pa_nil))) pa_nil)))), ?_⟩
  intro z hz
  refine ⟨sz3, fun p1 n1 => ⟨sz2, fun p2 n2 => ⟨sz3, fun p3 n3 => ?_⟩⟩⟩
  have s0 := same_new hz (.frz tupO (.tup []))
  have s1 := same_new n1 (.tup [.str "told", .str "one", .ref z])
  have s2 := same_new n2 (.tup [.str "name", .str "x"])
  have s3 := same_new n3 (.tup [.str "call", .ref p1, .ref p2])
  have h1 : TmAt K _ (.ref p1) .told := .told ((tps (s2.trans s3)).seq (.of upd_same)) ((tps (s1.trans (s2.trans s3))).e0 upd_same)
  have h2 : TmAt K _ (.ref p2) .nm := .nm ((tps s3).seq (.of upd_same))
  refine ⟨_, rfl, _, _, n, rfl, .call (.of upd_same) h1 h2, hn, fun u H5 s5 hu => ?_⟩
  exact ⟨u, _, rfl, hu, fun r H6 s6 hr6 => q _ _ (s0.trans (s1.trans (s2.trans (s3.trans (s5.trans s6))))) hr6⟩
end
end K70
namespace K70
open PySem PySem.Spec PyProof.Rows L2
theorem hu65 {k : Nat} {A : Around} (h : Room k A) : A.units + 65 < cLine := by have := h.un; omega
theorem num_tm (t : Tm) : PyData.eqv Kd.num.enc t.enc = false := by
  cases t <;> simp only [Tm.enc, Kd.enc, PyData.eqv, PyData.eqvAll, Bool.and_false]
theorem truth_tm (t : Tm) : PyData.eqv Kd.truth.enc t.enc = false := by
  cases t <;> simp only [Tm.enc, Kd.enc, PyData.eqv, PyData.eqvAll, Bool.and_false]
theorem its_a {t : Tm} {k : Kd} (h : It.a k ∈ t.its) : k = .num := by
  cases t <;> simp [Tm.its] at h <;> exact h
theorem its_d {t : Tm} {k : Kd} (h : It.d k ∈ t.its) : k = .truth := by
  cases t <;> simp [Tm.its] at h <;> exact h
def isTi : Option It → Bool
  | some (.t _) => true
  | _ => false
theorem inner_of {F : V → Tm → Prop} {ys : List V} : ∀ {t : Tm}, Paired (fun y i => ∃ s, t.its[i]? = some (.t s) ∧ F y s) ys ((List.range t.its.length).filter fun i => isTi t.its[i]?) → Paired F ys t.inner := by
  have one : ∀ {its : List It} {i : Nat} {s : Tm}, its[i]? = some (.t s) → Paired (fun y i => ∃ s, its[i]? = some (.t s) ∧ F y s) ys [i] → Paired F ys [s] := by
    intro its i s e p
    obtain ⟨y, rfl, s', h1, h2⟩ := Paired.one p
    rw [e] at h1
    cases h1
    exact .cons h2 .nil
  have two : ∀ {its : List It} {i j : Nat} {s t : Tm}, its[i]? = some (.t s) → its[j]? = some (.t t) → Paired (fun y i => ∃ s, its[i]? = some (.t s) ∧ F y s) ys [i, j] → Paired F ys [s, t] := by
    intro its i j s t e1 e2 p
    obtain ⟨y, z, rfl, ⟨s', h1, h2⟩, s'', h3, h4⟩ := Paired.two p
    rw [e1] at h1
    cases h1
    rw [e2] at h3
    cases h3
    exact .cons h2 (.cons h4 .nil)
  intro t p
  cases t with
  | nm => cases (show Paired _ ys [] from p); exact .nil
  | one => cases (show Paired _ ys [] from p); exact .nil
  | told => cases (show Paired _ ys [] from p); exact .nil
  | fn t => exact one (its := [.x "x", .a .num, .t t]) (i := 2) rfl p
  | call s t => exact two (its := [.t s, .t t]) (i := 0) (j := 1) rfl rfl p
  | plus s t => exact two (its := [.t s, .t t]) (i := 0) (j := 1) rfl rfl p
  | pair s t => exact two (its := [.t s, .t t]) (i := 0) (j := 1) rfl rfl p
  | left t => exact one (its := [.t t, .d .truth]) (i := 0) rfl p
theorem depth_max0 (t : Tm) (m : Int) (hm : m ∈ (0 : Int) :: t.inner.map fun s => (s.depth : Int)) (hu : ∀ y ∈ (0 : Int) :: t.inner.map (fun s => (s.depth : Int)), y ≤ m) : (1 : Int) + m = t.depth := by
  cases t <;> simp only [Tm.inner, Tm.depth, List.map_cons, List.map_nil, List.mem_cons, List.not_mem_nil, or_false, forall_eq_or_imp, forall_eq] at * <;> omega
theorem gm_tup2 {K : PySem.W.Frag} {i j : Nat} (x : V) (σ : L2.St) (H : Hp) (Q Q' : L2.St → Hp → Prop) (h : ∀ σ2 H2, Q σ2 H2 → Q' σ2 H2) (q : gTup K 2 (gCons (gName i) (gCons (gName j) gNil)) x σ H Q) : gTup K 2 (gCons (gName i) (gCons (gName j) gNil)) x σ H Q' := by
  obtain ⟨a, xs, e, e1, e2, v1, r1, e3, v2, r2, e4, e6, e7⟩ := q
  exact ⟨a, xs, e, e1, e2, v1, r1, e3, v2, r2, e4, e6, h _ _ e7⟩
section
variable {P : Program} {w : World} {K : PySem.W.Frag} {mg : Str → Option Value} {base : Heap} {CS CF CT : Addr}
/-! ### _law_measured -/
def spMeas (K : PySem.W.Frag) (n : Nat) : Sp := fun vs H Q _ => ∃ v t, vs = [v] ∧ TmAt K H v t ∧ t.plain = true ∧ t.depth ≤ n ∧ t.depth ≤ 60 ∧ Ret H Q fun u H' => ∃ p, u = .ref p ∧ SqT K H' p [.int t.parts, .int t.depth]
theorem has_l_measured (T : Txt w K mg) : ∀ n, Has P w K mg base CX0 (n + 1) "_law_measured" (spMeas K n) := by
  intro n
  obtain ⟨f, fd, D⟩ := T.f_l_measured
  induction n with
  | zero => exact D.none sc_l_measured fun vs H Q E ⟨_, k, _, _, _, l, _⟩ => by have := k.depth_pos; omega
  | succ n h_l_measured =>
    refine D.ok0 sc_l_measured (fun vs H Q E h => ?_) (fun cdv A outer s H vs Q E hr h => ?_)
    · obtain ⟨_, _, rfl, _⟩ := h
      rfl
    obtain ⟨v, t, rfl, ht, hpl, hl, h60, q⟩ := h
    obtain ⟨a, xs, rfl, hs, hp⟩ := ht.view
    refine ⟨_, (pss_cons (ps_setLc (i := 1) (own := [("_law_part", 2)]) rfl sc_l_measured.nd rfl rfl (sw_true rfl rfl rfl (by decide +kernel)) (pi_tup (pe_slice sl_tupA (pv 0) (po_some pe_int) po_none)) (blkOk_by (own := [("_law_part", 2)]) (N := ["_law_term", "_law_inner", "_law_part", "_law_some", "_law_many", "_law_deep"]) (sc := defScope s_l_measured) (by decide +kernel)) (fun _ _ _ _ _ => (pg_name (i := 2) sc_l_measured.nd rfl (Or.inl rfl) (hf := .inr rfl))) (fun _ _ _ _ _ => pts_one (PW.pt (pw_and (pt_val (pe_callB (r := rIsi K) call_isi (by rfl) T.b_isinstance bt_isinstance (pa_cons (pv 2) (pa_cons (pe_bltn (v := .ty "tuple") rfl T.b_tuple bt_tuple rfl) pa_nil)))) (pw_and1 (pt_cmpR (r := rNotInT K) (op_notInT (hu65 hr)) (pv 2) (pe_tup (pa_cons (pe_tup (pa_cons pe_str pa_nil)) (pa_cons (pe_tup (pa_cons pe_str pa_nil)) pa_nil))) rfl))))) (fun _ _ _ _ _ => (pv 2))) (pss_cons (ps_setLc (i := 3) (own := [("_law_part", 2)]) (tt := tYes) rfl sc_l_measured.nd rfl rfl (sw_true rfl rfl rfl (by decide +kernel)) (pi_list (pv 1)) (blkOk_by (own := [("_law_part", 2)]) (N := ["_law_term", "_law_inner", "_law_part", "_law_some", "_law_many", "_law_deep"]) (sc := defScope s_l_measured) (by decide +kernel)) (fun _ _ _ _ _ => (pg_name (i := 2) sc_l_measured.nd rfl (Or.inl rfl) (hf := .inr rfl))) (fun _ _ _ _ _ => pts_nil) (fun _ _ _ _ _ => (pe_c h_l_measured hr (by omega) (pa_cons (pv 2) pa_nil)))) (pss_one (ps_ret (pe_tup (pa_cons (pe_op op_add pe_int (pe_callB (cr_sum rfl) (by rfl) T.b_sum bt_sum (pa_cons (pe_lc (own := [("_law_many", 4), ("_law_deep", 5)]) (g := gTup K 2 (gCons (gName 4) (gCons (gName 5) gNil))) (tt := tYes) rfl sc_l_measured.nd (pi_list (pv 3)) (blkOk_by (own := [("_law_many", 4), ("_law_deep", 5)]) (N := ["_law_term", "_law_inner", "_law_part", "_law_some", "_law_many", "_law_deep"]) (sc := defScope s_l_measured) (by decide +kernel)) (fun _ _ _ _ _ => (pg_tup rfl (pgs_cons (pg_name (i := 4) sc_l_measured.nd rfl (Or.inl rfl) (hf := .inr rfl)) (pgs_cons (pg_name (i := 5) sc_l_measured.nd rfl (Or.inl rfl) (hf := .inr rfl)) pgs_nil)))) (fun _ _ _ _ _ => pts_nil) (fun _ _ _ _ _ => (pv 4))) pa_nil))) (pa_cons (pe_op op_add pe_int (pe_callB (cr_max rfl) (by rfl) T.b_max bt_max (pa_cons (pe_op op_cat (pe_lst (pa_cons pe_int pa_nil)) (pe_lc (own := [("_law_many", 4), ("_law_deep", 5)]) (g := gTup K 2 (gCons (gName 4) (gCons (gName 5) gNil))) (tt := tYes) rfl sc_l_measured.nd (pi_list (pv 3)) (blkOk_by (own := [("_law_many", 4), ("_law_deep", 5)]) (N := ["_law_term", "_law_inner", "_law_part", "_law_some", "_law_many", "_law_deep"]) (sc := defScope s_l_measured) (by decide +kernel)) (fun _ _ _ _ _ => (pg_tup rfl (pgs_cons (pg_name (i := 4) sc_l_measured.nd rfl (Or.inl rfl) (hf := .inr rfl)) (pgs_cons (pg_name (i := 5) sc_l_measured.nd rfl (Or.inl rfl) (hf := .inr rfl)) pgs_nil)))) (fun _ _ _ _ _ => pts_nil) (fun _ _ _ _ _ => (pv 5)))) pa_nil))) pa_nil))))))), ?_⟩
    refine ⟨_, rfl, _, rfl, rSl1 hs fun p2 hn2 => ⟨p2, rfl, ⟨xs, .of upd_same⟩, fun D hD => ?_⟩⟩
    have s1 := same_new hn2 (.tup xs)
    have hlen := hp.length
    have hitl := its_len t
    refine lc_flt (walk_tup (xs := xs)) (fun i => isTi t.its[i]?) (fun i y H' => ∃ s, t.its[i]? = some (.t s) ∧ TmAt K H' y s) hD (by omega) (fun _ _ _ _ e ⟨s, h1, h2⟩ => ⟨s, h1, h2.mono e⟩) (fun H' sh => (tps sh).seq (.of upd_same)) ?_ ?_
    · rintro i x H2 H3 Qk Qn hi sh ⟨rfl, hx⟩ qk qn
      have s2 := s1.trans sh
      obtain ⟨it, hit, hxi⟩ := paired_at hp hx
      have hmem := List.mem_of_getElem? hit
      rw [hit] at qk qn
      cases it with
      | x z =>
        cases (show x = V.str z from hxi)
        exact ⟨rfl, _, rfl, _, _, _, _, _, rfl, .ty "tuple", .base (.str _), kit_st, _, rfl, iteF (iteF (qn rfl _ (Same.refl _)))⟩
      | n z =>
        cases (show x = V.int z from hxi)
        exact ⟨rfl, _, rfl, _, _, _, _, _, rfl, .ty "tuple", .base (.int _), kit_it, _, rfl, iteF (iteF (qn rfl _ (Same.refl _)))⟩
      | f => exact (its_plain hpl hmem).elim
      | a k =>
        have ek := its_a hmem
        subst ek
        have hk2 := KdAt.same s2 hxi
        obtain ⟨b, ys, rfl, hbs, _⟩ := hk2.view
        refine ⟨rfl, _, rfl, _, _, _, _, _, rfl, .ty "tuple", tyx_tup hbs, kit_tt, _, rfl, iteT ?_⟩
        refine ⟨_, rfl, sz1, fun q1 m1 => ⟨sz1, fun q2 m2 => ⟨sz2, fun q3 m3 => ?_⟩⟩⟩
        have u1 := same_new m1 (.tup [.str "num"])
        have u2 := same_new m2 (.tup [.str "truth"])
        have u3 := same_new m3 (.tup [.ref q1, .ref q2])
        refine ⟨Kd.num.enc, [Kd.num.enc, Kd.truth.enc], (hk2.same (u1.trans (u2.trans u3))).dp, .tup (.of upd_same) (.cons (KdAt.num ((tps (u2.trans u3)).seq (.of upd_same))).dp (.cons (KdAt.truth ((tps u3).seq (.of upd_same))).dp .nil)), kd_shaped (by decide), by decide +kernel, _, rfl, ifF (by decide +kernel) ?_⟩
        exact qn rfl _ (u1.trans (u2.trans u3))
      | d k =>
        have ek := its_d hmem
        subst ek
        have hk2 := KdAt.same s2 hxi
        obtain ⟨b, ys, rfl, hbs, _⟩ := hk2.view
        refine ⟨rfl, _, rfl, _, _, _, _, _, rfl, .ty "tuple", tyx_tup hbs, kit_tt, _, rfl, iteT ?_⟩
        refine ⟨_, rfl, sz1, fun q1 m1 => ⟨sz1, fun q2 m2 => ⟨sz2, fun q3 m3 => ?_⟩⟩⟩
        have u1 := same_new m1 (.tup [.str "num"])
        have u2 := same_new m2 (.tup [.str "truth"])
        have u3 := same_new m3 (.tup [.ref q1, .ref q2])
        refine ⟨Kd.truth.enc, [Kd.num.enc, Kd.truth.enc], (hk2.same (u1.trans (u2.trans u3))).dp, .tup (.of upd_same) (.cons (KdAt.num ((tps (u2.trans u3)).seq (.of upd_same))).dp (.cons (KdAt.truth ((tps u3).seq (.of upd_same))).dp .nil)), kd_shaped (by decide), by decide +kernel, _, rfl, ifF (by decide +kernel) ?_⟩
        exact qn rfl _ (u1.trans (u2.trans u3))
      | t z =>
        have hk2 := TmAt.same s2 hxi
        obtain ⟨b, ys, rfl, hbs, _⟩ := hk2.view
        have lz : z.depth < t.depth := Tm.inner_lt (its_inner hmem)
        refine ⟨rfl, _, rfl, _, _, _, _, _, rfl, .ty "tuple", tyx_tup hbs, kit_tt, _, rfl, iteT ?_⟩
        refine ⟨_, rfl, sz1, fun q1 m1 => ⟨sz1, fun q2 m2 => ⟨sz2, fun q3 m3 => ?_⟩⟩⟩
        have u1 := same_new m1 (.tup [.str "num"])
        have u2 := same_new m2 (.tup [.str "truth"])
        have u3 := same_new m3 (.tup [.ref q1, .ref q2])
        have hk3 := hk2.same (u1.trans (u2.trans u3))
        refine ⟨z.enc, [Kd.num.enc, Kd.truth.enc], hk3.dp, .tup (.of upd_same) (.cons (KdAt.num ((tps (u2.trans u3)).seq (.of upd_same))).dp (.cons (KdAt.truth ((tps u3).seq (.of upd_same))).dp .nil)), tm_shaped (by omega), by decide +kernel, _, rfl, ifT ?_ ?_⟩
        · rw [List.any_cons, List.any_cons, num_tm, truth_tm]
          rfl
        · exact ⟨_, rfl, qk rfl _ _ (u1.trans (u2.trans u3)) ⟨z, rfl, hk3⟩⟩
    · intro H2 ys sh e p
      rw [hlen] at p
      have hpi := inner_of p
      have s2 := s1.trans sh
      have hpil := hpi.length
      have hil := inner_len t
      -- _law_some
      refine ⟨_, rfl, D, rfl, ⟨_, .of e⟩, fun D2 hD2 => ?_⟩
      refine lc_map (walk_list (xs := ys)) (fun i y H' => ∃ s p, t.inner[i]? = some s ∧ y = .ref p ∧ SqT K H' p [.int s.parts, .int s.depth]) hD2 (by omega) (fun _ _ _ _ e ⟨s, p, h1, h2, h3⟩ => ⟨s, p, h1, h2, e.seq h3⟩) (fun H' s3 => .of (s3 _ _ e)) ?_ ?_ gm_name
      · rintro i x H3 H4 Qk hi s3 ⟨rfl, hx⟩ qk
        obtain ⟨j, hj, hxj⟩ := paired_at hpi hx
        have hjm := List.mem_of_getElem? hj
        have lj := Tm.inner_lt hjm
        exact ⟨rfl, _, rfl, x, j, rfl, hxj.same s3, plain_inner hpl hjm, by omega, by omega, fun u H5 s5 ⟨p, e1, e2⟩ => qk _ _ s5 ⟨j, p, hj, e1, e2⟩⟩
      · intro H3 zs s3 e3 hzl hzs
        -- the sum
        refine ⟨_, rfl, D2, rfl, ⟨_, .of e3⟩, fun D3 hD3 => ?_⟩
        refine lc_map (walk_list (xs := zs)) (fun i y _ => ∃ s, t.inner[i]? = some s ∧ y = V.int (s.parts : Nat)) hD3 (by omega) (fun _ _ _ _ _ h => h) (fun H' s4 => .of (s4 _ _ e3)) ?_ ?_ gm_tup2
        · rintro i x H4 H5 Qk hi s4 ⟨rfl, hx⟩ qk
          obtain ⟨s, p, h1, rfl, h3⟩ := hzs i x hx
          exact ⟨p, _, rfl, (tps s4).seq h3, rfl, _, _, rfl, _, _, rfl, rfl, rfl, _, rfl, qk _ _ (Same.refl _) ⟨s, h1, rfl⟩⟩
        · intro H4 ws s4 e4 hwl hws
          have ew := ints_of (fun (s : Tm) => (s.parts : Int)) (by omega) hws
          refine ⟨D3, t.inner.map fun s => (s.parts : Int), rfl, .of (ew ▸ e4), _, _, rfl, rfl, ?_⟩
          have e5 := s4 _ _ e3
          -- the depth
          refine ⟨sz1, fun l0 n0 => ?_⟩
          have u0 := same_new n0 (.lst [.int 0])
          refine ⟨_, rfl, D2, rfl, ⟨_, .of (u0 _ _ e5)⟩, fun D4 hD4 => ?_⟩
          refine lc_map (walk_list (xs := zs)) (fun i y _ => ∃ s, t.inner[i]? = some s ∧ y = V.int (s.depth : Nat)) hD4 (by omega) (fun _ _ _ _ _ h => h) (fun H' s6 => .of (s6 _ _ (u0 _ _ e5))) ?_ ?_ gm_tup2
          · rintro i x H6 H7 Qk hi s6 ⟨rfl, hx⟩ qk
            obtain ⟨s, p, h1, rfl, h3⟩ := hzs i x hx
            exact ⟨p, _, rfl, (tps (s4.trans (u0.trans s6))).seq h3, rfl, _, _, rfl, _, _, rfl, rfl, rfl, _, rfl, qk _ _ (Same.refl _) ⟨s, h1, rfl⟩⟩
          · intro H6 ws2 s6 e6 hwl2 hws2
            have ew2 := ints_of (fun (s : Tm) => (s.depth : Int)) (by omega) hws2
            have hsz : [V.int 0].length + ws2.length ≤ sizeLine := by
              rw [hwl2]
              exact Nat.le_trans (by simp; omega : _ ≤ 1000) (by decide)
            refine ⟨l0, D4, [.int 0], ws2, rfl, rfl, s6 _ _ upd_same, e6, hsz, fun l1 n1 => ?_⟩
            refine ⟨l1, (0 : Int) :: t.inner.map (fun s => (s.depth : Int)), rfl, .of ?_, by rw [List.length_cons]; omega, fun m hm hum => ⟨_, _, rfl, rfl, sz2, fun p np => ?_⟩⟩
            · rw [upd_same, ew2]
              rfl
            · have hdm := depth_max0 t m hm hum
              have hps := parts_sum t
              have sN : Same H2 (upd (upd H6 l1 (.lst ([.int 0] ++ ws2))) p (.tup [.int (1 + (t.inner.map fun s => (s.parts : Int)).sum), .int (1 + m)])) := updN (updN (s3.trans (s4.trans (u0.trans s6))) n1) np
              refine q _ _ (s2.trans sN) ⟨p, rfl, ?_⟩
              rw [← hdm, ← hps]
              exact .of upd_same
end
end K70
namespace K70
open PySem PySem.Spec PyProof.Rows L2
theorem told_no {w : Str} {r : List PyData} (h : PyData.eqv (.str w) (.str "told") = false) : PyData.eqv (.tuple (.str w :: r)) Tm.told.enc = false := by
  show PyData.eqv (.tuple (.str w :: r)) (.tuple [.str "told", .str "one", .tuple []]) = false
  simp only [PyData.eqv, PyData.eqvAll]
  have h' : (w == ("told" : Str)) = false := by simpa only [PyData.eqv] using h
  rw [h', Bool.false_and]
theorem tm_told {t : Tm} (h : t ≠ .told) : PyData.eqv t.enc Tm.told.enc = false := by
  cases t with
  | told => exact (h rfl).elim
  | nm => exact told_no (by decide +kernel)
  | one => exact told_no (by decide +kernel)
  | fn t => exact told_no (by decide +kernel)
  | call s t => exact told_no (by decide +kernel)
  | plus s t => exact told_no (by decide +kernel)
  | pair s t => exact told_no (by decide +kernel)
  | left t => exact told_no (by decide +kernel)
def It.wh (wb : Option Tm) : It → It
  | .t s => .t (s.wh wb)
  | i => i
theorem wh_its {wb : Option Tm} {t : Tm} (h : t ≠ .told) : (t.wh wb).its = t.its.map (It.wh wb) ∧ (t.wh wb).word = t.word := by
  cases t <;> first | exact (h rfl).elim | exact ⟨rfl, rfl⟩
theorem its_f {t : Tm} (h : It.f ∈ t.its) : t = .told := by
  cases t <;> simp [Tm.its] at h <;> rfl
theorem its_two {t : Tm} {k : Kd} (h : It.a k ∈ t.its ∨ It.d k ∈ t.its) : 2 ≤ t.depth := by
  cases t <;> simp [Tm.its] at h <;> (rename_i s; have := s.depth_pos; simp only [Tm.depth]; omega)
section
variable {P : Program} {w : World} {K : PySem.W.Frag} {mg : Str → Option Value} {base : Heap} {CS CF CT : Addr}
/-! ### _law_put_in -/
def spPutIn (K : PySem.W.Frag) (n : Nat) : Sp := fun vs H Q _ => ∃ v b body, vs = [v, b] ∧ TmAt K H b body ∧ ((∃ t, TmAt K H v t ∧ t.depth ≤ n ∧ t.depth ≤ 60 ∧ Ret H Q fun u H' => TmAt K H' u (t.wh (some body))) ∨
  (∃ k, (k = .num ∨ k = .truth) ∧ KdAt K H v k ∧ 1 ≤ n ∧ Ret H Q fun u H' => KdAt K H' u k))
theorem has_l_put_in (T : Txt w K mg) : ∀ n, Has P w K mg base CX0 (n + 1) "_law_put_in" (spPutIn K n) := by
  intro n
  obtain ⟨f, fd, D⟩ := T.f_l_put_in
  induction n with
  | zero =>
    refine D.none sc_l_put_in fun vs H Q E h => ?_
    obtain ⟨_, _, _, _, _, ⟨k, _, l, _⟩ | ⟨_, _, _, l, _⟩⟩ := h
    · have := k.depth_pos; omega
    · omega
  | succ n h_l_put_in =>
    refine D.ok0 sc_l_put_in (fun vs H Q E h => ?_) (fun cdv A outer s H vs Q E hr h => ?_)
    · obtain ⟨_, _, _, rfl, _⟩ := h
      rfl
    obtain ⟨v, b, body, rfl, hb, h⟩ := h
    have hx : ∃ a d, v = .ref a ∧ (∀ H', Same H H' → Dp K H' v d) ∧ SeqAt.shaped d = true ∧ (PyData.eqv d Tm.told.enc = true → ∀ H', Same H H' → Q b H') ∧ (PyData.eqv d Tm.told.enc = false → ∃ (xs : List V) (its : List It), SqT K H a xs ∧ Paired (ItAt K H) xs its ∧ xs.length ≤ 4 ∧ It.f ∉ its ∧
        (∀ s, It.t s ∈ its → s.depth ≤ n ∧ s.depth ≤ 60) ∧ (∀ k, It.a k ∈ its ∨ It.d k ∈ its → 1 ≤ n ∧ (k = .num ∨ k = .truth)) ∧
        ∀ H' p ys, Same H H' → SqT K H' p ys → Paired (ItAt K H') ys (its.map (It.wh (some body))) → Q (.ref p) H') := by
      rcases h with ⟨t, ht, hl, h60, q⟩ | ⟨k, hk, hkk, hl, q⟩
      · obtain ⟨a, xs, rfl, hs, hp⟩ := ht.view
        refine ⟨a, t.enc, rfl, fun H' s => (ht.same s).dp, tm_shaped (by omega), fun e => ?_, fun e => ?_⟩
        · intro H' sh
          by_cases hto : t = .told
          · subst hto
            exact q _ _ sh (hb.same sh)
          · rw [tm_told hto] at e
            cases e
        · have hto : t ≠ .told := fun z => by
            subst z
            rw [tm_eqv] at e
            cases e
          obtain ⟨e1, e2⟩ := wh_its (wb := some body) hto
          have hitl := its_len t
          have hlen := hp.length
          refine ⟨_, .x t.word :: t.its, hs, .cons rfl hp, by rw [List.length_cons]; omega, ?_, ?_, ?_, ?_⟩
          · intro hf
            cases hf with
            | tail _ hf => exact hto (its_f hf)
          · intro s hs
            cases hs with
            | tail _ hs => have := Tm.inner_lt (its_inner hs); omega
          · intro k hk
            have hk' : It.a k ∈ t.its ∨ It.d k ∈ t.its := by
              rcases hk with hk | hk
              · cases hk with
                | tail _ hk => exact .inl hk
              · cases hk with
                | tail _ hk => exact .inr hk
            have := its_two hk'
            refine ⟨by omega, ?_⟩
            rcases hk' with hk' | hk'
            · exact .inl (its_a hk')
            · exact .inr (its_d hk')
          · intro H' p ys sh hsy hpy
            cases hpy with
            | @cons y _ r _ h1 h2 =>
              cases (show y = V.str t.word from h1)
              rw [← e1] at h2
              rw [← e2] at hsy
              exact q _ _ sh (TmAt.mk hsy h2)
      · obtain ⟨a, xs, rfl, hs, hp⟩ := hkk.view
        have hsub : k.subs = [] := by rcases hk with rfl | rfl <;> rfl
        rw [hsub] at hp
        have hxs : xs = [] := Paired.nil' hp
        subst hxs
        refine ⟨a, k.enc, rfl, fun H' s => (hkk.same s).dp, kd_shaped (by rcases hk with rfl | rfl <;> decide), fun e => ?_, fun e => ⟨_, [.x k.word], hs, .cons rfl .nil, (show 1 ≤ 4 by decide), ?_, ?_, ?_, fun H' p ys sh hsy hpy => ?_⟩⟩
        · have : PyData.eqv k.enc Tm.told.enc = false := by rcases hk with rfl | rfl <;> exact told_no (by decide +kernel)
          rw [this] at e
          cases e
        · intro hf
          cases hf with
          | tail _ hf => cases hf
        · intro s hs
          cases hs with
          | tail _ hf => cases hf
        · intro j hj
          rcases hj with hj | hj
          · cases hj with
            | tail _ hf => cases hf
          · cases hj with
            | tail _ hf => cases hf
        · obtain ⟨y, rfl, h1⟩ := Paired.one (show Paired _ ys [It.x k.word] from hpy)
          cases (show y = V.str k.word from h1)
          exact q _ _ sh (KdAt.mk hsy (by rw [hsub]; exact .nil))
    obtain ⟨a, d, rfl, hd, hsh, q1, q2⟩ := hx
    refine ⟨_, (pss_cons (ps_if (pt_cmpR (op_eqD hr.units) (pv 0) (pe_tup (pa_cons pe_str (pa_cons pe_str (pa_cons pe_tup0 pa_nil)))) (nomark _)) (pss_one (ps_ret (pv 1))) pss_nil) (pss_one (ps_ret (pe_tupleOf rfl T.b_tuple (pe_lc (own := [("_law_part", 2)]) (tt := tYes) rfl sc_l_put_in.nd (pi_tup (pv 0)) (blkOk_by (own := [("_law_part", 2)]) (N := ["_law_term", "_law_body", "_law_part"]) (sc := defScope s_l_put_in) (by decide +kernel)) (fun _ _ _ _ _ => (pg_name (i := 2) sc_l_put_in.nd rfl (Or.inl rfl) (hf := .inr rfl))) (fun _ _ _ _ _ => pts_nil) (fun _ _ _ _ _ => (pe_ifExp (pt_val (pe_callB (r := rIsi K) call_isi (by rfl) T.b_isinstance bt_isinstance (pa_cons (pv 2) (pa_cons (pe_bltn (v := .ty "tuple") rfl T.b_tuple bt_tuple rfl) pa_nil)))) (pe_c h_l_put_in hr (by omega) (pa_cons (pv 2) (pa_cons (pv 1) pa_nil))) (pv 2)))))))), ?_⟩
    refine ⟨_, rfl, fun z hz => ⟨sz3, fun p1 n1 => ?_⟩⟩
    have s0 := same_new hz (.frz tupO (.tup []))
    have s1 := same_new n1 (.tup [.str "told", .str "one", .ref z])
    have s2 := s0.trans s1
    refine ⟨d, Tm.told.enc, hd _ s2, (TmAt.told (.of upd_same) ((tps s1).e0 upd_same)).dp, hsh, tm_shaped (by decide), _, rfl, ite2 (fun e => ⟨_, rfl, q1 e _ s2⟩) (fun e => ?_)⟩
    obtain ⟨xs, its, hs, hp, hx4, hnf, hts, hks, fin⟩ := q2 (by rw [Bool.not_eq_true] at e; exact e)
    have hlen := hp.length
    refine ⟨_, rfl, a, rfl, ⟨_, (tps s2).seq hs⟩, fun D hD => ?_⟩
    refine lc_map (walk_tup (xs := xs)) (fun i y H' => ∃ it, its[i]? = some it ∧ ItAt K H' y (it.wh (some body))) hD (by omega) (fun _ _ _ _ e ⟨it, h1, h2⟩ => ⟨it, h1, h2.mono e⟩) (fun H' sh => (tps (s2.trans sh)).seq hs) ?_ ?_ gm_name
    · rintro i x H2 H3 Qk hi sh ⟨rfl, hx⟩ qk
      have s3 := s2.trans sh
      obtain ⟨it, hit, hxi⟩ := paired_at hp hx
      have hmem := List.mem_of_getElem? hit
      cases it with
      | x z =>
        cases (show x = V.str z from hxi)
        exact ⟨rfl, _, rfl, _, _, _, _, _, rfl, .ty "tuple", .base (.str _), kit_st, _, rfl, iteF ⟨_, rfl, qk _ _ (Same.refl _) ⟨.x z, hit, rfl⟩⟩⟩
      | n z =>
        cases (show x = V.int z from hxi)
        exact ⟨rfl, _, rfl, _, _, _, _, _, rfl, .ty "tuple", .base (.int _), kit_it, _, rfl, iteF ⟨_, rfl, qk _ _ (Same.refl _) ⟨.n z, hit, rfl⟩⟩⟩
      | f => exact (hnf hmem).elim
      | t z =>
        have hk2 := TmAt.same s3 hxi
        obtain ⟨c, ys, rfl, hbs, _⟩ := hk2.view
        obtain ⟨l1, l2⟩ := hts z hmem
        exact ⟨rfl, _, rfl, _, _, _, _, _, rfl, .ty "tuple", tyx_tup hbs, kit_tt, _, rfl, iteT ⟨_, rfl, _, rfl, _, b, body, rfl, hb.same s3, .inl ⟨z, hk2, l1, l2, fun u H5 s5 hu => qk _ _ s5 ⟨.t z, hit, hu⟩⟩⟩⟩
      | a k =>
        have hk2 := KdAt.same s3 hxi
        obtain ⟨c, ys, rfl, hbs, _⟩ := hk2.view
        obtain ⟨l1, l2⟩ := hks k (.inl hmem)
        exact ⟨rfl, _, rfl, _, _, _, _, _, rfl, .ty "tuple", tyx_tup hbs, kit_tt, _, rfl, iteT ⟨_, rfl, _, rfl, _, b, body, rfl, hb.same s3, .inr ⟨k, l2, hk2, l1, fun u H5 s5 hu => qk _ _ s5 ⟨.a k, hit, hu⟩⟩⟩⟩
      | d k =>
        have hk2 := KdAt.same s3 hxi
        obtain ⟨c, ys, rfl, hbs, _⟩ := hk2.view
        obtain ⟨l1, l2⟩ := hks k (.inr hmem)
        exact ⟨rfl, _, rfl, _, _, _, _, _, rfl, .ty "tuple", tyx_tup hbs, kit_tt, _, rfl, iteT ⟨_, rfl, _, rfl, _, b, body, rfl, hb.same s3, .inr ⟨k, l2, hk2, l1, fun u H5 s5 hu => qk _ _ s5 ⟨.d k, hit, hu⟩⟩⟩⟩
    · intro H2 ys sh e hy hys
      refine .inl ⟨D, ys, rfl, .of e, fun p np => ?_⟩
      have sn := same_new np (.tup ys)
      refine fin _ p ys (s2.trans (sh.trans sn)) (.of upd_same) (paired_of (by rw [List.length_map]; omega) fun i y j h1 h2 => ?_)
      obtain ⟨it, h3, h4⟩ := hys i y h1
      rw [List.getElem?_map, h3] at h2
      cases h2
      exact h4.mono (tps sn)
end
end K70
namespace K70
open PySem PySem.Spec PyProof.Rows L2
section
variable {X : Cx} {a D : Addr} {oe : Obj} {pn : List (Addr × Obj)} {cls : Value} {d : Option Addr}
theorem call_isE' (hp : cls = .ref D ∧ d = none) (C : ExcC X.K D) (hz : Zc cls d oe) (hf : ∃ vs, oe.data = .fields vs) : CallR (X.suite a ((a, oe) :: pn)) (.builtin "isinstance") (rIsE X.K D a) := by
  obtain ⟨rfl, rfl⟩ := hp
  exact call_isE C hz hf
theorem call_isET' (hp : cls = .ref D ∧ d = none) (C : ExcC X.K D) (hz : Zc cls d oe) (hf : ∃ vs, oe.data = .fields vs) : CallR (X.suite a ((a, oe) :: pn)) (.builtin "isinstance") (rIsET X.K D a) := by
  obtain ⟨rfl, rfl⟩ := hp
  exact call_isET C hz hf
theorem pss_if {p : Prop} {sts : List Stmt} {t : TS} (f : p → PSs X sts t) : PSs X sts (fun D σ H => p ∧ t D σ H) := ⟨fun pins s σ H D I h => (f h.1).run pins s σ H D I h.2⟩
end
section
variable {P : Program} {w : World} {K : PySem.W.Frag} {mg : Str → Option Value} {base : Heap} {CS CF CT : Addr}
/-! ### _law_refused -/
def spRefT (K : PySem.W.Frag) (CF CT : Addr) : Sp := fun vs H Q _ => ∃ a z v sl fs n kvs t k kn wb, vs = [.ref a, .str "tell", .str z, v] ∧ StO CT H a sl fs n ∧ n ≤ 10 ∧ H fs = some (.dK kvs) ∧ kvs.length ≤ 10 ∧ okName z = true ∧ valV kvs (.inr z) = none ∧ TmAt K H v t ∧
  t.depth ≤ 30 ∧ t.uses ≤ 60 ∧ TbAt K CF H t kvs kn ∧ kin kn false t = some k ∧ k.word = "fun" ∧ KnOk kn ∧ WbAt K CF H t kvs wb ∧ WOk wb t ∧
  (fits wb t = true → ∀ r H' fs' o, SameX sl H H' → KdAt K H' r k → StO CT H' a sl fs' (n + 1) → H' fs' = some (.dK (kvs ++ [((.inr z : Key), .ref o)])) → FnO K CF H' o t (some k) (some (t.wh wb)) 1 → Q r H') ∧ (fits wb t = false → ∀ H', Same H H' → Q (.bl true) H')
def spRefR (K : PySem.W.Frag) (CF CT : Addr) : Sp := fun vs H Q _ => ∃ a v sl fs n t k o1 t1 ld1 bo1 n1 o2 t2 ld2 bo2 n2 k2, vs = [.ref a, .str "retell", .str "one", v] ∧ StO CT H a sl fs n ∧ n ≤ 10 ∧ H fs = some (.dK [(kOne, .ref o1), (kOther, .ref o2)]) ∧ TmAt K H v t ∧
  t.depth ≤ 30 ∧ t.plain = true ∧ kin none false t = some k ∧ k.word = "fun" ∧ k.depth ≤ 30 ∧ fits none t = true ∧ FnO K CF H o1 t1 ld1 bo1 n1 ∧ t1.uses = 0 ∧ FnO K CF H o2 t2 ld2 bo2 n2 ∧ t2.uses ≠ 0 ∧ t2.uses ≤ 60 ∧ t2.depth ≤ 30 ∧ kin (some k) false t2 = some k2 ∧ k2.word = "fun" ∧
  (fits (some t) t2 = true → ∀ r H' fs' p1 p2, SameX sl H H' → KdAt K H' r k → StO CT H' a sl fs' (n + 1) → H' fs' = some (.dK [(kOne, .ref p1), (kOther, .ref p2)]) → FnO K CF H' p1 t (some k) (some t) (n1 + 1) → FnO K CF H' p2 t2 (some k2) (some (t2.wh (some t))) (n2 + 1) → Q r H') ∧
  (fits (some t) t2 = false → ∀ H', Same H H' → Q (.bl true) H')
def spRef (K : PySem.W.Frag) (CF CT : Addr) : Sp := fun vs H Q E => spRefT K CF CT vs H Q E ∨ spRefR K CF CT vs H Q E
theorem SameX.new0 {o : Addr} {H H1 H2 : Hp} (a : Same H H1) (b : SameX o H1 H2) : SameX o H H2 := (SameX.of a).trans b
theorem has_l_refused (T : Txt w K mg) (O : Own w K mg CS CF CT) {DM DK DN : Addr} (R : Err w K mg DM DK DN) : Has P w K mg base CX0 171 "_law_refused" (spRef K CF CT) := by
  obtain ⟨f, fd, D⟩ := T.f_l_refused
  have c_Stand : Cls K CT := O.c_Stand.elim fun _ h => h.elim fun _ h => h.cl
  have h_tell := has_tell (P := P) (base := base) T O R
  have h_retell := has_retell (P := P) (base := base) T O R
  obtain ⟨D1, D2, D3, D4, D5, D6, g1, g2, g3, g4, g5, g6, kA⟩ := R.k3
  refine D.ok0 sc_l_refused (fun vs H Q E h => ?_) (fun cdv A outer s H vs Q E hr h => ?_)
  · rcases h with ⟨_, _, _, _, _, _, _, _, _, _, _, rfl, _⟩ | ⟨_, _, _, _, _, _, _, _, _, _, _, _, _, _, _, _, _, _, rfl, _⟩ <;> rfl
  have nd := sc_l_refused.nd
  refine ⟨_, pss_cons (ps_set (i := 4) nd rfl (Or.inl rfl) pe_non) (pss_cons (ps_try_as (i := 5) rfl rfl nd rfl rfl ⟨rfl, by decide, .inl R.gK⟩ takes0
    (fun W pn xe tk _ => pss_one (ps_if (pt_cmpR op_eq (pv 1) pe_str (nomark _))
      (pss_one (ps_set (i := 4) nd rfl (Or.inl rfl) (pe_mX tk h_tell c_Stand hr (by omega) (pv 0) (pa_cons (pv 2) (pa_cons pe_tup0 (pa_cons (pv 3) pa_nil))))))
      (pss_one (ps_set (i := 4) nd rfl (Or.inl rfl) (pe_mX tk h_retell c_Stand hr (by omega) (pv 0) (pa_cons (pv 2) (pa_cons pe_tup0 (pa_cons (pv 3) pa_nil))))))))
    (fun a oe cls d pn hz hf => pss_if (p := cls = .ref DM ∧ d = none) fun hp => pss_cons (ps_set (i := 4) nd rfl (Or.inl rfl) (pe_and (pe_callB (call_isE' hp R.cx hz hf) (by rfl) T.b_isinstance bt_isinstance (pa_cons (pv 5) (pa_cons (pe_glob (v := .ref DM) rfl R.gM rfl) pa_nil)))
        (pe_one (pe_callB (call_isE' hp R.cx hz hf) (by rfl) T.b_isinstance bt_isinstance (pa_cons (pv 5) (pa_cons (pe_bltn (v := .ty "ValueError") rfl T.b_ValueError bt_ValueError rfl) pa_nil))))))
      (pss_one (ps_if (pt_val (pe_callB (call_isET' hp R.cx hz hf) (by rfl) T.b_isinstance bt_isinstance (pa_cons (pv 5) (pa_cons (pe_tup (pa_cons (pe_glob (v := .ref D1) rfl g1 rfl) (pa_cons (pe_glob (v := .ref D2) rfl g2 rfl) (pa_cons (pe_glob (v := .ref DN) rfl R.gN rfl) (pa_cons (pe_glob (v := .ref D3) rfl g3 rfl) (pa_cons (pe_glob (v := .ref D4) rfl g4 rfl) (pa_cons (pe_glob (v := .ref D5) rfl g5 rfl) (pa_cons (pe_glob (v := .ref D6) rfl g6 rfl) pa_nil)))))))) pa_nil))))
        (pss_one (ps_set (i := 4) nd rfl (Or.inl rfl) pe_bl)) pss_nil)))) (pss_one (ps_ret (pv 4)))), ?_⟩
  rcases h with ⟨a, z, v, sl, fs, n, kvs, t, k, kn, wb, rfl, hst, hn, hfs, hkl, hz, hv, ht, hl, hus, htb, hki, hkw, hko, hwb, hok, q, qe⟩ | ⟨a, v, sl, fs, n, t, k, o1, t1, ld1, bo1, n1, o2, t2, ld2, bo2, n2, k2, rfl, hst, hn, hfs, ht, hl, hpl, hki, hkw, hkd, hft, hfo1, hu1, hfo2, hu2, hu2', hl2, hki2, hkw2, q, qe⟩
  · obtain ⟨dx, ds, ha, hsl, hdl⟩ := id hst
    refine ⟨_, rfl, rfl, _, rfl, ifT (decide_eq_true rfl) ?_⟩
    refine ⟨_, rfl, a, dx, _, rfl, ha, rfl, _, rfl, fun e0 he0 => ⟨_, rfl, ?_⟩⟩
    have s0 := same_new he0 (.frz tupO (.tup []))
    have z0 : E0At (upd H e0 (.frz tupO (.tup []))) e0 := upd_same
    refine ⟨a, z, e0, v, sl, fs, n, kvs, t, k, kn, wb, rfl, hst.same s0, hn, s0 _ _ hfs, hkl, hz, hv, z0.seq, ht.same s0, hl, hus, htb.same s0, hki, hkw, hko, hwb.same s0, hok, fun hf r H' fs' o x kr st dfs fo => ⟨_, rfl, q hf r H' fs' o (SameX.new0 s0 x) kr st dfs fo⟩, fun hf H' s' => ?_⟩
    refine ⟨true, R.ex, fun _ b hb => ⟨⟨rfl, rfl⟩, ?_⟩, (fun e => by cases e)⟩
    refine ⟨_, rfl, _, _, true, rfl, (fun _ h => h), R.k1, _, rfl, iteT ?_⟩
    refine ⟨_, rfl, _, _, true, rfl, (fun _ h => h), R.k2, ?_⟩
    refine ⟨_, rfl, (show 7 ≤ sizeLine by decide), fun tp htp => ⟨tp, _, _, false, rfl, upd_same, .cons (.own _) (.cons (.own _) (.cons (.own _) (.cons (.own _) (.cons (.own _) (.cons (.own _) (.cons (.own _) .nil)))))), kA, _, rfl, iteF ?_⟩⟩
    exact ⟨_, rfl, qe hf _ (s0.trans (s'.trans (same_new htp _)))⟩
  · obtain ⟨dx, ds, ha, hsl, hdl⟩ := id hst
    refine ⟨_, rfl, rfl, _, rfl, ifF (decide_eq_false (by decide +kernel)) ?_⟩
    refine ⟨_, rfl, a, dx, _, rfl, ha, rfl, _, rfl, fun e0 he0 => ⟨_, rfl, ?_⟩⟩
    have s0 := same_new he0 (.frz tupO (.tup []))
    have z0 : E0At (upd H e0 (.frz tupO (.tup []))) e0 := upd_same
    refine ⟨a, e0, v, sl, fs, n, t, k, o1, t1, ld1, bo1, n1, o2, t2, ld2, bo2, n2, k2, rfl, hst.same s0, hn, s0 _ _ hfs, z0.seq, ht.same s0, hl, hpl, hki, hkw, hkd, hft, hfo1.same s0, hu1, hfo2.same s0, hu2, hu2', hl2, hki2, hkw2, fun hf r H' fs' p1 p2 x kr st dfs f1 f2 => ⟨_, rfl, q hf r H' fs' p1 p2 (SameX.new0 s0 x) kr st dfs f1 f2⟩, fun hf H' s' => ?_⟩
    refine ⟨true, R.ex, fun _ b hb => ⟨⟨rfl, rfl⟩, ?_⟩, (fun e => by cases e)⟩
    refine ⟨_, rfl, _, _, true, rfl, (fun _ h => h), R.k1, _, rfl, iteT ?_⟩
    refine ⟨_, rfl, _, _, true, rfl, (fun _ h => h), R.k2, ?_⟩
    refine ⟨_, rfl, (show 7 ≤ sizeLine by decide), fun tp htp => ⟨tp, _, _, false, rfl, upd_same, .cons (.own _) (.cons (.own _) (.cons (.own _) (.cons (.own _) (.cons (.own _) (.cons (.own _) (.cons (.own _) .nil)))))), kA, _, rfl, iteF ?_⟩⟩
    exact ⟨_, rfl, qe hf _ (s0.trans (s'.trans (same_new htp _)))⟩
end
end K70
namespace K70
open PySem PySem.Spec PyProof.Rows L2
abbrev keysOf (kvs : List (Key × V)) : List V := kvs.map fun kv => kV kv.1
def isFnK : Kd → Bool
  | .fn _ _ => true
  | _ => false
theorem isFnK_word {k : Kd} (h : isFnK k = true) : k.word = "fun" := by cases k <;> first | exact rfl | cases h
/-- t has a told kind, and by it o has one -/
def kindOk (t o : Tm) : Bool := match kin none false t with
  | some k => isFnK k && decide (k.depth ≤ 30) && (match kin (some k) false o with
    | some k2 => isFnK k2
    | none => false)
  | none => false
theorem kindOk_is {t o : Tm} (h : kindOk t o = true) : ∃ k k2, kin none false t = some k ∧ k.word = "fun" ∧ k.depth ≤ 30 ∧ kin (some k) false o = some k2 ∧ k2.word = "fun" := by
  unfold kindOk at h
  split at h
  · rename_i k e
    rw [Bool.and_eq_true, Bool.and_eq_true, decide_eq_true_eq] at h
    obtain ⟨⟨h1, h2⟩, h3⟩ := h
    split at h3
    · rename_i k2 e2
      exact ⟨k, k2, e, isFnK_word h1, h2, e2, isFnK_word h3⟩
    · cases h3
  · cases h
def good1 (t : Tm) : Bool := t.plain && decide (t.depth ≤ 30)
def Good (f l o : Tm) (ag : Bool) : Bool :=
  good1 f && good1 l && decide (o.depth ≤ 30) && decide (o.uses ≠ 0) && decide (o.uses ≤ 60) && (o.wh (some f)).plain && decide ((o.wh (some f)).depth ≤ 60) && decide ((o.wh (some l)).depth ≤ 60) &&
    (if ag = true then kindOk l o && fits none l && fits (some l) o && kindOk f o && fits none f else kindOk f o && fits none f)
structure GoodIs (f l o : Tm) (ag : Bool) : Prop where
  fp : f.plain = true
  fd : f.depth ≤ 30
  lp : l.plain = true
  ld : l.depth ≤ 30
  od : o.depth ≤ 30
  ou : o.uses ≠ 0
  ou' : o.uses ≤ 60
  bp : (o.wh (some f)).plain = true
  bd : (o.wh (some f)).depth ≤ 60
  bl : (o.wh (some l)).depth ≤ 60
  kf : kindOk f o = true
  ff : fits none f = true
  kl : ag = true → kindOk l o = true ∧ fits none l = true ∧ fits (some l) o = true
theorem Good.is {f l o : Tm} {ag : Bool} (h : Good f l o ag = true) : GoodIs f l o ag := by
  unfold Good good1 at h
  simp only [Bool.and_eq_true, decide_eq_true_eq] at h
  obtain ⟨⟨⟨⟨⟨⟨⟨⟨⟨h1, h2⟩, h3, h4⟩, h5⟩, h6⟩, h7⟩, h8⟩, h9⟩, h10⟩, h11⟩ := h
  cases ag with
  | true =>
    rw [if_pos rfl] at h11
    simp only [Bool.and_eq_true] at h11
    obtain ⟨⟨⟨⟨a, b⟩, c⟩, d⟩, e⟩ := h11
    exact ⟨h1, h2, h3, h4, h5, h6, h7, h8, h9, h10, d, e, fun _ => ⟨a, b, c⟩⟩
  | false =>
    rw [if_neg (by decide)] at h11
    simp only [Bool.and_eq_true] at h11
    exact ⟨h1, h2, h3, h4, h5, h6, h7, h8, h9, h10, h11.1, h11.2, fun e => by cases e⟩
theorem fits_is {wb : Option Tm} {t : Tm} (h : fits wb t = true) : (t.wh wb).parts ≤ 200 ∧ (t.wh wb).depth ≤ 30 := by
  unfold fits at h
  rw [Bool.and_eq_true, decide_eq_true_eq, decide_eq_true_eq] at h
  exact h
theorem fits_not {wb : Option Tm} {t : Tm} (h : fits wb t = false) (hp : (t.wh wb).parts ≤ 200) : ¬ (t.wh wb).depth ≤ 30 := fun hd => by
  unfold fits at h
  rw [decide_eq_true hp, decide_eq_true hd] at h
  cases h
theorem ok_one : okName "one" = true := by decide +kernel
theorem ok_other : okName "other" = true := by decide +kernel
theorem val_no {u : V} : valV [(kOne, u)] kOther = none := (valV_neg (Ne.symm ne_keys)).trans valV_nil
/-- a name and its whole, as data -/
def encB (zb : Str × Tm) : PyData := .tuple [.str zb.1, zb.2.enc]
theorem lay_b {bs : List (Str × Tm)} (h : ∀ zb ∈ bs, zb.1 = "one" ∨ zb.1 = "other") : (PyData.list (bs.map encB)).canLay0 = true := by
  simp only [PyData.canLay0]
  induction bs with
  | nil => rfl
  | cons b r ih =>
    have h1 : PyData.canLay0 (encB b) = true := by
      unfold encB
      simp only [PyData.canLay0]
      rcases h b (.head _) with e | e
      · rw [e, cl_str ly_one]
        simp only [PyData.canLayAll0, tm_lay, Bool.and_true]
      · rw [e, cl_str ly_other]
        simp only [PyData.canLayAll0, tm_lay, Bool.and_true]
    simp only [List.map_cons, PyData.canLayAll0, h1, ih fun z hz => h z (.tail _ hz), Bool.and_self]
theorem depth_b {bs : List (Str × Tm)} (h : ∀ zb ∈ bs, zb.2.depth ≤ 60) : (PyData.list (bs.map encB)).depth ≤ 64 := by
  have : PyData.depthAll (bs.map encB) ≤ 63 := by
    induction bs with
    | nil => exact (by decide : 0 ≤ 63)
    | cons b r ih =>
      have h1 := tm_depth b.2
      have h2 := h b (.head _)
      have h3 := ih fun z hz => h z (.tail _ hz)
      simp only [List.map_cons, encB, PyData.depthAll, PyData.depth]
      omega
  simp only [PyData.depth]
  omega
theorem shaped_b {bs : List (Str × Tm)} (h : ∀ zb ∈ bs, zb.1 = "one" ∨ zb.1 = "other") (h2 : ∀ zb ∈ bs, zb.2.depth ≤ 60) : SeqAt.shaped (.list (bs.map encB)) = true := by
  show ((PyData.list (bs.map encB)).canLay0 && decide ((PyData.list (bs.map encB)).depth ≤ 64)) = true
  rw [lay_b h, decide_eq_true (depth_b h2)]
  rfl
theorem dp_b {K : PySem.W.Frag} {H : Hp} {a : Addr} {ys : List V} {bs : List (Str × Tm)} (h : SqL K H a ys) (p : Paired (fun y (zb : Str × Tm) => ∃ q v, y = .ref q ∧ SqT K H q [.str zb.1, v] ∧ TmAt K H v zb.2) ys bs) : Dp K H (.ref a) (.list (bs.map encB)) := by
  refine .lst h ?_
  clear h
  induction p with
  | nil => exact .nil
  | cons h _ ih =>
    obtain ⟨q, v, rfl, h1, h2⟩ := h
    exact .cons (.tup h1 (.cons (.str _) (.cons h2.dp .nil))) ih
theorem eqv_b {bs : List (Str × Tm)} (h : ∀ zb ∈ bs, zb.1 = "one" ∨ zb.1 = "other") : PyData.eqv (.list (bs.map encB)) (.list (bs.map encB)) = true := SeqAt.eqv_refl _ (lay_b h)
section
variable {P : Program} {w : World} {K : PySem.W.Frag} {mg : Str → Option Value} {base : Heap} {CS CF CT : Addr}
def spRight (K : PySem.W.Frag) : Sp := fun vs H Q _ => ∃ vf vl vo f l o ag, vs = [vf, vl, vo, .bl ag] ∧ TmAt K H vf f ∧ TmAt K H vl l ∧ TmAt K H vo o ∧ Good f l o ag = true ∧ Ret H Q fun u _ => u = .bl true
/-- the functions that stand, their wholes; each made once -/
def Stands (K : PySem.W.Frag) (CF : Addr) (H : Hp) (kvs : List (Key × V)) (bs : List (Str × Tm)) : Prop :=
  Paired (fun (kv : Key × V) (zb : Str × Tm) => kv.1 = .inr zb.1 ∧ ∃ o t ld, valV kvs (.inr zb.1) = some (.ref o) ∧ FnO K CF H o t ld (some zb.2) 1) kvs bs
theorem Stands.same {H H' : Hp} (e : Same H H') {kvs : List (Key × V)} {bs : List (Str × Tm)} (h : Stands K CF H kvs bs) : Stands K CF H' kvs bs :=
  Paired.mapP h fun _ _ ⟨a, o, t, ld, b, c⟩ => ⟨a, o, t, ld, b, c.same e⟩
abbrev N14 : List Str := ["_law_first", "_law_less", "_law_other", "_law_again", "_law_stand", "_law_body", "_law_many", "_law_deep", "_law_great", "_law_start", "_law_found", "_law_kept", "_law_here", "_law_name"]
def ifBody : Stmt → List Stmt
  | .If _ a _ _ => a
  | _ => []
theorem has_l_right (T : Txt w K mg) (O : Own w K mg CS CF CT) {DM DK DN : Addr} (R : Err w K mg DM DK DN) : Has P w K mg base CX0 172 "_law_right" (spRight K) := by
  obtain ⟨fA, fd, D⟩ := T.f_l_right
  have c_Stand : Cls K CT := O.c_Stand.elim fun _ h => h.elim fun _ h => h.cl
  have h_Stand_init := has_Stand (P := P) (base := base) T O
  have h_Stand_made := has_St_made (P := P) (base := base) T O
  have h_Stand_whole := has_St_whole (P := P) (base := base) T O
  have h_Stand_names := has_St_names (P := P) (base := base) T O
  have h_l_put_in := has_l_put_in (P := P) (base := base) T 60
  have h_l_measured := has_l_measured (P := P) (base := base) T 60
  have h_l_refused := has_l_refused (P := P) (base := base) T O R
  refine D.ok0 sc_l_right (fun vs H Q E h => ?_) (fun cdv A outer s H vs Q E hr h => ?_)
  · obtain ⟨_, _, _, _, _, _, _, rfl, _⟩ := h
    rfl
  obtain ⟨vf, vl, vo, f, l, o, ag, rfl, hf, hl, ho, hG, q⟩ := h
  have G := Good.is hG
  obtain ⟨kf, kfo, ekf, wkf, dkf, ekfo, wkfo⟩ := kindOk_is G.kf
  have huf := uses_plain G.fp
  have hul := uses_plain G.lp
  have h3 : ∃ t3 : TS, PSs (cxOf CX0 P w K mg base N14 "_law_right" (defScope s_l_right) fA cdv A outer s H E).nox (ifBody ((defBody s_l_right).getD 8 (.Pass ⟨0, 0, 0, 0⟩))) t3 ∧
      ∀ (DD0 : Ends) (vs0 : V) (st0 : Tm) (H4 : Hp) (a sl fs4 : Addr) (n4 : Nat) (kvs4 : List (Key × V)) (x5 x6 x7 x8 : Option V), DD0.rt = Q → Same H H4 → TmAt K H vs0 st0 → st0.depth ≤ 60 → o.depth ≤ 60 → (o.wh (some st0)).depth ≤ 60 → StO CT H4 a sl fs4 n4 → H4 fs4 = some (.dK kvs4) →
        Stands K CF H4 kvs4 (("one", st0) :: if ag = true then [("other", o.wh (some st0))] else []) →
        t3 DD0 [some vf, some vl, some vo, some (.bl ag), some (.ref a), x5, x6, x7, x8, some vs0, some (.bl true), none, none, none] H4 := by
    refine ⟨_, (pss_cons (ps_set (i := 11) sc_l_right.nd rfl (Or.inl rfl) (pe_op op_cat (pe_lst (pa_cons (pe_tup (pa_cons pe_str (pa_cons (pv 9) pa_nil))) pa_nil)) (pe_op op_rep (pe_lst (pa_cons (pe_tup (pa_cons pe_str (pa_cons (pe_c h_l_put_in hr (by omega) (pa_cons (pv 2) (pa_cons (pv 9) pa_nil))) pa_nil))) pa_nil)) (pe_callTy call_int1 (by rfl) T.b_int bt_int (pa_cons (pv 3) pa_nil))))) (pss_cons (ps_setLc (i := 12) (own := [("_law_name", 13)]) (tt := tYes) rfl sc_l_right.nd rfl rfl (sw_true rfl rfl rfl (by decide +kernel)) (pi_tup (pe_m0 h_Stand_names c_Stand hr (by omega) (pv 4))) (blkOk_by (own := [("_law_name", 13)]) (N := ["_law_first", "_law_less", "_law_other", "_law_again", "_law_stand", "_law_body", "_law_many", "_law_deep", "_law_great", "_law_start", "_law_found", "_law_kept", "_law_here", "_law_name"]) (sc := defScope s_l_right) (by decide +kernel)) (fun _ _ _ _ _ => (pg_name (i := 13) sc_l_right.nd rfl (Or.inl rfl) (hf := .inr rfl))) (fun _ _ _ _ _ => pts_nil) (fun _ _ _ _ _ => (pe_tup (pa_cons (pv 13) (pa_cons (pe_m h_Stand_whole c_Stand hr (by omega) (pv 4) (pa_cons (pv 13) pa_nil)) pa_nil))))) (pss_one (ps_ret (pe_and (pe_cmpR op_is_bl (pv 10) pe_bl (nomark _)) (pe_and (pe_cmpR (op_eqD hr.units) (pv 12) (pv 11) (nomark _)) (pe_one (pe_cmpR (op_eqD hr.units) (pe_lc (own := [("_law_name", 13)]) (tt := tYes) rfl sc_l_right.nd (pi_tup (pe_m0 h_Stand_names c_Stand hr (by omega) (pv 4))) (blkOk_by (own := [("_law_name", 13)]) (N := ["_law_first", "_law_less", "_law_other", "_law_again", "_law_stand", "_law_body", "_law_many", "_law_deep", "_law_great", "_law_start", "_law_found", "_law_kept", "_law_here", "_law_name"]) (sc := defScope s_l_right) (by decide +kernel)) (fun _ _ _ _ _ => (pg_name (i := 13) sc_l_right.nd rfl (Or.inl rfl) (hf := .inr rfl))) (fun _ _ _ _ _ => pts_nil) (fun _ _ _ _ _ => (pe_m h_Stand_made c_Stand hr (by omega) (pv 4) (pa_cons (pv 13) pa_nil)))) (pe_op op_rep (pe_lst (pa_cons pe_int pa_nil)) (pe_callB call_len_seq (by rfl) T.b_len bt_len (pa_cons (pv 11) pa_nil))) (nomark _))))))))), ?_⟩
    intro DD0 vs0 st0 H4 a sl fs4 n4 kvs4 x5 x6 x7 x8 hrt s04 hv0 hd0 hdo hdb st4 dfs4 hS

    cases ag with
    | false =>
      replace hS : Stands K CF H4 kvs4 [(("one" : Str), st0)] := hS
      have hbs : ∀ zb ∈ ([(("one" : Str), st0)] : List (Str × Tm)), zb.1 = "one" ∨ zb.1 = "other" := (by intro zb hz; simp at hz; subst hz; simp)
      have hbd : ∀ zb ∈ ([(("one" : Str), st0)] : List (Str × Tm)), zb.2.depth ≤ 60 := (by intro zb hz; simp at hz; subst hz; exact hd0)
      -- _law_kept
      refine ⟨_, rfl, sz2, fun k1 nk1 => ⟨sz1, fun k2 nk2 => ?_⟩⟩
      have u1 := same_new nk1 (.tup [.str "one", vs0])
      have u2 := same_new nk2 (.lst [.ref k1])
      have uA := s04.trans (u1.trans u2)
      refine ⟨_, rfl, _, rfl, vo, vs0, st0, rfl, hv0.same uA, .inl ⟨o, ho.same uA, by have := G.od; omega, hdo, fun y7 H7 s7 hy7 => ?_⟩⟩
      refine ⟨sz2, fun k3 nk3 => ⟨sz1, fun k4 nk4 => ?_⟩⟩
      have u3 := same_new nk3 (.tup [.str "other", y7])
      have u4 := same_new nk4 (.lst [.ref k3])
      refine ⟨_, rfl, .inr ⟨false, rfl, ?_⟩⟩
      refine ⟨k4, 0, _, rfl, rfl, upd_same, by decide, by decide, (show 1 * 0 ≤ sizeLine by decide), fun k5 nk5 => ?_⟩
      have u5 := same_new nk5 (.lst (List.replicate (0 : Int).toNat [V.ref k3]).flatten)
      have uB := s7.trans (u3.trans (u4.trans u5))
      refine ⟨k2, k5, _, _, rfl, rfl, uB _ _ upd_same, upd_same, (show 1 + 0 ≤ sizeLine by decide), fun k6 nk6 => ?_⟩
      have u6 := same_new nk6 (.lst ([.ref k1] ++ (List.replicate (0 : Int).toNat [V.ref k3]).flatten))
      have uC := uB.trans u6
      have uD := uA.trans uC
      have k1D := (tps (u2.trans uC)).seq (K := K) (.of (upd_same (H := H4) (a := k1) (o := .tup [.str "one", vs0])))
      have k3D := (tps (u4.trans (u5.trans u6))).seq (K := K) (.of (upd_same (H := H7) (a := k3) (o := .tup [.str "other", y7])))
      have hy8 := hy7.same (u3.trans (u4.trans (u5.trans u6)))
      have hv8 := hv0.same uD
      have stD := st4.same (u1.trans (u2.trans uC))
      have dfsD := (u1.trans (u2.trans uC)) _ _ dfs4
      have hSD := hS.same (u1.trans (u2.trans uC))
      have k6D : (upd (upd (upd (upd H7 k3 (.tup [.str "other", y7])) k4 (.lst [.ref k3])) k5 (.lst (List.replicate (0 : Int).toNat [V.ref k3]).flatten)) k6 (.lst ([.ref k1] ++ (List.replicate (0 : Int).toNat [V.ref k3]).flatten))) k6 = some (.lst ([.ref k1] ++ (List.replicate (0 : Int).toNat [V.ref k3]).flatten)) := upd_same
      generalize upd (upd (upd (upd H7 k3 (.tup [.str "other", y7])) k4 (.lst [.ref k3])) k5 (.lst (List.replicate (0 : Int).toNat [V.ref k3]).flatten)) k6 (.lst ([.ref k1] ++ (List.replicate (0 : Int).toNat [V.ref k3]).flatten)) = H8 at *
      -- _law_here
      obtain ⟨dx8, ds8, ha8, hsl8, hdl8⟩ := id stD
      refine ⟨_, rfl, a, dx8, _, rfl, ha8, rfl, a, sl, fs4, n4, _, rfl, stD, dfsD, fun r9 H9 s9 ⟨pn, en, hpn⟩ => ?_⟩
      subst en
      have hkl : kvs4.length ≤ 2 := by rw [Paired.length hSD]; simp
      refine ⟨pn, rfl, ⟨_, hpn⟩, fun DD hDD => ?_⟩
      refine lc_map (walk_tup (xs := keysOf kvs4)) (fun i y H' => ∃ (zb : Str × Tm) (qq : Addr) (vv : V), ([(("one" : Str), st0)] : List (Str × Tm))[i]? = some zb ∧ y = V.ref qq ∧ SqT K H' qq [.str zb.1, vv] ∧ TmAt K H' vv zb.2) hDD (by show (List.map _ _).length ≤ 1000; rw [List.length_map]; omega) (fun _ _ _ _ e ⟨zb, qq, vv, h1, h2, h3, h4⟩ => ⟨zb, qq, vv, h1, h2, e.seq h3, h4.mono e⟩) (fun H' sh => (tps sh).seq hpn) ?_ ?_ gm_name
      · rintro i x H10 H11 Qk hi s10 ⟨rfl, hx⟩ qk
        rw [List.getElem?_map] at hx
        obtain ⟨kv, hkv, rfl⟩ := Option.map_eq_some_iff.mp hx
        obtain ⟨zb, hzb, ek, oo, tt, ll, hvv, hfo⟩ := paired_at hSD hkv
        have sK := s9.trans s10
        refine ⟨rfl, _, rfl, _, rfl, a, dx8, _, rfl, sK _ _ ha8, rfl, _, rfl, a, zb.1, sl, fs4, n4, _, oo, tt, ll, zb.2, 1, ?_, stD.same sK, sK _ _ dfsD, hvv, hfo.same sK, fun vv hv => ⟨sz2, fun qq nq => ?_⟩⟩
        · rw [ek]
          rfl
        · have sq := same_new nq (.tup [kV kv.1, vv])
          refine qk _ _ sq ⟨zb, qq, vv, hzb, rfl, ?_, hv.same sq⟩
          rw [ek]
          exact .of upd_same
      · intro H10 ys s10 e10 hy10 hys
        have hpy : Paired (fun y (zb : Str × Tm) => ∃ q v, y = V.ref q ∧ SqT K H10 q [.str zb.1, v] ∧ TmAt K H10 v zb.2) ys [(("one" : Str), st0)] := paired_of (by rw [hy10]; show (List.map _ _).length = _; rw [List.length_map, Paired.length hSD]) fun i y zb h1 h2 => by
          obtain ⟨zb', qq, vv, h3, h4, h5, h6⟩ := hys i y h1
          rw [h2] at h3
          cases h3
          exact ⟨qq, vv, h4, h5, h6⟩
        have sK := s9.trans s10
        have hdH : Dp K H10 (.ref DD) (.list (([(("one" : Str), st0)] : List (Str × Tm)).map encB)) := dp_b (.of e10) hpy
        have hdK : Dp K H10 (.ref k6) (.list (([(("one" : Str), st0)] : List (Str × Tm)).map encB)) := dp_b (.of (sK _ _ k6D)) (.cons ⟨k1, vs0, rfl, (tps sK).seq k1D, hv8.same sK⟩ .nil)
        refine ⟨_, rfl, _, _, rfl, rfl, _, rfl, iteT ?_⟩
        refine ⟨_, rfl, _, rfl, _, _, hdH, hdK, shaped_b hbs hbd, shaped_b hbs hbd, _, rfl, ifT (eqv_b hbs) ?_⟩
        -- made
        refine ⟨_, rfl, a, dx8, _, rfl, sK _ _ ha8, rfl, a, sl, fs4, n4, _, rfl, stD.same sK, sK _ _ dfsD, fun r12 H12 s12 ⟨pn2, en2, hpn2⟩ => ?_⟩
        subst en2
        have sL := sK.trans s12
        refine ⟨pn2, rfl, ⟨_, hpn2⟩, fun D2 hD2 => ?_⟩
        refine lc_map (walk_tup (xs := keysOf kvs4)) (fun i y _ => y = .int 1) hD2 (by show (List.map _ _).length ≤ 1000; rw [List.length_map]; omega) (fun _ _ _ _ _ h => h) (fun H' sh => (tps sh).seq hpn2) ?_ ?_ gm_name
        · rintro i x H13 H14 Qk hi s13 ⟨rfl, hx⟩ qk
          rw [List.getElem?_map] at hx
          obtain ⟨kv, hkv, rfl⟩ := Option.map_eq_some_iff.mp hx
          obtain ⟨zb, hzb, ek, oo, tt, ll, hvv, hfo⟩ := paired_at hSD hkv
          have sM := sL.trans s13
          refine ⟨rfl, _, rfl, a, dx8, _, rfl, sM _ _ ha8, rfl, _, rfl, a, zb.1, sl, fs4, n4, _, oo, tt, ll, _, 1, ?_, stD.same sM, sM _ _ dfsD, hvv, hfo.same sM, qk _ _ (Same.refl _) rfl⟩
          rw [ek]
          rfl
        · intro H13 zs s13 e13 hz13 hzs
          have ez : zs = (List.replicate zs.length (1 : Int)).map V.int := by
            refine List.ext_getElem? fun i => ?_
            cases ei : zs[i]? with
            | none =>
              have : zs.length ≤ i := List.getElem?_eq_none_iff.mp ei
              rw [List.getElem?_eq_none (by rw [List.length_map, List.length_replicate]; omega)]
            | some y =>
              have hi : i < zs.length := (List.getElem?_eq_some_iff.mp ei).1
              rw [hzs i y ei, List.getElem?_map, List.getElem?_replicate, if_pos hi]
              rfl
          have hzl : zs.length = 1 := by
            rw [hz13]
            show (List.map _ _).length = _
            rw [List.length_map, Paired.length hSD]
            rfl
          rw [hzl] at ez
          rw [ez] at e13
          have sM := sL.trans s13
          refine ⟨sz1, fun m1 nm1 => ?_⟩
          have w1 := same_new nm1 (.lst [.int 1])
          refine ⟨_, rfl, k6, _, rfl, .inl (.of ((sM.trans w1) _ _ k6D)), ?_⟩
          refine ⟨m1, _, _, rfl, rfl, upd_same, by simp, by simp, ?_, fun m2 nm2 => ?_⟩
          · exact (show 1 * 1 ≤ sizeLine by decide)
          have w2 := same_new nm2 (.lst (List.replicate 1 [V.int 1]).flatten)
          refine ⟨_, _, dp_ints ((w1.trans w2) _ _ e13), dp_ints (ns := List.replicate 1 1) upd_same, shaped_ints _, shaped_ints _, ?_⟩
          show DD0.rt _ _
          rw [hrt]
          exact (congrArg (fun b => Q (.bl b) _) (by decide : PyData.eqv (.list ((List.replicate 1 (1 : Int)).map PyData.int)) (.list ((List.replicate 1 (1 : Int)).map PyData.int)) = true)).mpr (q _ _ (uD.trans (sM.trans (w1.trans w2))) rfl)

    | true =>
      replace hS : Stands K CF H4 kvs4 [(("one" : Str), st0), (("other" : Str), o.wh (some st0))] := hS
      have hbs : ∀ zb ∈ ([(("one" : Str), st0), (("other" : Str), o.wh (some st0))] : List (Str × Tm)), zb.1 = "one" ∨ zb.1 = "other" := (by intro zb hz; simp at hz; rcases hz with rfl | rfl <;> simp)
      have hbd : ∀ zb ∈ ([(("one" : Str), st0), (("other" : Str), o.wh (some st0))] : List (Str × Tm)), zb.2.depth ≤ 60 := (by intro zb hz; simp at hz; rcases hz with rfl | rfl; exact hd0; exact hdb)
      -- _law_kept
      refine ⟨_, rfl, sz2, fun k1 nk1 => ⟨sz1, fun k2 nk2 => ?_⟩⟩
      have u1 := same_new nk1 (.tup [.str "one", vs0])
      have u2 := same_new nk2 (.lst [.ref k1])
      have uA := s04.trans (u1.trans u2)
      refine ⟨_, rfl, _, rfl, vo, vs0, st0, rfl, hv0.same uA, .inl ⟨o, ho.same uA, by have := G.od; omega, hdo, fun y7 H7 s7 hy7 => ?_⟩⟩
      refine ⟨sz2, fun k3 nk3 => ⟨sz1, fun k4 nk4 => ?_⟩⟩
      have u3 := same_new nk3 (.tup [.str "other", y7])
      have u4 := same_new nk4 (.lst [.ref k3])
      refine ⟨_, rfl, .inr ⟨true, rfl, ?_⟩⟩
      refine ⟨k4, 1, _, rfl, rfl, upd_same, by decide, by decide, (show 1 * 1 ≤ sizeLine by decide), fun k5 nk5 => ?_⟩
      have u5 := same_new nk5 (.lst (List.replicate (1 : Int).toNat [V.ref k3]).flatten)
      have uB := s7.trans (u3.trans (u4.trans u5))
      refine ⟨k2, k5, _, _, rfl, rfl, uB _ _ upd_same, upd_same, (show 1 + 1 ≤ sizeLine by decide), fun k6 nk6 => ?_⟩
      have u6 := same_new nk6 (.lst ([.ref k1] ++ (List.replicate (1 : Int).toNat [V.ref k3]).flatten))
      have uC := uB.trans u6
      have uD := uA.trans uC
      have k1D := (tps (u2.trans uC)).seq (K := K) (.of (upd_same (H := H4) (a := k1) (o := .tup [.str "one", vs0])))
      have k3D := (tps (u4.trans (u5.trans u6))).seq (K := K) (.of (upd_same (H := H7) (a := k3) (o := .tup [.str "other", y7])))
      have hy8 := hy7.same (u3.trans (u4.trans (u5.trans u6)))
      have hv8 := hv0.same uD
      have stD := st4.same (u1.trans (u2.trans uC))
      have dfsD := (u1.trans (u2.trans uC)) _ _ dfs4
      have hSD := hS.same (u1.trans (u2.trans uC))
      have k6D : (upd (upd (upd (upd H7 k3 (.tup [.str "other", y7])) k4 (.lst [.ref k3])) k5 (.lst (List.replicate (1 : Int).toNat [V.ref k3]).flatten)) k6 (.lst ([.ref k1] ++ (List.replicate (1 : Int).toNat [V.ref k3]).flatten))) k6 = some (.lst ([.ref k1] ++ (List.replicate (1 : Int).toNat [V.ref k3]).flatten)) := upd_same
      generalize upd (upd (upd (upd H7 k3 (.tup [.str "other", y7])) k4 (.lst [.ref k3])) k5 (.lst (List.replicate (1 : Int).toNat [V.ref k3]).flatten)) k6 (.lst ([.ref k1] ++ (List.replicate (1 : Int).toNat [V.ref k3]).flatten)) = H8 at *
      -- _law_here
      obtain ⟨dx8, ds8, ha8, hsl8, hdl8⟩ := id stD
      refine ⟨_, rfl, a, dx8, _, rfl, ha8, rfl, a, sl, fs4, n4, _, rfl, stD, dfsD, fun r9 H9 s9 ⟨pn, en, hpn⟩ => ?_⟩
      subst en
      have hkl : kvs4.length ≤ 2 := by rw [Paired.length hSD]; simp
      refine ⟨pn, rfl, ⟨_, hpn⟩, fun DD hDD => ?_⟩
      refine lc_map (walk_tup (xs := keysOf kvs4)) (fun i y H' => ∃ (zb : Str × Tm) (qq : Addr) (vv : V), ([(("one" : Str), st0), (("other" : Str), o.wh (some st0))] : List (Str × Tm))[i]? = some zb ∧ y = V.ref qq ∧ SqT K H' qq [.str zb.1, vv] ∧ TmAt K H' vv zb.2) hDD (by show (List.map _ _).length ≤ 1000; rw [List.length_map]; omega) (fun _ _ _ _ e ⟨zb, qq, vv, h1, h2, h3, h4⟩ => ⟨zb, qq, vv, h1, h2, e.seq h3, h4.mono e⟩) (fun H' sh => (tps sh).seq hpn) ?_ ?_ gm_name
      · rintro i x H10 H11 Qk hi s10 ⟨rfl, hx⟩ qk
        rw [List.getElem?_map] at hx
        obtain ⟨kv, hkv, rfl⟩ := Option.map_eq_some_iff.mp hx
        obtain ⟨zb, hzb, ek, oo, tt, ll, hvv, hfo⟩ := paired_at hSD hkv
        have sK := s9.trans s10
        refine ⟨rfl, _, rfl, _, rfl, a, dx8, _, rfl, sK _ _ ha8, rfl, _, rfl, a, zb.1, sl, fs4, n4, _, oo, tt, ll, zb.2, 1, ?_, stD.same sK, sK _ _ dfsD, hvv, hfo.same sK, fun vv hv => ⟨sz2, fun qq nq => ?_⟩⟩
        · rw [ek]
          rfl
        · have sq := same_new nq (.tup [kV kv.1, vv])
          refine qk _ _ sq ⟨zb, qq, vv, hzb, rfl, ?_, hv.same sq⟩
          rw [ek]
          exact .of upd_same
      · intro H10 ys s10 e10 hy10 hys
        have hpy : Paired (fun y (zb : Str × Tm) => ∃ q v, y = V.ref q ∧ SqT K H10 q [.str zb.1, v] ∧ TmAt K H10 v zb.2) ys [(("one" : Str), st0), (("other" : Str), o.wh (some st0))] := paired_of (by rw [hy10]; show (List.map _ _).length = _; rw [List.length_map, Paired.length hSD]) fun i y zb h1 h2 => by
          obtain ⟨zb', qq, vv, h3, h4, h5, h6⟩ := hys i y h1
          rw [h2] at h3
          cases h3
          exact ⟨qq, vv, h4, h5, h6⟩
        have sK := s9.trans s10
        have hdH : Dp K H10 (.ref DD) (.list (([(("one" : Str), st0), (("other" : Str), o.wh (some st0))] : List (Str × Tm)).map encB)) := dp_b (.of e10) hpy
        have hdK : Dp K H10 (.ref k6) (.list (([(("one" : Str), st0), (("other" : Str), o.wh (some st0))] : List (Str × Tm)).map encB)) := dp_b (.of (sK _ _ k6D)) (.cons ⟨k1, vs0, rfl, (tps sK).seq k1D, hv8.same sK⟩ (.cons ⟨k3, y7, rfl, (tps sK).seq k3D, hy8.same sK⟩ .nil))
        refine ⟨_, rfl, _, _, rfl, rfl, _, rfl, iteT ?_⟩
        refine ⟨_, rfl, _, rfl, _, _, hdH, hdK, shaped_b hbs hbd, shaped_b hbs hbd, _, rfl, ifT (eqv_b hbs) ?_⟩
        -- made
        refine ⟨_, rfl, a, dx8, _, rfl, sK _ _ ha8, rfl, a, sl, fs4, n4, _, rfl, stD.same sK, sK _ _ dfsD, fun r12 H12 s12 ⟨pn2, en2, hpn2⟩ => ?_⟩
        subst en2
        have sL := sK.trans s12
        refine ⟨pn2, rfl, ⟨_, hpn2⟩, fun D2 hD2 => ?_⟩
        refine lc_map (walk_tup (xs := keysOf kvs4)) (fun i y _ => y = .int 1) hD2 (by show (List.map _ _).length ≤ 1000; rw [List.length_map]; omega) (fun _ _ _ _ _ h => h) (fun H' sh => (tps sh).seq hpn2) ?_ ?_ gm_name
        · rintro i x H13 H14 Qk hi s13 ⟨rfl, hx⟩ qk
          rw [List.getElem?_map] at hx
          obtain ⟨kv, hkv, rfl⟩ := Option.map_eq_some_iff.mp hx
          obtain ⟨zb, hzb, ek, oo, tt, ll, hvv, hfo⟩ := paired_at hSD hkv
          have sM := sL.trans s13
          refine ⟨rfl, _, rfl, a, dx8, _, rfl, sM _ _ ha8, rfl, _, rfl, a, zb.1, sl, fs4, n4, _, oo, tt, ll, _, 1, ?_, stD.same sM, sM _ _ dfsD, hvv, hfo.same sM, qk _ _ (Same.refl _) rfl⟩
          rw [ek]
          rfl
        · intro H13 zs s13 e13 hz13 hzs
          have ez : zs = (List.replicate zs.length (1 : Int)).map V.int := by
            refine List.ext_getElem? fun i => ?_
            cases ei : zs[i]? with
            | none =>
              have : zs.length ≤ i := List.getElem?_eq_none_iff.mp ei
              rw [List.getElem?_eq_none (by rw [List.length_map, List.length_replicate]; omega)]
            | some y =>
              have hi : i < zs.length := (List.getElem?_eq_some_iff.mp ei).1
              rw [hzs i y ei, List.getElem?_map, List.getElem?_replicate, if_pos hi]
              rfl
          have hzl : zs.length = 2 := by
            rw [hz13]
            show (List.map _ _).length = _
            rw [List.length_map, Paired.length hSD]
            rfl
          rw [hzl] at ez
          rw [ez] at e13
          have sM := sL.trans s13
          refine ⟨sz1, fun m1 nm1 => ?_⟩
          have w1 := same_new nm1 (.lst [.int 1])
          refine ⟨_, rfl, k6, _, rfl, .inl (.of ((sM.trans w1) _ _ k6D)), ?_⟩
          refine ⟨m1, _, _, rfl, rfl, upd_same, by simp, by simp, ?_, fun m2 nm2 => ?_⟩
          · exact (show 1 * 2 ≤ sizeLine by decide)
          have w2 := same_new nm2 (.lst (List.replicate 2 [V.int 1]).flatten)
          refine ⟨_, _, dp_ints ((w1.trans w2) _ _ e13), dp_ints (ns := List.replicate 2 1) upd_same, shaped_ints _, shaped_ints _, ?_⟩
          show DD0.rt _ _
          rw [hrt]
          exact (congrArg (fun b => Q (.bl b) _) (by decide : PyData.eqv (.list ((List.replicate 2 (1 : Int)).map PyData.int)) (.list ((List.replicate 2 (1 : Int)).map PyData.int)) = true)).mpr (q _ _ (uD.trans (sM.trans (w1.trans w2))) rfl)

  obtain ⟨t3, ht3, rd3⟩ := h3
  have h2 : ∃ t2 : TS, PSs (cxOf CX0 P w K mg base N14 "_law_right" (defScope s_l_right) fA cdv A outer s H E).nox ((defBody s_l_right).drop 4) t2 ∧
      ∀ (b : Bool) (vb : V) (H3 : Hp) (a sl d : Addr) (x6 x7 : Option V), b = (!fits (some f) o) → Same H H3 → H sl = none → TmAt K H3 vb (o.wh (some f)) → StO CT H3 a sl d 0 → H3 d = some (.dK []) →
        t2 { nx := fun _ H' => Q .non H', rt := Q } [some vf, some vl, some vo, some (.bl ag), some (.ref a), some vb, x6, x7, some (.bl b), none, none, none, none, none] H3 := by
    refine ⟨_, (pss_cons (ps_set (i := 9) sc_l_right.nd rfl (Or.inl rfl) (pe_ifExp (pt_val (pv 3)) (pv 1) (pv 0))) (pss_cons (ps_if (pt_not (pt_val (pe_callB call_isi (by rfl) T.b_isinstance bt_isinstance (pa_cons (pe_c h_l_refused hr (by omega) (pa_cons (pv 4) (pa_cons pe_str (pa_cons pe_str (pa_cons (pv 9) pa_nil))))) (pa_cons (pe_bltn (v := .ty "tuple") rfl T.b_tuple bt_tuple rfl) pa_nil))))) (pss_one (ps_ret pe_bl)) pss_nil) (pss_cons (ps_set (i := 10) sc_l_right.nd rfl (Or.inl rfl) (pe_c h_l_refused hr (by omega) (pa_cons (pv 4) (pa_cons pe_str (pa_cons pe_str (pa_cons (pv 2) pa_nil)))))) (pss_cons (ps_if (pt_val (pv 3)) (pss_cons (ps_if (PW.pt (pw_or (pt_not (pt_val (pe_callB call_isi (by rfl) T.b_isinstance bt_isinstance (pa_cons (pv 10) (pa_cons (pe_bltn (v := .ty "tuple") rfl T.b_tuple bt_tuple rfl) pa_nil))))) (pw_or1 (pt_cmpR op_ne (pe_m h_Stand_made c_Stand hr (by omega) (pv 4) (pa_cons pe_str pa_nil)) pe_int (nomark _))))) (pss_one (ps_ret pe_bl)) pss_nil) (pss_one (ps_set (i := 10) sc_l_right.nd rfl (Or.inl rfl) (pe_c h_l_refused hr (by omega) (pa_cons (pv 4) (pa_cons pe_str (pa_cons pe_str (pa_cons (pv 0) pa_nil)))))))) pss_nil) (pss_cons (ps_if (pt_val (pv 8)) ht3 pss_nil) (pss_one (ps_ret (pe_and (pe_callB call_isi (by rfl) T.b_isinstance bt_isinstance (pa_cons (pv 10) (pa_cons (pe_bltn (v := .ty "tuple") rfl T.b_tuple bt_tuple rfl) pa_nil))) (pe_and (pe_cmpR (op_eqD hr.units) (pe_m h_Stand_whole c_Stand hr (by omega) (pv 4) (pa_cons pe_str pa_nil)) (pv 5) (nomark _)) (pe_one (pe_cmpR (op_eqD hr.units) (pe_m h_Stand_whole c_Stand hr (by omega) (pv 4) (pa_cons pe_str pa_nil)) (pv 0) (nomark _)))))))))))), ?_⟩
    intro b vb H3 a sl d x6 x7 eb s03 nsl hvb3 st3 hd3

    by_cases hfit : fits (some f) o = true
    · have eb2 : b = false := by rw [eb, hfit]; rfl
      subst eb2
      cases ag with
      | false =>
        refine ⟨_, rfl, _, rfl, iteF ⟨_, rfl, ?_⟩⟩
        -- tell one
        refine ⟨_, rfl, _, rfl, .inl ⟨a, "one", vf, sl, d, 0, [], f, kf, none, none, rfl, st3, by omega, hd3, by decide, ok_one, rfl, hf.same s03, G.fd, by omega, huf, ekf, wkf, (fun _ e => by cases e), huf, ⟨fun _ => G.fp, (fun b e => by cases e)⟩, fun _ r4 H4 fs1 o1 x4 kr4 st4 dfs4 fo4 => ?_, fun hff => by rw [G.ff] at hff; cases hff⟩⟩
        have s04 : Same H H4 := SameX.new s03 nsl x4
        rw [Tm.wh_plain G.fp] at fo4
        obtain ⟨ra4, rx4, rfl, hrs4, _⟩ := kr4.view
        refine ⟨_, _, _, _, _, rfl, .ty "tuple", tyx_tup hrs4, kit_tt, _, rfl, iteF ?_⟩
        replace dfs4 : H4 fs1 = some (.dK [(kOne, .ref o1)]) := dfs4
        obtain ⟨dx4, ds4, ha4, hsl4, hdl4⟩ := id st4
        have ho1sl : o1 ≠ sl := fun e => by
          obtain ⟨_, _, _, _, _, _, h1, _⟩ := fo4
          rw [e, hsl4] at h1
          cases h1
        have hvb4 : TmAt K H4 vb (o.wh (some f)) := hvb3.mono (fun b u e t => x4 _ _ (fun z => by
          obtain ⟨_, _, _, h1, _⟩ := st3
          rw [z, h1] at e
          cases e
          cases t) e)
        -- tell other
        refine ⟨_, rfl, _, rfl, .inl ⟨a, "other", vo, sl, fs1, 1, [(kOne, .ref o1)], o, kfo, some kf, some f, rfl, st4, by omega, dfs4, (show 1 ≤ 10 by decide), ok_other, val_no, ho.same s04, G.od, G.ou', ⟨G.ou, o1, f, _, 1, kv_one, fo4⟩, ekfo, wkfo, (fun kk e => by cases e; exact dkf), ⟨G.ou, o1, f, _, 1, kv_one, fo4⟩, ⟨(fun e => by cases e), (fun b e => by cases e; exact ⟨G.fp, G.fd⟩)⟩, fun _ r5 H5 fs2 o2 x5 kr5 st5 dfs5 fo5 => ?_, fun hff => by rw [hfit] at hff; cases hff⟩⟩
        have s05 : Same H H5 := SameX.new s04 nsl x5
        replace dfs5 : H5 fs2 = some (.dK [(kOne, .ref o1), (kOther, .ref o2)]) := dfs5
        have t5 : Tps H4 H5 := x5.tps hsl4 rfl
        have fo1 : FnO K CF H5 o1 f (some kf) (some f) 1 := fo4.move t5 fun u e => x5 _ _ ho1sl e
        have hvb5 := hvb4.mono t5
        obtain ⟨ra5, rx5, rfl, hrs5, _⟩ := kr5.view
        obtain ⟨dx5, ds5, ha5, hsl5, hdl5⟩ := id st5
        refine ⟨_, rfl, _, rfl, iteF ?_⟩
        -- not great
        refine ⟨_, rfl, _, rfl, iteF ?_⟩
        refine ⟨_, rfl, _, _, _, _, _, rfl, .ty "tuple", tyx_tup hrs5, kit_tt, _, rfl, iteT ?_⟩
        refine ⟨_, rfl, a, dx5, _, rfl, ha5, rfl, a, _, sl, fs2, 2, _, o2, _, _, _, _, rfl, st5, dfs5, val_other, fo5, fun y hy => ?_⟩
        refine ⟨_, rfl, _, _, hy.dp, hvb5.dp, tm_shaped G.bd, tm_shaped G.bd, _, rfl, ifT (tm_eqv _) ?_⟩
        refine ⟨_, rfl, a, dx5, _, rfl, ha5, rfl, a, _, sl, fs2, 2, _, o1, _, _, _, _, rfl, st5, dfs5, val_one, fo1, fun y2 hy2 => ?_⟩
        refine ⟨_, rfl, _, _, hy2.dp, (hf.same s05).dp, tm_shaped (by have := G.fd; omega), tm_shaped (by have := G.fd; omega), ?_⟩
        exact q _ _ s05 (congrArg V.bl (tm_eqv _))

      | true =>
        obtain ⟨kl0, fl0, flo⟩ := G.kl rfl
        obtain ⟨kl, klo, ekl, wkl, dkl, eklo, wklo⟩ := kindOk_is kl0
        refine ⟨_, rfl, _, rfl, iteT ⟨_, rfl, ?_⟩⟩
        -- tell one
        refine ⟨_, rfl, _, rfl, .inl ⟨a, "one", vl, sl, d, 0, [], l, kl, none, none, rfl, st3, by omega, hd3, by decide, ok_one, rfl, hl.same s03, G.ld, by omega, hul, ekl, wkl, (fun _ e => by cases e), hul, ⟨fun _ => G.lp, (fun b e => by cases e)⟩, fun _ r4 H4 fs1 o1 x4 kr4 st4 dfs4 fo4 => ?_, fun hff => by rw [fl0] at hff; cases hff⟩⟩
        have s04 : Same H H4 := SameX.new s03 nsl x4
        rw [Tm.wh_plain G.lp] at fo4
        obtain ⟨ra4, rx4, rfl, hrs4, _⟩ := kr4.view
        refine ⟨_, _, _, _, _, rfl, .ty "tuple", tyx_tup hrs4, kit_tt, _, rfl, iteF ?_⟩
        replace dfs4 : H4 fs1 = some (.dK [(kOne, .ref o1)]) := dfs4
        obtain ⟨dx4, ds4, ha4, hsl4, hdl4⟩ := id st4
        have ho1sl : o1 ≠ sl := fun e => by
          obtain ⟨_, _, _, _, _, _, h1, _⟩ := fo4
          rw [e, hsl4] at h1
          cases h1
        have hvb4 : TmAt K H4 vb (o.wh (some f)) := hvb3.mono (fun b u e t => x4 _ _ (fun z => by
          obtain ⟨_, _, _, h1, _⟩ := st3
          rw [z, h1] at e
          cases e
          cases t) e)
        -- tell other
        refine ⟨_, rfl, _, rfl, .inl ⟨a, "other", vo, sl, fs1, 1, [(kOne, .ref o1)], o, klo, some kl, some l, rfl, st4, by omega, dfs4, (show 1 ≤ 10 by decide), ok_other, val_no, ho.same s04, G.od, G.ou', ⟨G.ou, o1, l, _, 1, kv_one, fo4⟩, eklo, wklo, (fun kk e => by cases e; exact dkl), ⟨G.ou, o1, l, _, 1, kv_one, fo4⟩, ⟨(fun e => by cases e), (fun b e => by cases e; exact ⟨G.lp, G.ld⟩)⟩, fun _ r5 H5 fs2 o2 x5 kr5 st5 dfs5 fo5 => ?_, fun hff => by rw [flo] at hff; cases hff⟩⟩
        have s05 : Same H H5 := SameX.new s04 nsl x5
        replace dfs5 : H5 fs2 = some (.dK [(kOne, .ref o1), (kOther, .ref o2)]) := dfs5
        have t5 : Tps H4 H5 := x5.tps hsl4 rfl
        have fo1 : FnO K CF H5 o1 l (some kl) (some l) 1 := fo4.move t5 fun u e => x5 _ _ ho1sl e
        have hvb5 := hvb4.mono t5
        obtain ⟨ra5, rx5, rfl, hrs5, _⟩ := kr5.view
        obtain ⟨dx5, ds5, ha5, hsl5, hdl5⟩ := id st5
        -- if _law_again
        refine ⟨_, rfl, _, rfl, iteT ?_⟩
        refine ⟨_, rfl, _, _, _, _, _, rfl, .ty "tuple", tyx_tup hrs5, kit_tt, _, rfl, iteF ?_⟩
        refine ⟨_, rfl, a, dx5, _, rfl, ha5, rfl, a, _, sl, fs2, 2, _, o2, _, _, _, 1, rfl, st5, dfs5, val_other, fo5, rfl, _, rfl, iteF ?_⟩
        -- retell one
        refine ⟨_, rfl, _, rfl, .inr ⟨a, vf, sl, fs2, 2, f, kf, o1, l, _, _, 1, o2, o, _, _, 1, kfo, rfl, st5, by omega, dfs5, hf.same s05, G.fd, G.fp, ekf, wkf, dkf, G.ff, fo1, hul, fo5, G.ou, G.ou', G.od, ekfo, wkfo, fun _ r6 H6 fs3 p1 p2 x6 kr6 st6 dfs6 fp1 fp2 => ?_, fun hff => by rw [hfit] at hff; cases hff⟩⟩
        have s06 : Same H H6 := SameX.new s05 nsl x6
        have hvb6 := hvb5.mono (x6.tps hsl5 rfl)
        obtain ⟨ra6, rx6, rfl, hrs6, _⟩ := kr6.view
        obtain ⟨dx6, ds6, ha6, hsl6, hdl6⟩ := id st6
        -- not great
        refine ⟨_, rfl, _, rfl, iteF ?_⟩
        refine ⟨_, rfl, _, _, _, _, _, rfl, .ty "tuple", tyx_tup hrs6, kit_tt, _, rfl, iteT ?_⟩
        refine ⟨_, rfl, a, dx6, _, rfl, ha6, rfl, a, _, sl, fs3, 3, _, p2, _, _, _, _, rfl, st6, dfs6, val_other, fp2, fun y hy => ?_⟩
        refine ⟨_, rfl, _, _, hy.dp, hvb6.dp, tm_shaped G.bd, tm_shaped G.bd, _, rfl, ifT (tm_eqv _) ?_⟩
        refine ⟨_, rfl, a, dx6, _, rfl, ha6, rfl, a, _, sl, fs3, 3, _, p1, _, _, _, _, rfl, st6, dfs6, val_one, fp1, fun y2 hy2 => ?_⟩
        refine ⟨_, rfl, _, _, hy2.dp, (hf.same s06).dp, tm_shaped (by have := G.fd; omega), tm_shaped (by have := G.fd; omega), ?_⟩
        exact q _ _ s06 (congrArg V.bl (tm_eqv _))

    · have hfit' : fits (some f) o = false := by rw [Bool.not_eq_true] at hfit; exact hfit
      have eb2 : b = true := by rw [eb, hfit']; rfl
      subst eb2
      cases ag with
      | false =>
        refine ⟨_, rfl, _, rfl, iteF ⟨_, rfl, ?_⟩⟩
        -- tell one
        refine ⟨_, rfl, _, rfl, .inl ⟨a, "one", vf, sl, d, 0, [], f, kf, none, none, rfl, st3, by omega, hd3, by decide, ok_one, rfl, hf.same s03, G.fd, by omega, huf, ekf, wkf, (fun _ e => by cases e), huf, ⟨fun _ => G.fp, (fun b e => by cases e)⟩, fun _ r4 H4 fs1 o1 x4 kr4 st4 dfs4 fo4 => ?_, fun hff => by rw [G.ff] at hff; cases hff⟩⟩
        have s04 : Same H H4 := SameX.new s03 nsl x4
        rw [Tm.wh_plain G.fp] at fo4
        obtain ⟨ra4, rx4, rfl, hrs4, _⟩ := kr4.view
        refine ⟨_, _, _, _, _, rfl, .ty "tuple", tyx_tup hrs4, kit_tt, _, rfl, iteF ?_⟩
        replace dfs4 : H4 fs1 = some (.dK [(kOne, .ref o1)]) := dfs4
        obtain ⟨dx4, ds4, ha4, hsl4, hdl4⟩ := id st4
        have ho1sl : o1 ≠ sl := fun e => by
          obtain ⟨_, _, _, _, _, _, h1, _⟩ := fo4
          rw [e, hsl4] at h1
          cases h1
        have hvb4 : TmAt K H4 vb (o.wh (some f)) := hvb3.mono (fun b u e t => x4 _ _ (fun z => by
          obtain ⟨_, _, _, h1, _⟩ := st3
          rw [z, h1] at e
          cases e
          cases t) e)
        -- tell other
        refine ⟨_, rfl, _, rfl, .inl ⟨a, "other", vo, sl, fs1, 1, [(kOne, .ref o1)], o, kfo, some kf, some f, rfl, st4, by omega, dfs4, (show 1 ≤ 10 by decide), ok_other, val_no, ho.same s04, G.od, G.ou', ⟨G.ou, o1, f, _, 1, kv_one, fo4⟩, ekfo, wkfo, (fun kk e => by cases e; exact dkf), ⟨G.ou, o1, f, _, 1, kv_one, fo4⟩, ⟨(fun e => by cases e), (fun b e => by cases e; exact ⟨G.fp, G.fd⟩)⟩, (fun hff => by rw [hfit'] at hff; cases hff), fun _ H5 s5 => ?_⟩⟩
        have s05 := s04.trans s5
        have st5 := st4.same s5
        have dfs5 := s5 _ _ dfs4
        have fo5 := fo4.same s5
        refine ⟨_, rfl, _, rfl, iteF ?_⟩
        refine ⟨_, rfl, _, rfl, iteT ?_⟩
        have hS : Stands K CF H5 [(kOne, V.ref o1)] [(("one" : Str), f)] := .cons ⟨rfl, o1, _, _, kv_one, fo5⟩ .nil
        exact rd3 _ vf f H5 a sl fs1 1 _ _ _ _ _ rfl s05 hf (by have := G.fd; omega) (by have := G.od; omega) G.bd st5 dfs5 hS
      | true =>
        obtain ⟨kl0, fl0, flo⟩ := G.kl rfl
        obtain ⟨kl, klo, ekl, wkl, dkl, eklo, wklo⟩ := kindOk_is kl0
        refine ⟨_, rfl, _, rfl, iteT ⟨_, rfl, ?_⟩⟩
        -- tell one
        refine ⟨_, rfl, _, rfl, .inl ⟨a, "one", vl, sl, d, 0, [], l, kl, none, none, rfl, st3, by omega, hd3, by decide, ok_one, rfl, hl.same s03, G.ld, by omega, hul, ekl, wkl, (fun _ e => by cases e), hul, ⟨fun _ => G.lp, (fun b e => by cases e)⟩, fun _ r4 H4 fs1 o1 x4 kr4 st4 dfs4 fo4 => ?_, fun hff => by rw [fl0] at hff; cases hff⟩⟩
        have s04 : Same H H4 := SameX.new s03 nsl x4
        rw [Tm.wh_plain G.lp] at fo4
        obtain ⟨ra4, rx4, rfl, hrs4, _⟩ := kr4.view
        refine ⟨_, _, _, _, _, rfl, .ty "tuple", tyx_tup hrs4, kit_tt, _, rfl, iteF ?_⟩
        replace dfs4 : H4 fs1 = some (.dK [(kOne, .ref o1)]) := dfs4
        obtain ⟨dx4, ds4, ha4, hsl4, hdl4⟩ := id st4
        have ho1sl : o1 ≠ sl := fun e => by
          obtain ⟨_, _, _, _, _, _, h1, _⟩ := fo4
          rw [e, hsl4] at h1
          cases h1
        have hvb4 : TmAt K H4 vb (o.wh (some f)) := hvb3.mono (fun b u e t => x4 _ _ (fun z => by
          obtain ⟨_, _, _, h1, _⟩ := st3
          rw [z, h1] at e
          cases e
          cases t) e)
        -- tell other
        refine ⟨_, rfl, _, rfl, .inl ⟨a, "other", vo, sl, fs1, 1, [(kOne, .ref o1)], o, klo, some kl, some l, rfl, st4, by omega, dfs4, (show 1 ≤ 10 by decide), ok_other, val_no, ho.same s04, G.od, G.ou', ⟨G.ou, o1, l, _, 1, kv_one, fo4⟩, eklo, wklo, (fun kk e => by cases e; exact dkl), ⟨G.ou, o1, l, _, 1, kv_one, fo4⟩, ⟨(fun e => by cases e), (fun b e => by cases e; exact ⟨G.lp, G.ld⟩)⟩, fun _ r5 H5 fs2 o2 x5 kr5 st5 dfs5 fo5 => ?_, fun hff => by rw [flo] at hff; cases hff⟩⟩
        have s05 : Same H H5 := SameX.new s04 nsl x5
        replace dfs5 : H5 fs2 = some (.dK [(kOne, .ref o1), (kOther, .ref o2)]) := dfs5
        have t5 : Tps H4 H5 := x5.tps hsl4 rfl
        have fo1 : FnO K CF H5 o1 l (some kl) (some l) 1 := fo4.move t5 fun u e => x5 _ _ ho1sl e
        have hvb5 := hvb4.mono t5
        obtain ⟨ra5, rx5, rfl, hrs5, _⟩ := kr5.view
        obtain ⟨dx5, ds5, ha5, hsl5, hdl5⟩ := id st5
        -- if _law_again
        refine ⟨_, rfl, _, rfl, iteT ?_⟩
        refine ⟨_, rfl, _, _, _, _, _, rfl, .ty "tuple", tyx_tup hrs5, kit_tt, _, rfl, iteF ?_⟩
        refine ⟨_, rfl, a, dx5, _, rfl, ha5, rfl, a, _, sl, fs2, 2, _, o2, _, _, _, 1, rfl, st5, dfs5, val_other, fo5, rfl, _, rfl, iteF ?_⟩
        -- retell one
        refine ⟨_, rfl, _, rfl, .inr ⟨a, vf, sl, fs2, 2, f, kf, o1, l, _, _, 1, o2, o, _, _, 1, kfo, rfl, st5, by omega, dfs5, hf.same s05, G.fd, G.fp, ekf, wkf, dkf, G.ff, fo1, hul, fo5, G.ou, G.ou', G.od, ekfo, wkfo, (fun hff => by rw [hfit'] at hff; cases hff), fun _ H6 s6 => ?_⟩⟩
        have s06 := s05.trans s6
        have st6 := st5.same s6
        have dfs6 := s6 _ _ dfs5
        have fp1 := fo1.same s6
        have fp2 := fo5.same s6
        refine ⟨_, rfl, _, rfl, iteT ?_⟩
        have hS : Stands K CF H6 [(kOne, V.ref o1), (kOther, V.ref o2)] [(("one" : Str), l), (("other" : Str), o.wh (some l))] := .cons ⟨rfl, o1, _, _, val_one, fp1⟩ (.cons ⟨rfl, o2, _, _, val_other, fp2⟩ .nil)
        exact rd3 _ vl l H6 a sl fs2 2 _ _ _ _ _ rfl s06 hl (by have := G.ld; omega) (by have := G.od; omega) G.bl st6 dfs6 hS
  obtain ⟨t2, ht2, rd2⟩ := h2
  refine ⟨_, (pss_cons (ps_set (i := 4) sc_l_right.nd rfl (Or.inr rfl) (pe_new0 h_Stand_init hr (by omega))) (pss_cons (ps_set (i := 5) sc_l_right.nd rfl (Or.inl rfl) (pe_c h_l_put_in hr (by omega) (pa_cons (pv 2) (pa_cons (pv 0) pa_nil)))) (pss_cons (ps_asg (pe_c h_l_measured hr (by omega) (pa_cons (pv 5) pa_nil)) (pg_tup rfl (pgs_cons (pg_name (i := 6) sc_l_right.nd rfl (Or.inl rfl)) (pgs_cons (pg_name (i := 7) sc_l_right.nd rfl (Or.inl rfl)) pgs_nil)))) (pss_cons (ps_set (i := 8) sc_l_right.nd rfl (Or.inl rfl) (pe_or (pe_cmpR op_gt (pv 6) pe_int (nomark _)) (pe_one (pe_cmpR op_gt (pv 7) pe_int (nomark _))))) ht2)))), ?_⟩
  -- Stand()
  intro a dx na nd ne
  refine ⟨a, dx, rfl, upd_same, fun H1 sl d x1 nsl' nd' st1 hd1 => ⟨rfl, ?_⟩⟩
  have sB : Same H (upd (upd H dx (.own a)) a (.ins CT dx [])) := fun b u e => by rw [upd_ne (ne_of_none e na), upd_ne (ne_of_none e nd)]; exact e
  have s1 : Same H H1 := SameX.new sB na x1
  have nsl : H sl = none := sB.free nsl'
  -- _law_put_in(_law_other, _law_first)
  refine ⟨_, rfl, _, rfl, vo, vf, f, rfl, hf.same s1, .inl ⟨o, ho.same s1, by have := G.od; omega, by have := G.od; omega, fun vb H2 s2 hvb => ?_⟩⟩
  have s02 := s1.trans s2
  -- _law_measured(_law_body)
  refine ⟨_, rfl, vb, _, rfl, hvb, G.bp, G.bd, G.bd, fun um H3 s3 ⟨pm, em, hpm⟩ => ?_⟩
  subst em
  have s03 := s02.trans s3
  have st3 := st1.same (s2.trans s3)
  have hd3 := (s2.trans s3) _ _ hd1
  have hvb3 := hvb.same s3
  refine ⟨pm, _, rfl, hpm, rfl, _, _, rfl, _, _, rfl, rfl, ?_⟩
  by_cases hp2 : (o.wh (some f)).parts ≤ 200
  · refine ⟨_, rfl, _, _, rfl, rfl, _, rfl, ifF (decide_eq_false (by omega)) ⟨_, rfl, _, _, rfl, rfl, ?_⟩⟩
    refine rd2 _ vb H3 a sl d _ _ ?_ s03 nsl hvb3 st3 hd3
    unfold fits
    rw [decide_eq_true hp2, Bool.true_and]
    by_cases hd2 : (o.wh (some f)).depth ≤ 30
    · rw [decide_eq_true hd2]
      exact decide_eq_false (by omega)
    · rw [decide_eq_false hd2]
      exact decide_eq_true (by omega)
  · refine ⟨_, rfl, _, _, rfl, rfl, _, rfl, ifT (decide_eq_true (by omega)) ?_⟩
    refine rd2 _ vb H3 a sl d _ _ ?_ s03 nsl hvb3 st3 hd3
    unfold fits
    rw [decide_eq_false hp2]
    rfl
end
end K70
namespace K70
open PySem PySem.Spec PyProof.Rows L2
def fstT (w m : Nat) : Tm := .fn (if w = 1 then leftsT (12 + 2 * m) .nm else sumT 8 (89 + 2 * m))
def lesT (w : Nat) : Tm := .fn (if w = 1 then leftsT 1 .nm else sumT 8 3)
def othT (w e m : Nat) : Tm := if w = 1 then dueDeep (12 - 2 * m + e) else dueParts (12 - 4 * m + e)
/-- the eighty cases of a turn -/
theorem all_good : ∀ w : Fin 2, ∀ m : Fin 4, ∀ e : Fin 5, ∀ ag : Bool, Good (fstT w.val m.val) (lesT w.val) (othT w.val e.val m.val) ag = true := by decide +kernel
theorem sums_ok : ∀ m : Fin 4, sumOk 8 (89 + 2 * m.val) = true := by decide +kernel
theorem sum3_ok : sumOk 8 3 = true := by decide +kernel
section
variable {P : Program} {w : World} {K : PySem.W.Frag} {mg : Str → Option Value} {base : Heap} {CS CF CT : Addr}
def spLaw (K : PySem.W.Frag) : Sp := fun vs H Q _ => ∃ (a : Addr) (ns : List Int), vs = [.ref a] ∧ SqL K H a (ns.map V.int) ∧ ns.length ≤ 63 ∧ ∀ H', Q (.bl true) H'
theorem ok_law (T : Txt w K mg) (O : Own w K mg CS CF CT) {DM DK DN : Addr} (R : Err w K mg DM DK DN) {f : Addr} {fd : FuncData} (D : FunD K "law" "law" (defArgs s_law) (defBody s_law) (defScope s_law) [] [] f fd) : FnOk P w K mg base CX0 174 f fd ["_law_script"] (spLaw K) := by
  have h_l_deck := has_l_deck (P := P) (base := base) T
  have h_l_draw := has_l_draw (P := P) (base := base) T
  have h_l_sum := has_l_sum (P := P) (base := base) T 8
  have h_l_lefts := has_l_lefts (P := P) (base := base) T
  have h_l_fun := has_l_fun (P := P) (base := base) T
  have h_l_due_parts := has_l_due_parts (P := P) (base := base) T
  have h_l_due_deep := has_l_due_deep (P := P) (base := base) T
  have h_l_right := has_l_right (P := P) (base := base) T O R
  refine D.ok sc_law (fun vs H Q E h => ?_) (fun cdv A outer s H vs Q E hr h => ?_)
  · obtain ⟨_, _, rfl, _⟩ := h
    rfl
  suffices hx : ∃ t, PSs (cxOf CX0 P w K mg base ["_law_script", "_law_deck_here", "_law_turn", "_law_way", "_law_again", "_law_extra", "_law_more", "_law_first", "_law_less", "_law_other"] "law" (defScope s_law) f cdv A outer s H E).nox (defBody s_law) t ∧
      t { nx := fun _ H' => Q .non H', rt := Q } (start ["_law_script", "_law_deck_here", "_law_turn", "_law_way", "_law_again", "_law_extra", "_law_more", "_law_first", "_law_less", "_law_other"] vs) H from
    let ⟨t, a, b⟩ := hx; ⟨t, PSs.nox a, b⟩
  obtain ⟨a, ns, rfl, hs, hn, q⟩ := h
  refine ⟨_, (pss_cons (ps_set (i := 1) sc_law.nd rfl (Or.inl rfl) (pe_c h_l_deck hr (by omega) (pa_cons (pv 0) pa_nil))) (pss_cons (ps_for PassesOwn.never rfl (pi_range1 rfl T.b_range (pa_cons pe_int pa_nil)) (pg_name (i := 2) sc_law.nd rfl (Or.inl rfl)) (pss_cons (ps_set (i := 3) sc_law.nd rfl (Or.inl rfl) (pe_c h_l_draw hr (by omega) (pa_cons (pv 1) (pa_cons pe_int pa_nil)))) (pss_cons (ps_set (i := 4) sc_law.nd rfl (Or.inl rfl) (pe_cmpR op_eq (pe_c h_l_draw hr (by omega) (pa_cons (pv 1) (pa_cons pe_int pa_nil))) pe_int (nomark _))) (pss_cons (ps_set (i := 5) sc_law.nd rfl (Or.inl rfl) (pe_c h_l_draw hr (by omega) (pa_cons (pv 1) (pa_cons pe_int pa_nil)))) (pss_cons (ps_set (i := 6) sc_law.nd rfl (Or.inl rfl) (pe_c h_l_draw hr (by omega) (pa_cons (pv 1) (pa_cons pe_int pa_nil)))) (pss_cons (ps_set (i := 7) sc_law.nd rfl (Or.inl rfl) (pe_c h_l_fun hr (by omega) (pa_cons (pe_c h_l_sum hr (by omega) (pa_cons (pe_op op_add pe_int (pe_op op_mul pe_int (pv 6))) pa_nil)) pa_nil))) (pss_cons (ps_set (i := 8) sc_law.nd rfl (Or.inl rfl) (pe_c h_l_fun hr (by omega) (pa_cons (pe_c h_l_sum hr (by omega) (pa_cons pe_int pa_nil)) pa_nil))) (pss_cons (ps_set (i := 9) sc_law.nd rfl (Or.inl rfl) (pe_c h_l_due_parts hr (by omega) (pa_cons (pe_op op_add (pe_op op_sub pe_int (pe_op op_mul pe_int (pv 6))) (pv 5)) pa_nil))) (pss_cons (ps_if (pt_cmpR op_eq (pv 3) pe_int (nomark _)) (pss_cons (ps_set (i := 7) sc_law.nd rfl (Or.inl rfl) (pe_c h_l_fun hr (by omega) (pa_cons (pe_c h_l_lefts hr (by omega) (pa_cons (pe_tup (pa_cons pe_str (pa_cons pe_str pa_nil))) (pa_cons (pe_op op_add pe_int (pe_op op_mul pe_int (pv 6))) pa_nil))) pa_nil))) (pss_cons (ps_set (i := 8) sc_law.nd rfl (Or.inl rfl) (pe_c h_l_fun hr (by omega) (pa_cons (pe_c h_l_lefts hr (by omega) (pa_cons (pe_tup (pa_cons pe_str (pa_cons pe_str pa_nil))) (pa_cons pe_int pa_nil))) pa_nil))) (pss_one (ps_set (i := 9) sc_law.nd rfl (Or.inl rfl) (pe_c h_l_due_deep hr (by omega) (pa_cons (pe_op op_add (pe_op op_sub pe_int (pe_op op_mul pe_int (pv 6))) (pv 5)) pa_nil)))))) pss_nil) (pss_one (ps_if (pt_not (pt_val (pe_c h_l_right hr (by omega) (pa_cons (pv 7) (pa_cons (pv 8) (pa_cons (pv 9) (pa_cons (pv 4) pa_nil))))))) (pss_one (ps_ret pe_bl)) pss_nil))))))))))) (pss_one (ps_ret pe_bl)))), ?_⟩
  refine ⟨_, rfl, a, ns, rfl, hs, hn, fun d H1 dk1 => ?_⟩
  refine ⟨3, rfl, by decide, by decide, ?_⟩
  refine for_it (walk_range (lo := 0) (n := 3)) (fun i σ H2 => DkO H2 d ∧ ∃ u2 u3 u4 u5 u6 u7 u8 u9, σ = [some (.ref a), some (.ref d), u2, u3, u4, u5, u6, u7, u8, u9]) ?_ ?_ ?_ ?_
  · exact ⟨dk1, _, _, _, _, _, _, _, _, rfl⟩
  · exact fun _ _ _ _ _ => trivial
  · rintro i x σ H2 H3 hi ⟨dk2, u2, u3, u4, u5, u6, u7, u8, u9, rfl⟩ ⟨rfl, rfl⟩
    refine ⟨_, rfl, d, 2, rfl, dk2, by decide, by decide, fun x3 H3 dk3 x30 x31 => ?_⟩
    refine ⟨_, rfl, d, 2, rfl, dk3, by decide, by decide, fun x4 H4 dk4 x40 x41 => ⟨rfl, ?_⟩⟩
    refine ⟨_, rfl, d, 5, rfl, dk4, by decide, by decide, fun x5 H5 dk5 x50 x51 => ?_⟩
    refine ⟨_, rfl, d, 4, rfl, dk5, by decide, by decide, fun x6 H6 dk6 x60 x61 => ?_⟩
    obtain ⟨e, rfl⟩ := Int.eq_ofNat_of_zero_le x50
    obtain ⟨m, rfl⟩ := Int.eq_ofNat_of_zero_le x60
    have he : e < 5 := by omega
    have hm : m < 4 := by omega
    -- _law_first, _law_less, _law_other
    refine ⟨_, rfl, _, _, rfl, rfl, .inl ⟨by decide, by decide⟩, _, _, rfl, rfl, 89 + 2 * m, ?_, sums_ok ⟨m, hm⟩, fun v7 H7 s7 h7 => ?_⟩
    · exact congrArg (fun z => [V.int z]) (by omega)
    refine ⟨v7, _, rfl, h7, fun w7 H8 s8 h8 => ?_⟩
    refine ⟨3, rfl, sum3_ok, fun v9 H9 s9 h9 => ⟨v9, _, rfl, h9, fun w9 H10 s10 h10 => ?_⟩⟩
    refine ⟨_, rfl, _, _, rfl, rfl, .inl ⟨by decide, by decide⟩, _, _, rfl, rfl, _, rfl, _, _, rfl, rfl, 12 - 4 * m + e, ?_, by omega, fun w11 H11 s11 h11 => ?_⟩
    · exact congrArg (fun z => [V.int z]) (by omega)
    have s68 := s7.trans s8
    have s8B := s9.trans (s10.trans s11)
    refine ⟨_, rfl, rfl, _, rfl, ?_⟩
    have fin : ∀ (wv : Nat) (w1 w2 w3 : V) (Hx : Hp), wv < 2 → Same H6 Hx → TmAt K Hx w1 (fstT wv m) → TmAt K Hx w2 (lesT wv) → TmAt K Hx w3 (othT wv e m) → 
        ∃ vf vl vo f l o ag, [w1, w2, w3, V.bl (decide (V.int x4 = V.int 1))] = [vf, vl, vo, .bl ag] ∧ TmAt K Hx vf f ∧ TmAt K Hx vl l ∧ TmAt K Hx vo o ∧ Good f l o ag = true ∧ Ret Hx (fun u H' => u = .bl true ∧ DkO H' d) fun u _ => u = .bl true := by
      intro wv w1 w2 w3 Hx hw sx t1 t2 t3
      exact ⟨w1, w2, w3, _, _, _, _, rfl, t1, t2, t3, all_good ⟨wv, hw⟩ ⟨m, hm⟩ ⟨e, he⟩ _, fun u H' s' hu => ⟨hu, dk6.same (sx.trans s')⟩⟩
    by_cases hw : x3 = 1
    · subst hw
      refine ifT (decide_eq_true rfl) ?_
      refine ⟨sz2, fun p np => ⟨_, rfl, _, _, rfl, rfl, .inl ⟨by decide, by decide⟩, _, _, rfl, rfl, ?_⟩⟩
      have sp := same_new np (.tup [.str "name", .str "x"])
      refine ⟨_, .nm, 12 + 2 * m, ?_, .nm (.of upd_same), by omega, fun v12 H12 s12 h12 => ⟨v12, _, rfl, h12, fun w12 H13 s13 h13 => ?_⟩⟩
      · exact congrArg (fun z => [V.ref p, V.int z]) (by omega)
      refine ⟨sz2, fun p2 np2 => ?_⟩
      have sp2 := same_new np2 (.tup [.str "name", .str "x"])
      refine ⟨_, .nm, 1, rfl, .nm (.of upd_same), by omega, fun v14 H14 s14 h14 => ⟨v14, _, rfl, h14, fun w14 H15 s15 h15 => ?_⟩⟩
      refine ⟨_, rfl, _, _, rfl, rfl, .inl ⟨by decide, by decide⟩, _, _, rfl, rfl, _, rfl, _, _, rfl, rfl, 12 - 2 * m + e, ?_, by omega, fun w16 H16 s16 h16 => ?_⟩
      · exact congrArg (fun z => [V.int z]) (by omega)
      have sD := s68.trans (s8B.trans (sp.trans (s12.trans s13)))
      have sE := sp2.trans (s14.trans s15)
      obtain ⟨vf, vl, vo, f', l', o', ag, e1, e2, e3, e4, e5, e6⟩ := fin 1 w12 w14 w16 H16 (by decide) (sD.trans (sE.trans s16)) (h13.same (sE.trans s16)) (h15.same s16) h16
      refine ⟨_, rfl, _, rfl, _, rfl, _, rfl, vf, vl, vo, f', l', o', ag, e1, e2, e3, e4, e5, fun u H' s' hu => ?_⟩
      obtain ⟨e7, e8⟩ := e6 u H' s' hu
      subst e7
      exact ⟨true, rfl, iteF ⟨e8, _, _, _, _, _, _, _, _, rfl⟩⟩
    · refine ifF (decide_eq_false fun z => hw (by injection z)) ?_
      obtain ⟨vf, vl, vo, f', l', o', ag, e1, e2, e3, e4, e5, e6⟩ := fin 0 w7 w9 w11 H11 (by decide) (s68.trans s8B) (h8.same s8B) (h10.same s11) h11
      refine ⟨_, rfl, _, rfl, _, rfl, _, rfl, vf, vl, vo, f', l', o', ag, e1, e2, e3, e4, e5, fun u H' s' hu => ?_⟩
      obtain ⟨e7, e8⟩ := e6 u H' s' hu
      subst e7
      exact ⟨true, rfl, iteF ⟨e8, _, _, _, _, _, _, _, _, rfl⟩⟩
  · rintro σ H2 ⟨dk2, u2, u3, u4, u5, u6, u7, u8, u9, rfl⟩
    exact q _
end
end K70
namespace K70
open PySem PySem.Spec PyProof.Rows L2
section
variable {w : World} {K : PySem.W.Frag} {h : Heap} {mg : Str → Option Value}
theorem x_is_name (X : K.In h) (G : h.Ns mainGlobals mg) (c : SaysK w K) : ∃ f fd, Df K mg "is_name" s_is_name ["thing"] f fd := by
  obtain ⟨fd, F0⟩ := c.t.d.def_ 0 (d := d_is_name) rfl
  have F : FunD K "is_name" "is_name" (defArgs s_is_name) (defBody s_is_name) (defScope s_is_name) [] [] (He.ga K "is_name") fd := F0
  exact ⟨_, fd, F, He.glo_ok X G (c.t.d.fact 39 (f := .glo "is_name") rfl), F.bindsN fun _ _ _ _ _ _ us hl => match us, hl with | [_], _ => rfl⟩
theorem x_is_worded (X : K.In h) (G : h.Ns mainGlobals mg) (c : SaysK w K) : ∃ f fd, Df K mg "is_worded" s_is_worded ["thing"] f fd := by
  obtain ⟨fd, F0⟩ := c.t.d.def_ 1 (d := d_is_worded) rfl
  have F : FunD K "is_worded" "is_worded" (defArgs s_is_worded) (defBody s_is_worded) (defScope s_is_worded) [] [] (He.ga K "is_worded") fd := F0
  exact ⟨_, fd, F, He.glo_ok X G (c.t.d.fact 40 (f := .glo "is_worded") rfl), F.bindsN fun _ _ _ _ _ _ us hl => match us, hl with | [_], _ => rfl⟩
theorem x_is_data (X : K.In h) (G : h.Ns mainGlobals mg) (c : SaysK w K) : ∃ f fd, Df K mg "is_data" s_is_data ["thing"] f fd := by
  obtain ⟨fd, F0⟩ := c.t.d.def_ 2 (d := d_is_data) rfl
  have F : FunD K "is_data" "is_data" (defArgs s_is_data) (defBody s_is_data) (defScope s_is_data) [] [] (He.ga K "is_data") fd := F0
  exact ⟨_, fd, F, He.glo_ok X G (c.t.d.fact 41 (f := .glo "is_data") rfl), F.bindsN fun _ _ _ _ _ _ us hl => match us, hl with | [_], _ => rfl⟩
theorem x_opens_in (X : K.In h) (G : h.Ns mainGlobals mg) (c : SaysK w K) : ∃ f fd, Df K mg "opens_in" s_opens_in ["kind"] f fd := by
  obtain ⟨fd, F0⟩ := c.t.d.def_ 3 (d := d_opens_in) rfl
  have F : FunD K "opens_in" "opens_in" (defArgs s_opens_in) (defBody s_opens_in) (defScope s_opens_in) [] [] (He.ga K "opens_in") fd := F0
  exact ⟨_, fd, F, He.glo_ok X G (c.t.d.fact 42 (f := .glo "opens_in") rfl), F.bindsN fun _ _ _ _ _ _ us hl => match us, hl with | [_], _ => rfl⟩
theorem x_term_spots (X : K.In h) (G : h.Ns mainGlobals mg) (c : SaysK w K) : ∃ f fd, Df K mg "term_spots" s_term_spots ["term"] f fd := by
  obtain ⟨fd, F0⟩ := c.t.d.def_ 4 (d := d_term_spots) rfl
  have F : FunD K "term_spots" "term_spots" (defArgs s_term_spots) (defBody s_term_spots) (defScope s_term_spots) [] [] (He.ga K "term_spots") fd := F0
  exact ⟨_, fd, F, He.glo_ok X G (c.t.d.fact 43 (f := .glo "term_spots") rfl), F.bindsN fun _ _ _ _ _ _ us hl => match us, hl with | [_], _ => rfl⟩
theorem x_inner_terms (X : K.In h) (G : h.Ns mainGlobals mg) (c : SaysK w K) : ∃ f fd, Df K mg "inner_terms" s_inner_terms ["term"] f fd := by
  obtain ⟨fd, F0⟩ := c.t.d.def_ 5 (d := d_inner_terms) rfl
  have F : FunD K "inner_terms" "inner_terms" (defArgs s_inner_terms) (defBody s_inner_terms) (defScope s_inner_terms) [] [] (He.ga K "inner_terms") fd := F0
  exact ⟨_, fd, F, He.glo_ok X G (c.t.d.fact 44 (f := .glo "inner_terms") rfl), F.bindsN fun _ _ _ _ _ _ us hl => match us, hl with | [_], _ => rfl⟩
theorem x_with_inner (X : K.In h) (G : h.Ns mainGlobals mg) (c : SaysK w K) : ∃ f fd, Df K mg "with_inner" s_with_inner ["term", "some"] f fd := by
  obtain ⟨fd, F0⟩ := c.t.d.def_ 6 (d := d_with_inner) rfl
  have F : FunD K "with_inner" "with_inner" (defArgs s_with_inner) (defBody s_with_inner) (defScope s_with_inner) [] [] (He.ga K "with_inner") fd := F0
  exact ⟨_, fd, F, He.glo_ok X G (c.t.d.fact 45 (f := .glo "with_inner") rfl), F.bindsN fun _ _ _ _ _ _ us hl => match us, hl with | [_, _], _ => rfl⟩
theorem x_parts_of_term (X : K.In h) (G : h.Ns mainGlobals mg) (c : SaysK w K) : ∃ f fd, Df K mg "parts_of_term" s_parts_of_term ["term"] f fd := by
  obtain ⟨fd, F0⟩ := c.t.d.def_ 7 (d := d_parts_of_term) rfl
  have F : FunD K "parts_of_term" "parts_of_term" (defArgs s_parts_of_term) (defBody s_parts_of_term) (defScope s_parts_of_term) [] [] (He.ga K "parts_of_term") fd := F0
  exact ⟨_, fd, F, He.glo_ok X G (c.t.d.fact 46 (f := .glo "parts_of_term") rfl), F.bindsN fun _ _ _ _ _ _ us hl => match us, hl with | [_], _ => rfl⟩
theorem x_depth_of_term (X : K.In h) (G : h.Ns mainGlobals mg) (c : SaysK w K) : ∃ f fd, Df K mg "depth_of_term" s_depth_of_term ["term"] f fd := by
  obtain ⟨fd, F0⟩ := c.t.d.def_ 8 (d := d_depth_of_term) rfl
  have F : FunD K "depth_of_term" "depth_of_term" (defArgs s_depth_of_term) (defBody s_depth_of_term) (defScope s_depth_of_term) [] [] (He.ga K "depth_of_term") fd := F0
  exact ⟨_, fd, F, He.glo_ok X G (c.t.d.fact 47 (f := .glo "depth_of_term") rfl), F.bindsN fun _ _ _ _ _ _ us hl => match us, hl with | [_], _ => rfl⟩
theorem x_put_in (X : K.In h) (G : h.Ns mainGlobals mg) (c : SaysK w K) : ∃ f fd, Df K mg "put_in" s_put_in ["kind", "table"] f fd := by
  obtain ⟨fd, F0⟩ := c.t.d.def_ 9 (d := d_put_in) rfl
  have F : FunD K "put_in" "put_in" (defArgs s_put_in) (defBody s_put_in) (defScope s_put_in) [] [] (He.ga K "put_in") fd := F0
  exact ⟨_, fd, F, He.glo_ok X G (c.t.d.fact 48 (f := .glo "put_in") rfl), F.bindsN fun _ _ _ _ _ _ us hl => match us, hl with | [_, _], _ => rfl⟩
theorem x_filled_kind (X : K.In h) (G : h.Ns mainGlobals mg) (c : SaysK w K) : ∃ f fd, Df K mg "filled_kind" s_filled_kind ["kind", "fills"] f fd := by
  obtain ⟨fd, F0⟩ := c.t.d.def_ 10 (d := d_filled_kind) rfl
  have F : FunD K "filled_kind" "filled_kind" (defArgs s_filled_kind) (defBody s_filled_kind) (defScope s_filled_kind) [] [] (He.ga K "filled_kind") fd := F0
  exact ⟨_, fd, F, He.glo_ok X G (c.t.d.fact 49 (f := .glo "filled_kind") rfl), F.bindsN fun _ _ _ _ _ _ us hl => match us, hl with | [_, _], _ => rfl⟩
theorem x_opens_of (X : K.In h) (G : h.Ns mainGlobals mg) (c : SaysK w K) : ∃ f fd, Df K mg "opens_of" s_opens_of ["term"] f fd := by
  obtain ⟨fd, F0⟩ := c.t.d.def_ 11 (d := d_opens_of) rfl
  have F : FunD K "opens_of" "opens_of" (defArgs s_opens_of) (defBody s_opens_of) (defScope s_opens_of) [] [] (He.ga K "opens_of") fd := F0
  exact ⟨_, fd, F, He.glo_ok X G (c.t.d.fact 50 (f := .glo "opens_of") rfl), F.bindsN fun _ _ _ _ _ _ us hl => match us, hl with | [_], _ => rfl⟩
theorem x_opens_brought (X : K.In h) (G : h.Ns mainGlobals mg) (c : SaysK w K) : ∃ f fd, Df K mg "opens_brought" s_opens_brought ["kinds"] f fd := by
  obtain ⟨fd, F0⟩ := c.t.d.def_ 12 (d := d_opens_brought) rfl
  have F : FunD K "opens_brought" "opens_brought" (defArgs s_opens_brought) (defBody s_opens_brought) (defScope s_opens_brought) [] [] (He.ga K "opens_brought") fd := F0
  exact ⟨_, fd, F, He.glo_ok X G (c.t.d.fact 51 (f := .glo "opens_brought") rfl), F.bindsN fun _ _ _ _ _ _ us hl => match us, hl with | [_], _ => rfl⟩
theorem x_put_in_term (X : K.In h) (G : h.Ns mainGlobals mg) (c : SaysK w K) : ∃ f fd, Df K mg "put_in_term" s_put_in_term ["term", "table", "taken"] f fd := by
  obtain ⟨fd, F0⟩ := c.t.d.def_ 13 (d := d_put_in_term) rfl
  have F : FunD K "put_in_term" "put_in_term" (defArgs s_put_in_term) (defBody s_put_in_term) (defScope s_put_in_term) [] [] (He.ga K "put_in_term") fd := F0
  exact ⟨_, fd, F, He.glo_ok X G (c.t.d.fact 52 (f := .glo "put_in_term") rfl), F.bindsN fun _ _ _ _ _ _ us hl => match us, hl with | [_, _, _], _ => rfl⟩
theorem x_filled_beside (X : K.In h) (G : h.Ns mainGlobals mg) (c : SaysK w K) : ∃ f fd, Df K mg "filled_beside" s_filled_beside ["term", "fills", "taken"] f fd := by
  obtain ⟨fd, F0⟩ := c.t.d.def_ 14 (d := d_filled_beside) rfl
  have F : FunD K "filled_beside" "filled_beside" (defArgs s_filled_beside) (defBody s_filled_beside) (defScope s_filled_beside) [] [] (He.ga K "filled_beside") fd := F0
  exact ⟨_, fd, F, He.glo_ok X G (c.t.d.fact 53 (f := .glo "filled_beside") rfl), F.bindsN fun _ _ _ _ _ _ us hl => match us, hl with | [_, _, _], _ => rfl⟩
theorem x_filled_term (X : K.In h) (G : h.Ns mainGlobals mg) (c : SaysK w K) : ∃ f fd, Df K mg "filled_term" s_filled_term ["term", "fills"] f fd := by
  obtain ⟨fd, F0⟩ := c.t.d.def_ 15 (d := d_filled_term) rfl
  have F : FunD K "filled_term" "filled_term" (defArgs s_filled_term) (defBody s_filled_term) (defScope s_filled_term) [] [] (He.ga K "filled_term") fd := F0
  exact ⟨_, fd, F, He.glo_ok X G (c.t.d.fact 54 (f := .glo "filled_term") rfl), F.bindsN fun _ _ _ _ _ _ us hl => match us, hl with | [_, _], _ => rfl⟩
theorem x_Scope_init (X : K.In h) (G : h.Ns mainGlobals mg) (c : SaysK w K) : ∃ f fd, Dc K mg "Scope" "Scope.__init__" s_Scope_init ["self", "looked", "told", "names"] (He.ga K "Scope") f fd := by
  obtain ⟨fd, F0⟩ := c.t.d.def_ 16 (d := d_Scope_init) rfl
  have F : FunD K "__init__" "Scope.__init__" (defArgs s_Scope_init) (defBody s_Scope_init) (defScope s_Scope_init) [] [] (He.ma K (He.ga K "Scope") "__init__") fd := F0
  exact ⟨_, fd, He.cls_ok (c.t.d.fact 92 (f := .cls "Scope") rfl), He.glo_ok X G (c.t.d.fact 27 (f := .glo "Scope") rfl), He.mkr_ok (c.t.d.fact 95 (f := .mkr "Scope") rfl), F, F.bindsN fun _ _ _ _ _ _ us hl => match us, hl with | [_, _, _, _], _ => rfl⟩
theorem x_Scope_bound (X : K.In h) (G : h.Ns mainGlobals mg) (c : SaysK w K) : ∃ f fd, Dm K (He.ga K "Scope") "bound" "Scope.bound" s_Scope_bound ["self", "pairs"] f fd := by
  obtain ⟨fd, F0⟩ := c.t.d.def_ 17 (d := d_Scope_bound) rfl
  have F : FunD K "bound" "Scope.bound" (defArgs s_Scope_bound) (defBody s_Scope_bound) (defScope s_Scope_bound) [] [] (He.ma K (He.ga K "Scope") "bound") fd := F0
  exact ⟨_, fd, F, He.meth_ok (c.t.d.fact 98 (f := .meth "Scope" "bound") rfl), F.bindsN fun _ _ _ _ _ _ us hl => match us, hl with | [_, _], _ => rfl⟩
theorem x_ask (X : K.In h) (G : h.Ns mainGlobals mg) (c : SaysK w K) : ∃ f fd, Df K mg "ask" s_ask ["good"] f fd := by
  obtain ⟨fd, F0⟩ := c.t.d.def_ 18 (d := d_ask) rfl
  have F : FunD K "ask" "ask" (defArgs s_ask) (defBody s_ask) (defScope s_ask) [] [] (He.ga K "ask") fd := F0
  exact ⟨_, fd, F, He.glo_ok X G (c.t.d.fact 55 (f := .glo "ask") rfl), F.bindsN fun _ _ _ _ _ _ us hl => match us, hl with | [_], _ => rfl⟩
theorem x_data_in (X : K.In h) (G : h.Ns mainGlobals mg) (c : SaysK w K) : ∃ f fd, Df K mg "data_in" s_data_in ["scope", "term"] f fd := by
  obtain ⟨fd, F0⟩ := c.t.d.def_ 19 (d := d_data_in) rfl
  have F : FunD K "data_in" "data_in" (defArgs s_data_in) (defBody s_data_in) (defScope s_data_in) [] [] (He.ga K "data_in") fd := F0
  exact ⟨_, fd, F, He.glo_ok X G (c.t.d.fact 56 (f := .glo "data_in") rfl), F.bindsN fun _ _ _ _ _ _ us hl => match us, hl with | [_, _], _ => rfl⟩
theorem x_word_in (X : K.In h) (G : h.Ns mainGlobals mg) (c : SaysK w K) : ∃ f fd, Df K mg "word_in" s_word_in ["scope", "term", "word"] f fd := by
  obtain ⟨fd, F0⟩ := c.t.d.def_ 20 (d := d_word_in) rfl
  have F : FunD K "word_in" "word_in" (defArgs s_word_in) (defBody s_word_in) (defScope s_word_in) [] [] (He.ga K "word_in") fd := F0
  exact ⟨_, fd, F, He.glo_ok X G (c.t.d.fact 57 (f := .glo "word_in") rfl), F.bindsN fun _ _ _ _ _ _ us hl => match us, hl with | [_, _, _], _ => rfl⟩
theorem x_name_kind (X : K.In h) (G : h.Ns mainGlobals mg) (c : SaysK w K) : ∃ f fd, Df K mg "name_kind" s_name_kind ["scope", "term"] f fd := by
  obtain ⟨fd, F0⟩ := c.t.d.def_ 21 (d := d_name_kind) rfl
  have F : FunD K "name_kind" "name_kind" (defArgs s_name_kind) (defBody s_name_kind) (defScope s_name_kind) [] [] (He.ga K "name_kind") fd := F0
  exact ⟨_, fd, F, He.glo_ok X G (c.t.d.fact 58 (f := .glo "name_kind") rfl), F.bindsN fun _ _ _ _ _ _ us hl => match us, hl with | [_, _], _ => rfl⟩
theorem x_fun_kind (X : K.In h) (G : h.Ns mainGlobals mg) (c : SaysK w K) : ∃ f fd, Df K mg "fun_kind" s_fun_kind ["scope", "term"] f fd := by
  obtain ⟨fd, F0⟩ := c.t.d.def_ 22 (d := d_fun_kind) rfl
  have F : FunD K "fun_kind" "fun_kind" (defArgs s_fun_kind) (defBody s_fun_kind) (defScope s_fun_kind) [] [] (He.ga K "fun_kind") fd := F0
  exact ⟨_, fd, F, He.glo_ok X G (c.t.d.fact 59 (f := .glo "fun_kind") rfl), F.bindsN fun _ _ _ _ _ _ us hl => match us, hl with | [_, _], _ => rfl⟩
theorem x_call_kind (X : K.In h) (G : h.Ns mainGlobals mg) (c : SaysK w K) : ∃ f fd, Df K mg "call_kind" s_call_kind ["scope", "term"] f fd := by
  obtain ⟨fd, F0⟩ := c.t.d.def_ 23 (d := d_call_kind) rfl
  have F : FunD K "call_kind" "call_kind" (defArgs s_call_kind) (defBody s_call_kind) (defScope s_call_kind) [] [] (He.ga K "call_kind") fd := F0
  exact ⟨_, fd, F, He.glo_ok X G (c.t.d.fact 60 (f := .glo "call_kind") rfl), F.bindsN fun _ _ _ _ _ _ us hl => match us, hl with | [_, _], _ => rfl⟩
theorem x_bare_kind (X : K.In h) (G : h.Ns mainGlobals mg) (c : SaysK w K) : ∃ f fd, Df K mg "bare_kind" s_bare_kind ["scope", "term"] f fd := by
  obtain ⟨fd, F0⟩ := c.t.d.def_ 24 (d := d_bare_kind) rfl
  have F : FunD K "bare_kind" "bare_kind" (defArgs s_bare_kind) (defBody s_bare_kind) (defScope s_bare_kind) [] [] (He.ga K "bare_kind") fd := F0
  exact ⟨_, fd, F, He.glo_ok X G (c.t.d.fact 61 (f := .glo "bare_kind") rfl), F.bindsN fun _ _ _ _ _ _ us hl => match us, hl with | [_, _], _ => rfl⟩
theorem x_plus_kind (X : K.In h) (G : h.Ns mainGlobals mg) (c : SaysK w K) : ∃ f fd, Df K mg "plus_kind" s_plus_kind ["scope", "term"] f fd := by
  obtain ⟨fd, F0⟩ := c.t.d.def_ 25 (d := d_plus_kind) rfl
  have F : FunD K "plus_kind" "plus_kind" (defArgs s_plus_kind) (defBody s_plus_kind) (defScope s_plus_kind) [] [] (He.ga K "plus_kind") fd := F0
  exact ⟨_, fd, F, He.glo_ok X G (c.t.d.fact 62 (f := .glo "plus_kind") rfl), F.bindsN fun _ _ _ _ _ _ us hl => match us, hl with | [_, _], _ => rfl⟩
theorem x_pair_kind (X : K.In h) (G : h.Ns mainGlobals mg) (c : SaysK w K) : ∃ f fd, Df K mg "pair_kind" s_pair_kind ["scope", "term"] f fd := by
  obtain ⟨fd, F0⟩ := c.t.d.def_ 26 (d := d_pair_kind) rfl
  have F : FunD K "pair_kind" "pair_kind" (defArgs s_pair_kind) (defBody s_pair_kind) (defScope s_pair_kind) [] [] (He.ga K "pair_kind") fd := F0
  exact ⟨_, fd, F, He.glo_ok X G (c.t.d.fact 63 (f := .glo "pair_kind") rfl), F.bindsN fun _ _ _ _ _ _ us hl => match us, hl with | [_, _], _ => rfl⟩
theorem x_left_kind (X : K.In h) (G : h.Ns mainGlobals mg) (c : SaysK w K) : ∃ f fd, Df K mg "left_kind" s_left_kind ["scope", "term"] f fd := by
  obtain ⟨fd, F0⟩ := c.t.d.def_ 27 (d := d_left_kind) rfl
  have F : FunD K "left_kind" "left_kind" (defArgs s_left_kind) (defBody s_left_kind) (defScope s_left_kind) [] [] (He.ga K "left_kind") fd := F0
  exact ⟨_, fd, F, He.glo_ok X G (c.t.d.fact 64 (f := .glo "left_kind") rfl), F.bindsN fun _ _ _ _ _ _ us hl => match us, hl with | [_, _], _ => rfl⟩
theorem x_told_kind (X : K.In h) (G : h.Ns mainGlobals mg) (c : SaysK w K) : ∃ f fd, Df K mg "told_kind" s_told_kind ["scope", "term"] f fd := by
  obtain ⟨fd, F0⟩ := c.t.d.def_ 28 (d := d_told_kind) rfl
  have F : FunD K "told_kind" "told_kind" (defArgs s_told_kind) (defBody s_told_kind) (defScope s_told_kind) [] [] (He.ga K "told_kind") fd := F0
  exact ⟨_, fd, F, He.glo_ok X G (c.t.d.fact 65 (f := .glo "told_kind") rfl), F.bindsN fun _ _ _ _ _ _ us hl => match us, hl with | [_, _], _ => rfl⟩
theorem x_kind_in (X : K.In h) (G : h.Ns mainGlobals mg) (c : SaysK w K) : ∃ f fd, Df K mg "kind_in" s_kind_in ["scope", "term"] f fd := by
  obtain ⟨fd, F0⟩ := c.t.d.def_ 29 (d := d_kind_in) rfl
  have F : FunD K "kind_in" "kind_in" (defArgs s_kind_in) (defBody s_kind_in) (defScope s_kind_in) [] [] (He.ga K "kind_in") fd := F0
  exact ⟨_, fd, F, He.glo_ok X G (c.t.d.fact 66 (f := .glo "kind_in") rfl), F.bindsN fun _ _ _ _ _ _ us hl => match us, hl with | [_, _], _ => rfl⟩
theorem x_kind_of (X : K.In h) (G : h.Ns mainGlobals mg) (c : SaysK w K) : ∃ f fd, FunD K "kind_of" "kind_of" (defArgs s_kind_of) (defBody s_kind_of) (defScope s_kind_of) [.non] [] f fd ∧ mg "kind_of" = some (.ref f) ∧ Binds K fd ["term", "looked", "known"] [] := by
  obtain ⟨fd, F0⟩ := c.t.d.def_ 30 (d := d_kind_of) rfl
  have F : FunD K "kind_of" "kind_of" (defArgs s_kind_of) (defBody s_kind_of) (defScope s_kind_of) [.non] [] (He.ga K "kind_of") fd := F0
  obtain ⟨ds, hd, hb⟩ := F.binds1 (ps := ["term", "looked", "known"]) 3 1 (by intro z; cases z) rfl fun _ _ _ _ _ _ _ us its hu hi => match us, its, hu, hi with
    | [_, _, _], [_], _, _ => ⟨_, rfl, rfl⟩
  cases hd
  exact ⟨_, fd, F, He.glo_ok X G (c.t.d.fact 67 (f := .glo "kind_of") rfl), hb⟩
theorem x_uses_of (X : K.In h) (G : h.Ns mainGlobals mg) (c : SaysK w K) : ∃ f fd, Df K mg "uses_of" s_uses_of ["term"] f fd := by
  obtain ⟨fd, F0⟩ := c.t.d.def_ 31 (d := d_uses_of) rfl
  have F : FunD K "uses_of" "uses_of" (defArgs s_uses_of) (defBody s_uses_of) (defScope s_uses_of) [] [] (He.ga K "uses_of") fd := F0
  exact ⟨_, fd, F, He.glo_ok X G (c.t.d.fact 68 (f := .glo "uses_of") rfl), F.bindsN fun _ _ _ _ _ _ us hl => match us, hl with | [_], _ => rfl⟩
theorem x_whole_parts (X : K.In h) (G : h.Ns mainGlobals mg) (c : SaysK w K) : ∃ f fd, Df K mg "whole_parts" s_whole_parts ["term", "wholes"] f fd := by
  obtain ⟨fd, F0⟩ := c.t.d.def_ 32 (d := d_whole_parts) rfl
  have F : FunD K "whole_parts" "whole_parts" (defArgs s_whole_parts) (defBody s_whole_parts) (defScope s_whole_parts) [] [] (He.ga K "whole_parts") fd := F0
  exact ⟨_, fd, F, He.glo_ok X G (c.t.d.fact 69 (f := .glo "whole_parts") rfl), F.bindsN fun _ _ _ _ _ _ us hl => match us, hl with | [_, _], _ => rfl⟩
theorem x_whole_depth (X : K.In h) (G : h.Ns mainGlobals mg) (c : SaysK w K) : ∃ f fd, Df K mg "whole_depth" s_whole_depth ["term", "wholes"] f fd := by
  obtain ⟨fd, F0⟩ := c.t.d.def_ 33 (d := d_whole_depth) rfl
  have F : FunD K "whole_depth" "whole_depth" (defArgs s_whole_depth) (defBody s_whole_depth) (defScope s_whole_depth) [] [] (He.ga K "whole_depth") fd := F0
  exact ⟨_, fd, F, He.glo_ok X G (c.t.d.fact 70 (f := .glo "whole_depth") rfl), F.bindsN fun _ _ _ _ _ _ us hl => match us, hl with | [_, _], _ => rfl⟩
theorem x_scope_within (X : K.In h) (G : h.Ns mainGlobals mg) (c : SaysK w K) : ∃ f fd, Df K mg "scope_within" s_scope_within ["scope", "term", "at", "ahead"] f fd := by
  obtain ⟨fd, F0⟩ := c.t.d.def_ 34 (d := d_scope_within) rfl
  have F : FunD K "scope_within" "scope_within" (defArgs s_scope_within) (defBody s_scope_within) (defScope s_scope_within) [] [] (He.ga K "scope_within") fd := F0
  exact ⟨_, fd, F, He.glo_ok X G (c.t.d.fact 71 (f := .glo "scope_within") rfl), F.bindsN fun _ _ _ _ _ _ us hl => match us, hl with | [_, _, _, _], _ => rfl⟩
theorem x_put_together (X : K.In h) (G : h.Ns mainGlobals mg) (c : SaysK w K) : ∃ f fd, Df K mg "put_together" s_put_together ["scope", "term", "wholes"] f fd := by
  obtain ⟨fd, F0⟩ := c.t.d.def_ 35 (d := d_put_together) rfl
  have F : FunD K "put_together" "put_together" (defArgs s_put_together) (defBody s_put_together) (defScope s_put_together) [] [] (He.ga K "put_together") fd := F0
  exact ⟨_, fd, F, He.glo_ok X G (c.t.d.fact 72 (f := .glo "put_together") rfl), F.bindsN fun _ _ _ _ _ _ us hl => match us, hl with | [_, _, _], _ => rfl⟩
theorem x_whole_of (X : K.In h) (G : h.Ns mainGlobals mg) (c : SaysK w K) : ∃ f fd, Df K mg "whole_of" s_whole_of ["looked", "term", "told", "wholes"] f fd := by
  obtain ⟨fd, F0⟩ := c.t.d.def_ 36 (d := d_whole_of) rfl
  have F : FunD K "whole_of" "whole_of" (defArgs s_whole_of) (defBody s_whole_of) (defScope s_whole_of) [] [] (He.ga K "whole_of") fd := F0
  exact ⟨_, fd, F, He.glo_ok X G (c.t.d.fact 73 (f := .glo "whole_of") rfl), F.bindsN fun _ _ _ _ _ _ us hl => match us, hl with | [_, _, _, _], _ => rfl⟩
theorem x_Function_init (X : K.In h) (G : h.Ns mainGlobals mg) (c : SaysK w K) : ∃ f fd, Dc K mg "Function" "Function.__init__" s_Function_init ["self", "looks", "term", "times"] (He.ga K "Function") f fd := by
  obtain ⟨fd, F0⟩ := c.t.d.def_ 37 (d := d_Function_init) rfl
  have F : FunD K "__init__" "Function.__init__" (defArgs s_Function_init) (defBody s_Function_init) (defScope s_Function_init) [] [] (He.ma K (He.ga K "Function") "__init__") fd := F0
  exact ⟨_, fd, He.cls_ok (c.t.d.fact 93 (f := .cls "Function") rfl), He.glo_ok X G (c.t.d.fact 28 (f := .glo "Function") rfl), He.mkr_ok (c.t.d.fact 96 (f := .mkr "Function") rfl), F, F.bindsN fun _ _ _ _ _ _ us hl => match us, hl with | [_, _, _, _], _ => rfl⟩
theorem x_told_by (X : K.In h) (G : h.Ns mainGlobals mg) (c : SaysK w K) : ∃ f fd, Df K mg "told_by" s_told_by ["functions", "names"] f fd := by
  obtain ⟨fd, F0⟩ := c.t.d.def_ 38 (d := d_told_by) rfl
  have F : FunD K "told_by" "told_by" (defArgs s_told_by) (defBody s_told_by) (defScope s_told_by) [] [] (He.ga K "told_by") fd := F0
  exact ⟨_, fd, F, He.glo_ok X G (c.t.d.fact 74 (f := .glo "told_by") rfl), F.bindsN fun _ _ _ _ _ _ us hl => match us, hl with | [_, _], _ => rfl⟩
theorem x_give_kind (X : K.In h) (G : h.Ns mainGlobals mg) (c : SaysK w K) : ∃ f fd, Df K mg "give_kind" s_give_kind ["functions", "one"] f fd := by
  obtain ⟨fd, F0⟩ := c.t.d.def_ 39 (d := d_give_kind) rfl
  have F : FunD K "give_kind" "give_kind" (defArgs s_give_kind) (defBody s_give_kind) (defScope s_give_kind) [] [] (He.ga K "give_kind") fd := F0
  exact ⟨_, fd, F, He.glo_ok X G (c.t.d.fact 75 (f := .glo "give_kind") rfl), F.bindsN fun _ _ _ _ _ _ us hl => match us, hl with | [_, _], _ => rfl⟩
theorem x_give_whole (X : K.In h) (G : h.Ns mainGlobals mg) (c : SaysK w K) : ∃ f fd, Df K mg "give_whole" s_give_whole ["functions", "one"] f fd := by
  obtain ⟨fd, F0⟩ := c.t.d.def_ 40 (d := d_give_whole) rfl
  have F : FunD K "give_whole" "give_whole" (defArgs s_give_whole) (defBody s_give_whole) (defScope s_give_whole) [] [] (He.ga K "give_whole") fd := F0
  exact ⟨_, fd, F, He.glo_ok X G (c.t.d.fact 76 (f := .glo "give_whole") rfl), F.bindsN fun _ _ _ _ _ _ us hl => match us, hl with | [_, _], _ => rfl⟩
theorem x_reach_of (X : K.In h) (G : h.Ns mainGlobals mg) (c : SaysK w K) : ∃ f fd, Df K mg "reach_of" s_reach_of ["functions", "names"] f fd := by
  obtain ⟨fd, F0⟩ := c.t.d.def_ 41 (d := d_reach_of) rfl
  have F : FunD K "reach_of" "reach_of" (defArgs s_reach_of) (defBody s_reach_of) (defScope s_reach_of) [] [] (He.ga K "reach_of") fd := F0
  exact ⟨_, fd, F, He.glo_ok X G (c.t.d.fact 77 (f := .glo "reach_of") rfl), F.bindsN fun _ _ _ _ _ _ us hl => match us, hl with | [_, _], _ => rfl⟩
theorem x_by_uses (X : K.In h) (G : h.Ns mainGlobals mg) (c : SaysK w K) : ∃ f fd, Df K mg "by_uses" s_by_uses ["functions", "names"] f fd := by
  obtain ⟨fd, F0⟩ := c.t.d.def_ 42 (d := d_by_uses) rfl
  have F : FunD K "by_uses" "by_uses" (defArgs s_by_uses) (defBody s_by_uses) (defScope s_by_uses) [] [] (He.ga K "by_uses") fd := F0
  exact ⟨_, fd, F, He.glo_ok X G (c.t.d.fact 78 (f := .glo "by_uses") rfl), F.bindsN fun _ _ _ _ _ _ us hl => match us, hl with | [_, _], _ => rfl⟩
theorem x_kinds_anew (X : K.In h) (G : h.Ns mainGlobals mg) (c : SaysK w K) : ∃ f fd, Df K mg "kinds_anew" s_kinds_anew ["functions", "names"] f fd := by
  obtain ⟨fd, F0⟩ := c.t.d.def_ 43 (d := d_kinds_anew) rfl
  have F : FunD K "kinds_anew" "kinds_anew" (defArgs s_kinds_anew) (defBody s_kinds_anew) (defScope s_kinds_anew) [] [] (He.ga K "kinds_anew") fd := F0
  exact ⟨_, fd, F, He.glo_ok X G (c.t.d.fact 79 (f := .glo "kinds_anew") rfl), F.bindsN fun _ _ _ _ _ _ us hl => match us, hl with | [_, _], _ => rfl⟩
theorem x_Stand_init (X : K.In h) (G : h.Ns mainGlobals mg) (c : SaysK w K) : ∃ f fd, Dc K mg "Stand" "Stand.__init__" s_Stand_init ["self"] (He.ga K "Stand") f fd := by
  obtain ⟨fd, F0⟩ := c.t.d.def_ 44 (d := d_Stand_init) rfl
  have F : FunD K "__init__" "Stand.__init__" (defArgs s_Stand_init) (defBody s_Stand_init) (defScope s_Stand_init) [] [] (He.ma K (He.ga K "Stand") "__init__") fd := F0
  exact ⟨_, fd, He.cls_ok (c.t.d.fact 94 (f := .cls "Stand") rfl), He.glo_ok X G (c.t.d.fact 29 (f := .glo "Stand") rfl), He.mkr_ok (c.t.d.fact 97 (f := .mkr "Stand") rfl), F, F.bindsN fun _ _ _ _ _ _ us hl => match us, hl with | [_], _ => rfl⟩
theorem x_Stand_function (X : K.In h) (G : h.Ns mainGlobals mg) (c : SaysK w K) : ∃ f fd, Dm K (He.ga K "Stand") "function" "Stand.function" s_Stand_function ["self", "name"] f fd := by
  obtain ⟨fd, F0⟩ := c.t.d.def_ 45 (d := d_Stand_function) rfl
  have F : FunD K "function" "Stand.function" (defArgs s_Stand_function) (defBody s_Stand_function) (defScope s_Stand_function) [] [] (He.ma K (He.ga K "Stand") "function") fd := F0
  exact ⟨_, fd, F, He.meth_ok (c.t.d.fact 99 (f := .meth "Stand" "function") rfl), F.bindsN fun _ _ _ _ _ _ us hl => match us, hl with | [_, _], _ => rfl⟩
theorem x_Stand_tell (X : K.In h) (G : h.Ns mainGlobals mg) (c : SaysK w K) : ∃ f fd, Dm K (He.ga K "Stand") "tell" "Stand.tell" s_Stand_tell ["self", "name", "looked", "term"] f fd := by
  obtain ⟨fd, F0⟩ := c.t.d.def_ 46 (d := d_Stand_tell) rfl
  have F : FunD K "tell" "Stand.tell" (defArgs s_Stand_tell) (defBody s_Stand_tell) (defScope s_Stand_tell) [] [] (He.ma K (He.ga K "Stand") "tell") fd := F0
  exact ⟨_, fd, F, He.meth_ok (c.t.d.fact 100 (f := .meth "Stand" "tell") rfl), F.bindsN fun _ _ _ _ _ _ us hl => match us, hl with | [_, _, _, _], _ => rfl⟩
theorem x_Stand_retell (X : K.In h) (G : h.Ns mainGlobals mg) (c : SaysK w K) : ∃ f fd, Dm K (He.ga K "Stand") "retell" "Stand.retell" s_Stand_retell ["self", "name", "looked", "term"] f fd := by
  obtain ⟨fd, F0⟩ := c.t.d.def_ 47 (d := d_Stand_retell) rfl
  have F : FunD K "retell" "Stand.retell" (defArgs s_Stand_retell) (defBody s_Stand_retell) (defScope s_Stand_retell) [] [] (He.ma K (He.ga K "Stand") "retell") fd := F0
  exact ⟨_, fd, F, He.meth_ok (c.t.d.fact 101 (f := .meth "Stand" "retell") rfl), F.bindsN fun _ _ _ _ _ _ us hl => match us, hl with | [_, _, _, _], _ => rfl⟩
theorem x_Stand_names (X : K.In h) (G : h.Ns mainGlobals mg) (c : SaysK w K) : ∃ f fd, Dm K (He.ga K "Stand") "names" "Stand.names" s_Stand_names ["self"] f fd := by
  obtain ⟨fd, F0⟩ := c.t.d.def_ 48 (d := d_Stand_names) rfl
  have F : FunD K "names" "Stand.names" (defArgs s_Stand_names) (defBody s_Stand_names) (defScope s_Stand_names) [] [] (He.ma K (He.ga K "Stand") "names") fd := F0
  exact ⟨_, fd, F, He.meth_ok (c.t.d.fact 102 (f := .meth "Stand" "names") rfl), F.bindsN fun _ _ _ _ _ _ us hl => match us, hl with | [_], _ => rfl⟩
theorem x_Stand_whole (X : K.In h) (G : h.Ns mainGlobals mg) (c : SaysK w K) : ∃ f fd, Dm K (He.ga K "Stand") "whole" "Stand.whole" s_Stand_whole ["self", "name"] f fd := by
  obtain ⟨fd, F0⟩ := c.t.d.def_ 49 (d := d_Stand_whole) rfl
  have F : FunD K "whole" "Stand.whole" (defArgs s_Stand_whole) (defBody s_Stand_whole) (defScope s_Stand_whole) [] [] (He.ma K (He.ga K "Stand") "whole") fd := F0
  exact ⟨_, fd, F, He.meth_ok (c.t.d.fact 103 (f := .meth "Stand" "whole") rfl), F.bindsN fun _ _ _ _ _ _ us hl => match us, hl with | [_, _], _ => rfl⟩
theorem x_Stand_made (X : K.In h) (G : h.Ns mainGlobals mg) (c : SaysK w K) : ∃ f fd, Dm K (He.ga K "Stand") "made" "Stand.made" s_Stand_made ["self", "name"] f fd := by
  obtain ⟨fd, F0⟩ := c.t.d.def_ 50 (d := d_Stand_made) rfl
  have F : FunD K "made" "Stand.made" (defArgs s_Stand_made) (defBody s_Stand_made) (defScope s_Stand_made) [] [] (He.ma K (He.ga K "Stand") "made") fd := F0
  exact ⟨_, fd, F, He.meth_ok (c.t.d.fact 104 (f := .meth "Stand" "made") rfl), F.bindsN fun _ _ _ _ _ _ us hl => match us, hl with | [_, _], _ => rfl⟩
theorem x_l_deck (X : K.In h) (G : h.Ns mainGlobals mg) (c : SaysK w K) : ∃ f fd, Df K mg "_law_deck" s_l_deck ["_law_script"] f fd := by
  obtain ⟨fd, F0⟩ := c.t.d.def_ 51 (d := d_l_deck) rfl
  have F : FunD K "_law_deck" "_law_deck" (defArgs s_l_deck) (defBody s_l_deck) (defScope s_l_deck) [] [] (He.ga K "_law_deck") fd := F0
  exact ⟨_, fd, F, He.glo_ok X G (c.t.d.fact 80 (f := .glo "_law_deck") rfl), F.bindsN fun _ _ _ _ _ _ us hl => match us, hl with | [_], _ => rfl⟩
theorem x_l_draw (X : K.In h) (G : h.Ns mainGlobals mg) (c : SaysK w K) : ∃ f fd, Df K mg "_law_draw" s_l_draw ["_law_deck_here", "_law_most"] f fd := by
  obtain ⟨fd, F0⟩ := c.t.d.def_ 52 (d := d_l_draw) rfl
  have F : FunD K "_law_draw" "_law_draw" (defArgs s_l_draw) (defBody s_l_draw) (defScope s_l_draw) [] [] (He.ga K "_law_draw") fd := F0
  exact ⟨_, fd, F, He.glo_ok X G (c.t.d.fact 81 (f := .glo "_law_draw") rfl), F.bindsN fun _ _ _ _ _ _ us hl => match us, hl with | [_, _], _ => rfl⟩
theorem x_l_sum (X : K.In h) (G : h.Ns mainGlobals mg) (c : SaysK w K) : ∃ f fd, Df K mg "_law_sum" s_l_sum ["_law_many"] f fd := by
  obtain ⟨fd, F0⟩ := c.t.d.def_ 53 (d := d_l_sum) rfl
  have F : FunD K "_law_sum" "_law_sum" (defArgs s_l_sum) (defBody s_l_sum) (defScope s_l_sum) [] [] (He.ga K "_law_sum") fd := F0
  exact ⟨_, fd, F, He.glo_ok X G (c.t.d.fact 82 (f := .glo "_law_sum") rfl), F.bindsN fun _ _ _ _ _ _ us hl => match us, hl with | [_], _ => rfl⟩
theorem x_l_lefts (X : K.In h) (G : h.Ns mainGlobals mg) (c : SaysK w K) : ∃ f fd, Df K mg "_law_lefts" s_l_lefts ["_law_term", "_law_many"] f fd := by
  obtain ⟨fd, F0⟩ := c.t.d.def_ 54 (d := d_l_lefts) rfl
  have F : FunD K "_law_lefts" "_law_lefts" (defArgs s_l_lefts) (defBody s_l_lefts) (defScope s_l_lefts) [] [] (He.ga K "_law_lefts") fd := F0
  exact ⟨_, fd, F, He.glo_ok X G (c.t.d.fact 83 (f := .glo "_law_lefts") rfl), F.bindsN fun _ _ _ _ _ _ us hl => match us, hl with | [_, _], _ => rfl⟩
theorem x_l_fun (X : K.In h) (G : h.Ns mainGlobals mg) (c : SaysK w K) : ∃ f fd, Df K mg "_law_fun" s_l_fun ["_law_body"] f fd := by
  obtain ⟨fd, F0⟩ := c.t.d.def_ 55 (d := d_l_fun) rfl
  have F : FunD K "_law_fun" "_law_fun" (defArgs s_l_fun) (defBody s_l_fun) (defScope s_l_fun) [] [] (He.ga K "_law_fun") fd := F0
  exact ⟨_, fd, F, He.glo_ok X G (c.t.d.fact 84 (f := .glo "_law_fun") rfl), F.bindsN fun _ _ _ _ _ _ us hl => match us, hl with | [_], _ => rfl⟩
theorem x_l_measured (X : K.In h) (G : h.Ns mainGlobals mg) (c : SaysK w K) : ∃ f fd, Df K mg "_law_measured" s_l_measured ["_law_term"] f fd := by
  obtain ⟨fd, F0⟩ := c.t.d.def_ 56 (d := d_l_measured) rfl
  have F : FunD K "_law_measured" "_law_measured" (defArgs s_l_measured) (defBody s_l_measured) (defScope s_l_measured) [] [] (He.ga K "_law_measured") fd := F0
  exact ⟨_, fd, F, He.glo_ok X G (c.t.d.fact 85 (f := .glo "_law_measured") rfl), F.bindsN fun _ _ _ _ _ _ us hl => match us, hl with | [_], _ => rfl⟩
theorem x_l_refused (X : K.In h) (G : h.Ns mainGlobals mg) (c : SaysK w K) : ∃ f fd, Df K mg "_law_refused" s_l_refused ["_law_stand", "_law_word", "_law_name", "_law_term"] f fd := by
  obtain ⟨fd, F0⟩ := c.t.d.def_ 57 (d := d_l_refused) rfl
  have F : FunD K "_law_refused" "_law_refused" (defArgs s_l_refused) (defBody s_l_refused) (defScope s_l_refused) [] [] (He.ga K "_law_refused") fd := F0
  exact ⟨_, fd, F, He.glo_ok X G (c.t.d.fact 86 (f := .glo "_law_refused") rfl), F.bindsN fun _ _ _ _ _ _ us hl => match us, hl with | [_, _, _, _], _ => rfl⟩
theorem x_l_due_parts (X : K.In h) (G : h.Ns mainGlobals mg) (c : SaysK w K) : ∃ f fd, Df K mg "_law_due_parts" s_l_due_parts ["_law_extra"] f fd := by
  obtain ⟨fd, F0⟩ := c.t.d.def_ 58 (d := d_l_due_parts) rfl
  have F : FunD K "_law_due_parts" "_law_due_parts" (defArgs s_l_due_parts) (defBody s_l_due_parts) (defScope s_l_due_parts) [] [] (He.ga K "_law_due_parts") fd := F0
  exact ⟨_, fd, F, He.glo_ok X G (c.t.d.fact 87 (f := .glo "_law_due_parts") rfl), F.bindsN fun _ _ _ _ _ _ us hl => match us, hl with | [_], _ => rfl⟩
theorem x_l_due_deep (X : K.In h) (G : h.Ns mainGlobals mg) (c : SaysK w K) : ∃ f fd, Df K mg "_law_due_deep" s_l_due_deep ["_law_extra"] f fd := by
  obtain ⟨fd, F0⟩ := c.t.d.def_ 59 (d := d_l_due_deep) rfl
  have F : FunD K "_law_due_deep" "_law_due_deep" (defArgs s_l_due_deep) (defBody s_l_due_deep) (defScope s_l_due_deep) [] [] (He.ga K "_law_due_deep") fd := F0
  exact ⟨_, fd, F, He.glo_ok X G (c.t.d.fact 88 (f := .glo "_law_due_deep") rfl), F.bindsN fun _ _ _ _ _ _ us hl => match us, hl with | [_], _ => rfl⟩
theorem x_l_put_in (X : K.In h) (G : h.Ns mainGlobals mg) (c : SaysK w K) : ∃ f fd, Df K mg "_law_put_in" s_l_put_in ["_law_term", "_law_body"] f fd := by
  obtain ⟨fd, F0⟩ := c.t.d.def_ 60 (d := d_l_put_in) rfl
  have F : FunD K "_law_put_in" "_law_put_in" (defArgs s_l_put_in) (defBody s_l_put_in) (defScope s_l_put_in) [] [] (He.ga K "_law_put_in") fd := F0
  exact ⟨_, fd, F, He.glo_ok X G (c.t.d.fact 89 (f := .glo "_law_put_in") rfl), F.bindsN fun _ _ _ _ _ _ us hl => match us, hl with | [_, _], _ => rfl⟩
theorem x_l_right (X : K.In h) (G : h.Ns mainGlobals mg) (c : SaysK w K) : ∃ f fd, Df K mg "_law_right" s_l_right ["_law_first", "_law_less", "_law_other", "_law_again"] f fd := by
  obtain ⟨fd, F0⟩ := c.t.d.def_ 61 (d := d_l_right) rfl
  have F : FunD K "_law_right" "_law_right" (defArgs s_l_right) (defBody s_l_right) (defScope s_l_right) [] [] (He.ga K "_law_right") fd := F0
  exact ⟨_, fd, F, He.glo_ok X G (c.t.d.fact 90 (f := .glo "_law_right") rfl), F.bindsN fun _ _ _ _ _ _ us hl => match us, hl with | [_, _, _, _], _ => rfl⟩
theorem x_law (X : K.In h) (G : h.Ns mainGlobals mg) (c : SaysK w K) : ∃ f fd, Df K mg "law" s_law ["_law_script"] f fd := by
  obtain ⟨fd, F0⟩ := c.t.d.def_ 62 (d := d_law) rfl
  have F : FunD K "law" "law" (defArgs s_law) (defBody s_law) (defScope s_law) [] [] (He.ga K "law") fd := F0
  exact ⟨_, fd, F, He.glo_ok X G (c.t.d.fact 91 (f := .glo "law") rfl), F.bindsN fun _ _ _ _ _ _ us hl => match us, hl with | [_], _ => rfl⟩
theorem x_ex (c : SaysK w K) : He.tupB K "PLAIN" [.str "num", .str "truth"] = true ∧ He.tupB K "OF_TWO" [.str "pair", .str "either"] = true ∧ He.tupB K "NUM" [.str "num"] = true ∧ He.valsB K (He.ga K "FORMS") formsL = true ∧ He.valsB K (He.ga K "RULES") rulesL = true ∧ excB K (He.ga K "TooMany") = true ∧
    PySem.W.kitOne K (.ref (He.ga K "TooMany")) (.ref (He.ga K "TooMany")) = some true ∧ PySem.W.kitOne K (.ref (He.ga K "TooMany")) (.type "ValueError") = some true ∧ PySem.W.kitAny K (.ref (He.ga K "TooMany")) [.ref (He.ga K "Broken"), .ref (He.ga K "NoBack"), .ref (He.ga K "NoKind"), .ref (He.ga K "NoName"), .ref (He.ga K "Ring"), .ref (He.ga K "Taken"), .ref (He.ga K "Used")] = some false := by
  obtain ⟨h1, e⟩ := He.ba c.more
  obtain ⟨h2, e⟩ := He.ba e
  obtain ⟨h3, e⟩ := He.ba e
  obtain ⟨h4, e⟩ := He.ba e
  obtain ⟨h5, e⟩ := He.ba e
  obtain ⟨h6, e⟩ := He.ba e
  obtain ⟨h7, e⟩ := He.ba e
  obtain ⟨h8, h9⟩ := He.ba e
  exact ⟨h1, h2, h3, h4, h5, h6, of_decide_eq_true h7, of_decide_eq_true h8, of_decide_eq_true h9⟩
theorem excB_ok {D : Addr} (e : excB K D = true) : ExcC K D := by
  obtain ⟨h1, e⟩ := He.ba e
  obtain ⟨h2, e⟩ := He.ba e
  obtain ⟨h3, e⟩ := He.ba e
  obtain ⟨h4, e⟩ := He.ba e
  obtain ⟨h5, e⟩ := He.ba e
  obtain ⟨h6, e⟩ := He.ba e
  obtain ⟨h7, h8⟩ := He.ba e
  exact ⟨He.eqO_ok h1, He.eqO_ok h2, of_decide_eq_true h3, h4, He.eqO_ok h5, He.eqO_ok h6, of_decide_eq_true h7, of_decide_eq_true h8⟩
theorem x_forms (c : SaysK w K) {q : Str × He.Dv} (hq : q ∈ formsL) : KDct K w (He.ga K "FORMS") q.1 (q.2.v K) := by
  obtain ⟨es, n, D⟩ := c.t.tab 0 (t := ((fun K => He.ga K "FORMS"), tabKeys)) rfl
  obtain ⟨u, h1, h2⟩ := He.valsB_ok (x_ex c).2.2.2.1 hq
  exact ⟨es, n, u, D.at_, D.lit, h1, h2⟩
theorem x_rules (c : SaysK w K) {q : Str × He.Dv} (hq : q ∈ rulesL) : KDct K w (He.ga K "RULES") q.1 (q.2.v K) := by
  obtain ⟨es, n, D⟩ := c.t.tab 1 (t := ((fun K => He.ga K "RULES"), tabKeys)) rfl
  obtain ⟨u, h1, h2⟩ := He.valsB_ok (x_ex c).2.2.2.2.1 hq
  exact ⟨es, n, u, D.at_, D.lit, h1, h2⟩
theorem ref_inj {a b : Addr} {x : Str} (e1 : mg x = some (.ref a)) (e2 : mg x = some (.ref b)) : a = b := by
  rw [e1] at e2
  cases e2
  rfl
theorem facts_txt (X : K.In h) (G : h.Ns mainGlobals mg) (c : SaysK w K) : Txt w K mg where
  b_isinstance := He.free_ok X G (c.t.d.fact 0 (f := .free "isinstance") rfl)
  b_str := He.free_ok X G (c.t.d.fact 1 (f := .free "str") rfl)
  b_tuple := He.free_ok X G (c.t.d.fact 2 (f := .free "tuple") rfl)
  b_len := He.free_ok X G (c.t.d.fact 3 (f := .free "len") rfl)
  b_all := He.free_ok X G (c.t.d.fact 4 (f := .free "all") rfl)
  b_any := He.free_ok X G (c.t.d.fact 5 (f := .free "any") rfl)
  b_sum := He.free_ok X G (c.t.d.fact 6 (f := .free "sum") rfl)
  b_max := He.free_ok X G (c.t.d.fact 7 (f := .free "max") rfl)
  b_zip := He.free_ok X G (c.t.d.fact 8 (f := .free "zip") rfl)
  b_enumerate := He.free_ok X G (c.t.d.fact 9 (f := .free "enumerate") rfl)
  b_list := He.free_ok X G (c.t.d.fact 10 (f := .free "list") rfl)
  b_dict := He.free_ok X G (c.t.d.fact 11 (f := .free "dict") rfl)
  b_set := He.free_ok X G (c.t.d.fact 12 (f := .free "set") rfl)
  b_sorted := He.free_ok X G (c.t.d.fact 13 (f := .free "sorted") rfl)
  b_int := He.free_ok X G (c.t.d.fact 14 (f := .free "int") rfl)
  b_range := He.free_ok X G (c.t.d.fact 15 (f := .free "range") rfl)
  b_reversed := He.free_ok X G (c.t.d.fact 16 (f := .free "reversed") rfl)
  b_ValueError := He.free_ok X G (c.t.d.fact 17 (f := .free "ValueError") rfl)
  i_letters := He.int_ok X G (c.t.d.fact 18 (f := .int "MOST_LETTERS" 8) rfl)
  i_parts := He.int_ok X G (c.t.d.fact 19 (f := .int "MOST_PARTS" 200) rfl)
  i_deep := He.int_ok X G (c.t.d.fact 20 (f := .int "MOST_DEEP" 30) rfl)
  z_letters := He.str_ok X G (c.t.d.fact 21 (f := .str "LETTERS_kinds" "abcdefghijklmnopqrstuvwxyz") rfl)
  t_plain := ⟨_, He.glo_ok X G (c.t.d.fact 22 (f := .glo "PLAIN") rfl), fun H => He.tupB_ok (x_ex c).1 H⟩
  t_two := ⟨_, He.glo_ok X G (c.t.d.fact 23 (f := .glo "OF_TWO") rfl), fun H => He.tupB_ok (x_ex c).2.1 H⟩
  t_num := ⟨_, He.glo_ok X G (c.t.d.fact 24 (f := .glo "NUM") rfl), fun H => He.tupB_ok (x_ex c).2.2.1 H⟩
  d_forms := ⟨_, He.glo_ok X G (c.t.d.fact 25 (f := .glo "FORMS") rfl), fun t => match t with
    | .nm => x_forms c (q := ("name", .str "x")) (List.mem_of_getElem? (i := 0) rfl)
    | .fn _ => x_forms c (q := ("fun", .str "xat")) (List.mem_of_getElem? (i := 1) rfl)
    | .call _ _ => x_forms c (q := ("call", .str "tt")) (List.mem_of_getElem? (i := 2) rfl)
    | .one => x_forms c (q := ("num", .str "k")) (List.mem_of_getElem? (i := 3) rfl)
    | .plus _ _ => x_forms c (q := ("plus", .str "tt")) (List.mem_of_getElem? (i := 4) rfl)
    | .pair _ _ => x_forms c (q := ("pair", .str "tt")) (List.mem_of_getElem? (i := 5) rfl)
    | .left _ => x_forms c (q := ("left", .str "td")) (List.mem_of_getElem? (i := 6) rfl)
    | .told => x_forms c (q := ("told", .str "xf")) (List.mem_of_getElem? (i := 7) rfl)⟩
  d_rules := ⟨_, He.glo_ok X G (c.t.d.fact 26 (f := .glo "RULES") rfl), fun f e => ref_inj (He.glo_ok X G (c.t.d.fact 58 (f := .glo "name_kind") rfl)) e ▸ x_rules c (q := ("name", .glo "name_kind")) (List.mem_of_getElem? (i := 0) rfl), fun f e => ref_inj (He.glo_ok X G (c.t.d.fact 59 (f := .glo "fun_kind") rfl)) e ▸ x_rules c (q := ("fun", .glo "fun_kind")) (List.mem_of_getElem? (i := 1) rfl), fun f e => ref_inj (He.glo_ok X G (c.t.d.fact 60 (f := .glo "call_kind") rfl)) e ▸ x_rules c (q := ("call", .glo "call_kind")) (List.mem_of_getElem? (i := 2) rfl), fun f e => ref_inj (He.glo_ok X G (c.t.d.fact 61 (f := .glo "bare_kind") rfl)) e ▸ x_rules c (q := ("num", .glo "bare_kind")) (List.mem_of_getElem? (i := 3) rfl), fun f e => ref_inj (He.glo_ok X G (c.t.d.fact 62 (f := .glo "plus_kind") rfl)) e ▸ x_rules c (q := ("plus", .glo "plus_kind")) (List.mem_of_getElem? (i := 4) rfl), fun f e => ref_inj (He.glo_ok X G (c.t.d.fact 63 (f := .glo "pair_kind") rfl)) e ▸ x_rules c (q := ("pair", .glo "pair_kind")) (List.mem_of_getElem? (i := 5) rfl), fun f e => ref_inj (He.glo_ok X G (c.t.d.fact 64 (f := .glo "left_kind") rfl)) e ▸ x_rules c (q := ("left", .glo "left_kind")) (List.mem_of_getElem? (i := 6) rfl), fun f e => ref_inj (He.glo_ok X G (c.t.d.fact 65 (f := .glo "told_kind") rfl)) e ▸ x_rules c (q := ("told", .glo "told_kind")) (List.mem_of_getElem? (i := 7) rfl)⟩
  f_is_name := x_is_name X G c
  f_is_worded := x_is_worded X G c
  f_is_data := x_is_data X G c
  f_opens_in := x_opens_in X G c
  f_term_spots := x_term_spots X G c
  f_inner_terms := x_inner_terms X G c
  f_with_inner := x_with_inner X G c
  f_parts_of_term := x_parts_of_term X G c
  f_depth_of_term := x_depth_of_term X G c
  f_put_in := x_put_in X G c
  f_filled_kind := x_filled_kind X G c
  f_opens_of := x_opens_of X G c
  f_opens_brought := x_opens_brought X G c
  f_put_in_term := x_put_in_term X G c
  f_filled_beside := x_filled_beside X G c
  f_filled_term := x_filled_term X G c
  f_ask := x_ask X G c
  f_data_in := x_data_in X G c
  f_word_in := x_word_in X G c
  f_name_kind := x_name_kind X G c
  f_fun_kind := x_fun_kind X G c
  f_call_kind := x_call_kind X G c
  f_bare_kind := x_bare_kind X G c
  f_plus_kind := x_plus_kind X G c
  f_pair_kind := x_pair_kind X G c
  f_left_kind := x_left_kind X G c
  f_told_kind := x_told_kind X G c
  f_kind_in := x_kind_in X G c
  f_kind_of := x_kind_of X G c
  f_uses_of := x_uses_of X G c
  f_whole_parts := x_whole_parts X G c
  f_whole_depth := x_whole_depth X G c
  f_scope_within := x_scope_within X G c
  f_put_together := x_put_together X G c
  f_whole_of := x_whole_of X G c
  f_told_by := x_told_by X G c
  f_give_kind := x_give_kind X G c
  f_give_whole := x_give_whole X G c
  f_reach_of := x_reach_of X G c
  f_by_uses := x_by_uses X G c
  f_kinds_anew := x_kinds_anew X G c
  f_l_deck := x_l_deck X G c
  f_l_draw := x_l_draw X G c
  f_l_sum := x_l_sum X G c
  f_l_lefts := x_l_lefts X G c
  f_l_fun := x_l_fun X G c
  f_l_measured := x_l_measured X G c
  f_l_refused := x_l_refused X G c
  f_l_due_parts := x_l_due_parts X G c
  f_l_due_deep := x_l_due_deep X G c
  f_l_put_in := x_l_put_in X G c
  f_l_right := x_l_right X G c
theorem facts_own (X : K.In h) (G : h.Ns mainGlobals mg) (c : SaysK w K) : Own w K mg (He.ga K "Scope") (He.ga K "Function") (He.ga K "Stand") where
  c_Scope := x_Scope_init X G c
  c_Function := x_Function_init X G c
  c_Stand := x_Stand_init X G c
  m_Scope_bound := x_Scope_bound X G c
  m_Stand_function := x_Stand_function X G c
  m_Stand_tell := x_Stand_tell X G c
  m_Stand_retell := x_Stand_retell X G c
  m_Stand_names := x_Stand_names X G c
  m_Stand_whole := x_Stand_whole X G c
  m_Stand_made := x_Stand_made X G c
  n_CS_looks := He.noat_ok (c.t.d.fact 105 (f := .noat "Scope" "looks") rfl)
  n_CS_knowns := He.noat_ok (c.t.d.fact 106 (f := .noat "Scope" "knowns") rfl)
  n_CS_binds := He.noat_ok (c.t.d.fact 107 (f := .noat "Scope" "binds") rfl)
  n_CF_looks := He.noat_ok (c.t.d.fact 108 (f := .noat "Function" "looks") rfl)
  n_CF_term := He.noat_ok (c.t.d.fact 109 (f := .noat "Function" "term") rfl)
  n_CF_others := He.noat_ok (c.t.d.fact 110 (f := .noat "Function" "others") rfl)
  n_CF_leads := He.noat_ok (c.t.d.fact 111 (f := .noat "Function" "leads") rfl)
  n_CF_body := He.noat_ok (c.t.d.fact 112 (f := .noat "Function" "body") rfl)
  n_CF_times := He.noat_ok (c.t.d.fact 113 (f := .noat "Function" "times") rfl)
  n_CT_states := He.noat_ok (c.t.d.fact 114 (f := .noat "Stand" "states") rfl)
theorem facts_err (X : K.In h) (G : h.Ns mainGlobals mg) (c : SaysK w K) : Err w K mg (He.ga K "TooMany") (He.ga K "KindError") (He.ga K "NoKind") where
  gM := He.glo_ok X G (c.t.d.fact 30 (f := .glo "TooMany") rfl)
  gK := He.glo_ok X G (c.t.d.fact 31 (f := .glo "KindError") rfl)
  gN := He.glo_ok X G (c.t.d.fact 34 (f := .glo "NoKind") rfl)
  ve := (He.exc_ok (c.t.d.fact 115 (f := .exc "TooMany") rfl)).1
  kp := (He.exc_ok (c.t.d.fact 115 (f := .exc "TooMany") rfl)).2.1
  sb := (He.exc_ok (c.t.d.fact 115 (f := .exc "TooMany") rfl)).2.2.1
  ty := (He.exc_ok (c.t.d.fact 115 (f := .exc "TooMany") rfl)).2.2.2
  ex := He.exm_ok (c.t.d.fact 116 (f := .exm "TooMany" "KindError" true) rfl)
  cx := excB_ok (x_ex c).2.2.2.2.2.1
  k1 := (x_ex c).2.2.2.2.2.2.1
  k2 := (x_ex c).2.2.2.2.2.2.2.1
  k3 := ⟨_, _, _, _, _, _, He.glo_ok X G (c.t.d.fact 32 (f := .glo "Broken") rfl), He.glo_ok X G (c.t.d.fact 33 (f := .glo "NoBack") rfl), He.glo_ok X G (c.t.d.fact 35 (f := .glo "NoName") rfl), He.glo_ok X G (c.t.d.fact 36 (f := .glo "Ring") rfl), He.glo_ok X G (c.t.d.fact 37 (f := .glo "Taken") rfl), He.glo_ok X G (c.t.d.fact 38 (f := .glo "Used") rfl), (x_ex c).2.2.2.2.2.2.2.2⟩
theorem facts_law {P : Program} {f : Addr} (X : K.In h) (G : h.Ns mainGlobals mg) (hfa : mg ("law" : Str) = some (.ref f)) (c : SaysK w K) :
    ∃ fd : FuncData, (∀ (s : Shared) (v : Value), BindsTo s fd ⟨[v], []⟩ [("_law_script", v)]) ∧ ∀ base : Heap, K.In base → base.Ns mainGlobals mg → FnOk P w K mg base CX0 174 f fd ["_law_script"] (spLaw K) := by
  obtain ⟨fd, F0⟩ := c.t.d.def_ 62 (d := d_law) rfl
  have F : FunD K "law" "law" (defArgs s_law) (defBody s_law) (defScope s_law) [] [] (He.ga K "law") fd := F0
  have e := hfa.symm.trans (He.glo_ok X G (c.t.d.fact 91 (f := .glo "law") rfl))
  cases e
  have b := FunD.bindsA (ps := ["_law_script"]) F fun _ _ _ _ _ _ us hl => match us, hl with | [_], _ => rfl
  exact ⟨fd, fun s v => b s [v] rfl, fun base _ _ => ok_law (facts_txt X G c) (facts_own X G c) (facts_err X G c) F⟩
end
end K70
open PySem PySem.W PySem.Calls PyProof.Rows
theorem PySem.Challenge.cw_kindalone_k70_wholes_at_their_bounds_holds : PySem.Challenge.rw_kindalone_k70_wholes_at_their_bounds.Holds := by
  w_on; o_law
  refine HandSHeadRun.head_any (r := OpenLaw.row PySem.Challenge.rw_kindalone_k70_wholes_at_their_bounds) (q := view (OpenLaw.row PySem.Challenge.rw_kindalone_k70_wholes_at_their_bounds).prog [103]) (H := K70.hk) (ob := K70.ob) (M := 7000) (loose := K70.names) (d := HandSHeadRun.topDef (OpenLaw.row PySem.Challenge.rw_kindalone_k70_wholes_at_their_bounds).prog 103) (kwd := []) K70.ob_eq
    (by kernel_rfl) (fun s => by kernel_rfl) K70.run (by kernel_rfl) (by kernel_rfl) (by kernel_rfl) (by rfl) (by first | assumption | decide +kernel) (by decide +kernel) ⟨rfl, rfl, rfl, rfl, rfl, by decide +kernel⟩ ?hw ?hc
  case hw => w_witness2
  case hc =>
    refine L2.walk_ofE (l := PySem.Challenge.rw_kindalone_k70_wholes_at_their_bounds) (n := 63) (k := 174) (x := "_law_script") (CX := L2.CX0) rfl (by decide) (by kernel_rfl) ⟨rfl, by decide, by decide⟩ ?F (fun _ _ _ _ z => z)
    intro w mg fa h Y G hmg0
    obtain ⟨K, KX, c⟩ := Y
    have hmg : mg ("law" : PySem.Str) = some (.ref fa) := by
      have e : (HandSHeadRun.topDef (OpenLaw.row PySem.Challenge.rw_kindalone_k70_wholes_at_their_bounds).prog 103).name = ("law" : PySem.Str) := by kernel_rfl
      rw [← e]
      exact hmg0
    obtain ⟨fd, hb, hF⟩ := K70.facts_law (P := (PySem.Challenge.rw_kindalone_k70_wholes_at_their_bounds).prog) (w := w) KX G hmg c
    exact ⟨K, fd, K70.spLaw K, KX, hb, fun H a ns hl _ hS => ⟨a, ns, rfl, hS, hl, fun _ => rfl⟩, hF⟩
