import PyProof.Rows.All
import Wide.All
import OpenK.AllK
import Wide.FinOn
import HandS.ForMost
import HandS.ForExc
import HandS.Wide
import HandS.Gcd
import HandS.Defaults
import HandS.HeadHook1
import HandS.HeadHook2
import HandS.ExcInit
import HandS.ExcField
import HandS.Head3
import HandS.HeadEnd
import HandS.Zip
import HandS.Deep
import HandS.DictComp
import HandS.TryMany
import HandS.IsInst
import KE.DataFind
import HandS.WordsDict
import HandS.Small
import HandS.ExcOwn
import HandS.MakeKwOnly
import PySem.Challenge.RW_consol_k30_whole_ring_has_one_solution
section
set_option Elab.async false
set_option linter.all false
set_option maxRecDepth 100000
namespace K3
open PySem PySem.Spec PyProof.Rows L2
/-! the text by places -/
def topS (i : Nat) : Stmt := PySem.Challenge.pw_consol_k30_whole_ring_has_one_solution.main.body.getD i (.Pass ⟨0, 0, 0, 0⟩)
abbrev s_TooLarge_init : Stmt := inClass (topS 3) 0
abbrev n_TooLarge_init : List Str := ["self", "limit"]
abbrev p_TooLarge_init : List Str := ["self", "limit"]
abbrev s_InvalidSystem_init : Stmt := inClass (topS 4) 0
abbrev n_InvalidSystem_init : List Str := ["self", "reason"]
abbrev p_InvalidSystem_init : List Str := ["self", "reason"]
abbrev s_UnknownLet_init : Stmt := inClass (topS 5) 0
abbrev n_UnknownLet_init : List Str := ["self", "name"]
abbrev p_UnknownLet_init : List Str := ["self", "name"]
abbrev s_UnknownBond_init : Stmt := inClass (topS 6) 0
abbrev n_UnknownBond_init : List Str := ["self", "name"]
abbrev p_UnknownBond_init : List Str := ["self", "name"]
abbrev s_NotStraight_init : Stmt := inClass (topS 7) 0
abbrev n_NotStraight_init : List Str := ["self", "name"]
abbrev p_NotStraight_init : List Str := ["self", "name"]
abbrev s_MissingFact_init : Stmt := inClass (topS 8) 0
abbrev n_MissingFact_init : List Str := ["self", "name", "day"]
abbrev p_MissingFact_init : List Str := ["self", "name", "day"]
abbrev s_MissingRate_init : Stmt := inClass (topS 9) 0
abbrev n_MissingRate_init : List Str := ["self", "name", "day"]
abbrev p_MissingRate_init : List Str := ["self", "name", "day"]
abbrev s_NoSingleRate_init : Stmt := inClass (topS 10) 0
abbrev n_NoSingleRate_init : List Str := ["self", "ring", "weights"]
abbrev p_NoSingleRate_init : List Str := ["self", "ring", "weights"]
abbrev s_fraction : Stmt := topS 15
abbrev n_fraction : List Str := ["p", "q", "common"]
abbrev p_fraction : List Str := ["p", "q"]
abbrev s_plus : Stmt := topS 16
abbrev n_plus : List Str := ["a", "b"]
abbrev p_plus : List Str := ["a", "b"]
abbrev s_opposite : Stmt := topS 17
abbrev n_opposite : List Str := ["a"]
abbrev p_opposite : List Str := ["a"]
abbrev s_minus : Stmt := topS 18
abbrev n_minus : List Str := ["a", "b"]
abbrev p_minus : List Str := ["a", "b"]
abbrev s_times : Stmt := topS 19
abbrev n_times : List Str := ["a", "b"]
abbrev p_times : List Str := ["a", "b"]
abbrev s_over : Stmt := topS 20
abbrev n_over : List Str := ["a", "b"]
abbrev p_over : List Str := ["a", "b"]
abbrev s_order : Stmt := topS 21
abbrev n_order : List Str := ["a", "b", "left", "right"]
abbrev p_order : List Str := ["a", "b"]
abbrev s_sign : Stmt := topS 22
abbrev n_sign : List Str := ["a"]
abbrev p_sign : List Str := ["a"]
abbrev s_smaller : Stmt := topS 23
abbrev n_smaller : List Str := ["a", "b"]
abbrev p_smaller : List Str := ["a", "b"]
abbrev s_greater : Stmt := topS 24
abbrev n_greater : List Str := ["a", "b"]
abbrev p_greater : List Str := ["a", "b"]
abbrev s_History_init : Stmt := inClass (topS 28) 0
abbrev n_History_init : List Str := ["self", "lets", "facts", "rates"]
abbrev p_History_init : List Str := ["self", "lets", "facts", "rates"]
abbrev s_History_fact : Stmt := inClass (topS 28) 1
abbrev n_History_fact : List Str := ["self", "name", "day"]
abbrev p_History_fact : List Str := ["self", "name", "day"]
abbrev s_History_rate : Stmt := inClass (topS 28) 2
abbrev n_History_rate : List Str := ["self", "name", "day"]
abbrev p_History_rate : List Str := ["self", "name", "day"]
abbrev s_History_timed : Stmt := inClass (topS 28) 3
abbrev n_History_timed : List Str := ["self", "expression", "day", "word", "days", "part", "past"]
abbrev p_History_timed : List Str := ["self", "expression", "day"]
abbrev s_let_of : Stmt := topS 29
abbrev n_let_of : List Str := ["lets", "name"]
abbrev p_let_of : List Str := ["lets", "name"]
abbrev s_combined : Stmt := topS 30
abbrev n_combined : List Str := ["word", "first", "second"]
abbrev p_combined : List Str := ["word", "first", "second"]
abbrev s_let_value : Stmt := topS 32
abbrev n_let_value : List Str := ["name", "world", "day"]
abbrev p_let_value : List Str := ["name", "world", "day"]
abbrev s_evaluated : Stmt := topS 33
abbrev n_evaluated : List Str := ["expression", "world", "day", "word", "first", "second"]
abbrev p_evaluated : List Str := ["expression", "world", "day"]
abbrev s_value : Stmt := topS 34
abbrev n_value : List Str := ["expression", "lets", "day", "facts", "rates"]
abbrev p_value : List Str := ["expression", "lets", "day", "facts", "rates"]
abbrev s_width_of : Stmt := topS 37
abbrev n_width_of : List Str := ["rows"]
abbrev p_width_of : List Str := ["rows"]
abbrev s_check_rows : Stmt := topS 38
abbrev n_check_rows : List Str := ["rows", "columns", "row"]
abbrev p_check_rows : List Str := ["rows", "columns"]
abbrev s_check_system : Stmt := topS 39
abbrev n_check_system : List Str := ["rows", "sides"]
abbrev p_check_system : List Str := ["rows", "sides"]
abbrev s_with_row_removed : Stmt := topS 40
abbrev n_with_row_removed : List Str := ["row", "pivot_row", "column", "factor", "a", "b"]
abbrev p_with_row_removed : List Str := ["row", "pivot_row", "column"]
abbrev s_swept : Stmt := topS 41
abbrev n_swept : List Str := ["table", "columns", "rest", "done", "pivots", "column", "found", "chosen", "row", "value"]
abbrev p_swept : List Str := ["table", "columns"]
abbrev s_kernel_of : Stmt := topS 42
abbrev n_kernel_of : List Str := ["done", "pivots", "columns", "free", "values", "row", "pivot", "column"]
abbrev p_kernel_of : List Str := ["done", "pivots", "columns"]
abbrev s_kernel : Stmt := topS 43
abbrev n_kernel : List Str := ["rows", "columns", "done", "rest", "pivots"]
abbrev p_kernel : List Str := ["rows", "columns"]
abbrev s_solve : Stmt := topS 44
abbrev n_solve : List Str := ["rows", "sides", "columns", "table", "index", "row", "factors", "done", "rest", "pivots", "values", "pivot", "found", "other", "column"]
abbrev p_solve : List Str := ["rows", "sides"]
abbrev s_scaled : Stmt := topS 47
abbrev n_scaled : List Str := ["form", "factor", "factors", "rest", "name"]
abbrev p_scaled : List Str := ["form", "factor"]
abbrev s_added : Stmt := topS 48
abbrev n_added : List Str := ["first", "second", "factors", "name", "result"]
abbrev p_added : List Str := ["first", "second"]
abbrev s_multiplied : Stmt := topS 49
abbrev n_multiplied : List Str := ["first", "second"]
abbrev p_multiplied : List Str := ["first", "second"]
abbrev s_chosen : Stmt := topS 50
abbrev n_chosen : List Str := ["word", "first", "second"]
abbrev p_chosen : List Str := ["word", "first", "second"]
abbrev s_combined2 : Stmt := topS 51
abbrev n_combined2 : List Str := ["word", "first", "second"]
abbrev p_combined2 : List Str := ["word", "first", "second"]
abbrev s_Reader_init : Stmt := inClass (topS 53) 0
abbrev n_Reader_init : List Str := ["self", "lets", "day", "facts", "rates", "ring", "name"]
abbrev p_Reader_init : List Str := ["self", "lets", "day", "facts", "rates", "ring"]
abbrev s_Reader_let_of : Stmt := inClass (topS 53) 1
abbrev n_Reader_let_of : List Str := ["self", "name", "let_name", "expression"]
abbrev p_Reader_let_of : List Str := ["self", "name"]
abbrev s_Reader_truth : Stmt := inClass (topS 53) 2
abbrev n_Reader_truth : List Str := ["self", "expression", "e"]
abbrev p_Reader_truth : List Str := ["self", "expression"]
abbrev s_Reader_form : Stmt := inClass (topS 53) 3
abbrev n_Reader_form : List Str := ["self", "expression", "word", "truth", "first", "second"]
abbrev p_Reader_form : List Str := ["self", "expression"]
abbrev s_form_of : Stmt := topS 54
abbrev n_form_of : List Str := ["expression", "lets", "day", "facts", "rates", "ring"]
abbrev p_form_of : List Str := ["expression", "lets", "day", "facts", "rates", "ring"]
abbrev s_bond_named : Stmt := topS 55
abbrev n_bond_named : List Str := ["bonds", "name", "bond"]
abbrev p_bond_named : List Str := ["bonds", "name"]
abbrev s_earlier : Stmt := topS 56
abbrev n_earlier : List Str := ["bonds", "day", "rates", "known", "bond", "row", "name"]
abbrev p_earlier : List Str := ["bonds", "day", "rates"]
abbrev s_ring_system : Stmt := topS 57
abbrev n_ring_system : List Str := ["bonds", "ring", "day", "facts", "rates", "rows", "rests", "known", "name", "bond", "form", "other"]
abbrev p_ring_system : List Str := ["bonds", "ring", "day", "facts", "rates"]
abbrev s_ring_rates : Stmt := topS 58
abbrev n_ring_rates : List Str := ["bonds", "ring", "day", "facts", "rates", "rows", "rests", "table", "index", "row", "answer", "other", "factor"]
abbrev p_ring_rates : List Str := ["bonds", "ring", "day", "facts", "rates"]
abbrev s_Bond_init : Stmt := inClass (topS 60) 0
abbrev n_Bond_init : List Str := ["self", "name", "issuer", "units", "face", "first_day", "last_day", "months", "count", "adjust", "record", "rank", "lets", "coupon", "promises", "cross", "calls"]
abbrev p_Bond_init : List Str := ["self", "name", "issuer", "units", "face", "first_day", "last_day", "months", "count", "adjust", "record", "rank", "lets", "coupon", "promises", "cross", "calls"]
abbrev s_L_deck : Stmt := topS 62
abbrev n_L_deck : List Str := ["_law_script"]
abbrev p_L_deck : List Str := ["_law_script"]
abbrev s_L_draw : Stmt := topS 63
abbrev n_L_draw : List Str := ["_law_deck_here", "_law_most", "_law_value_here", "_law_cell"]
abbrev p_L_draw : List Str := ["_law_deck_here", "_law_most"]
abbrev s_L_same : Stmt := topS 64
abbrev n_L_same : List Str := ["_law_actual", "_law_due", "_law_k"]
abbrev p_L_same : List Str := ["_law_actual", "_law_due"]
abbrev s_L_same_list : Stmt := topS 65
abbrev n_L_same_list : List Str := ["_law_actual", "_law_due", "_law_k"]
abbrev p_L_same_list : List Str := ["_law_actual", "_law_due"]
abbrev s_L_gcd : Stmt := topS 66
abbrev n_L_gcd : List Str := ["_law_a", "_law_b", "_law_k", "_law_rest"]
abbrev p_L_gcd : List Str := ["_law_a", "_law_b"]
abbrev s_L_ratio : Stmt := topS 67
abbrev n_L_ratio : List Str := ["_law_p", "_law_q", "_law_divisor"]
abbrev p_L_ratio : List Str := ["_law_p", "_law_q"]
abbrev s_L_add : Stmt := topS 68
abbrev n_L_add : List Str := ["_law_a", "_law_b"]
abbrev p_L_add : List Str := ["_law_a", "_law_b"]
abbrev s_L_times : Stmt := topS 69
abbrev n_L_times : List Str := ["_law_a", "_law_b"]
abbrev p_L_times : List Str := ["_law_a", "_law_b"]
abbrev s_L_minus : Stmt := topS 70
abbrev n_L_minus : List Str := ["_law_a", "_law_b"]
abbrev p_L_minus : List Str := ["_law_a", "_law_b"]
abbrev s_L_order : Stmt := topS 71
abbrev n_L_order : List Str := ["_law_a", "_law_b", "_law_difference"]
abbrev p_L_order : List Str := ["_law_a", "_law_b"]
abbrev s_L_total : Stmt := topS 72
abbrev n_L_total : List Str := ["_law_values", "_law_result", "_law_value_here"]
abbrev p_L_total : List Str := ["_law_values"]
abbrev s_L_dot : Stmt := topS 73
abbrev n_L_dot : List Str := ["_law_first", "_law_second", "_law_k"]
abbrev p_L_dot : List Str := ["_law_first", "_law_second"]
abbrev s_L_eliminated : Stmt := topS 74
abbrev n_L_eliminated : List Str := ["_law_rows", "_law_columns", "_law_table", "_law_pivots", "_law_column", "_law_found", "_law_at", "_law_row", "_law_scale", "_law_k", "_law_factor", "_law_old", "_law_value_here", "_law_j"]
abbrev p_L_eliminated : List Str := ["_law_rows", "_law_columns"]
abbrev s_L_bond : Stmt := topS 75
abbrev n_L_bond : List Str := ["_law_name", "_law_lets", "_law_coupon"]
abbrev p_L_bond : List Str := ["_law_name", "_law_lets", "_law_coupon"]
abbrev s_L_truth : Stmt := topS 76
abbrev n_L_truth : List Str := ["_law_deck_here", "_law_names", "_law_depth", "_law_kind", "_law_word", "_law_left"]
abbrev p_L_truth : List Str := ["_law_deck_here", "_law_names", "_law_depth"]
abbrev s_L_plain : Stmt := topS 77
abbrev n_L_plain : List Str := ["_law_deck_here", "_law_names", "_law_depth", "_law_kind", "_law_left", "_law_word"]
abbrev p_L_plain : List Str := ["_law_deck_here", "_law_names", "_law_depth"]
abbrev s_L_value : Stmt := topS 78
abbrev n_L_value : List Str := ["_law_expression", "_law_lets", "_law_day", "_law_facts", "_law_rates", "_law_word", "_law_rows", "_law_values", "_law_days", "_law_k", "_law_found", "_law_first", "_law_second", "_law_row"]
abbrev p_L_value : List Str := ["_law_expression", "_law_lets", "_law_day", "_law_facts", "_law_rates"]
abbrev s_L_joined : Stmt := topS 79
abbrev n_L_joined : List Str := ["_law_word", "_law_first", "_law_second", "_law_difference"]
abbrev p_L_joined : List Str := ["_law_word", "_law_first", "_law_second"]
abbrev s_L_form : Stmt := topS 80
abbrev n_L_form : List Str := ["_law_expression", "_law_lets", "_law_day", "_law_facts", "_law_rates", "_law_ring", "_law_word", "_law_inner", "_law_truth_here", "_law_first", "_law_second", "_law_factors", "_law_name", "_law_left", "_law_result", "_law_scale", "_law_form_here", "_law_row"]
abbrev p_L_form : List Str := ["_law_expression", "_law_lets", "_law_day", "_law_facts", "_law_rates", "_law_ring"]
abbrev s_L_world : Stmt := topS 81
abbrev n_L_world : List Str := ["_law_deck_here", "_law_names", "_law_day", "_law_facts", "_law_name", "_law_rates", "_law_k"]
abbrev p_L_world : List Str := ["_law_deck_here", "_law_names", "_law_day"]
abbrev s_L_bonds : Stmt := topS 82
abbrev n_L_bonds : List Str := ["_law_deck_here", "_law_many", "_law_names", "_law_bonds_here", "_law_k", "_law_lets", "_law_linked", "_law_coupon", "_law_name"]
abbrev p_L_bonds : List Str := ["_law_deck_here", "_law_many"]
abbrev s_L_ring_answer : Stmt := topS 83
abbrev n_L_ring_answer : List Str := ["_law_bonds_here", "_law_ring", "_law_day", "_law_facts", "_law_rates", "_law_known", "_law_name", "_law_rows", "_law_rests", "_law_bond_here", "_law_form_here", "_law_table", "_law_k", "_law_reduced", "_law_row", "_law_other", "_law_j"]
abbrev p_L_ring_answer : List Str := ["_law_bonds_here", "_law_ring", "_law_day", "_law_facts", "_law_rates"]
abbrev s_L_linear : Stmt := topS 84
abbrev n_L_linear : List Str := ["_law_deck_here", "_law_names", "_law_single", "_law_left", "_law_result", "_law_k", "_law_share"]
abbrev p_L_linear : List Str := ["_law_deck_here", "_law_names", "_law_single"]
abbrev s_L_told : Stmt := topS 85
abbrev n_L_told : List Str := ["_law_bonds_here", "_law_ring", "_law_day", "_law_world_here", "e"]
abbrev p_L_told : List Str := ["_law_bonds_here", "_law_ring", "_law_day", "_law_world_here"]
abbrev s_law : Stmt := topS 86
abbrev n_law : List Str := ["_law_script", "_law_deck_here", "_law_day", "_law_ring", "_law_bonds_here", "_law_kind", "_law_world_here", "_law_due", "_law_told_here", "_law_full", "_law_k", "_law_name", "_law_value_here", "_law_row"]
abbrev p_law : List Str := ["_law_script"]
end K3
end
section
set_option Elab.async false
set_option linter.all false
set_option maxRecDepth 100000
namespace K3
open PySem PySem.Spec PyProof.Rows L2
/-! what the head tells: defs, names, classes, tables -/
def d_NotStraight_init : He.DefD := ⟨("NotStraight", some "__init__"), "__init__", "NotStraight.__init__", defArgs s_NotStraight_init, defBody s_NotStraight_init, defScope s_NotStraight_init, [], []⟩
def d_MissingRate_init : He.DefD := ⟨("MissingRate", some "__init__"), "__init__", "MissingRate.__init__", defArgs s_MissingRate_init, defBody s_MissingRate_init, defScope s_MissingRate_init, [], []⟩
def d_NoSingleRate_init : He.DefD := ⟨("NoSingleRate", some "__init__"), "__init__", "NoSingleRate.__init__", defArgs s_NoSingleRate_init, defBody s_NoSingleRate_init, defScope s_NoSingleRate_init, [], []⟩
def d_fraction : He.DefD := ⟨("fraction", none), "fraction", "fraction", defArgs s_fraction, defBody s_fraction, defScope s_fraction, [.int 1], []⟩
def d_plus : He.DefD := ⟨("plus", none), "plus", "plus", defArgs s_plus, defBody s_plus, defScope s_plus, [], []⟩
def d_opposite : He.DefD := ⟨("opposite", none), "opposite", "opposite", defArgs s_opposite, defBody s_opposite, defScope s_opposite, [], []⟩
def d_minus : He.DefD := ⟨("minus", none), "minus", "minus", defArgs s_minus, defBody s_minus, defScope s_minus, [], []⟩
def d_times : He.DefD := ⟨("times", none), "times", "times", defArgs s_times, defBody s_times, defScope s_times, [], []⟩
def d_over : He.DefD := ⟨("over", none), "over", "over", defArgs s_over, defBody s_over, defScope s_over, [], []⟩
def d_order : He.DefD := ⟨("order", none), "order", "order", defArgs s_order, defBody s_order, defScope s_order, [], []⟩
def d_sign : He.DefD := ⟨("sign", none), "sign", "sign", defArgs s_sign, defBody s_sign, defScope s_sign, [], []⟩
def d_smaller : He.DefD := ⟨("smaller", none), "smaller", "smaller", defArgs s_smaller, defBody s_smaller, defScope s_smaller, [], []⟩
def d_greater : He.DefD := ⟨("greater", none), "greater", "greater", defArgs s_greater, defBody s_greater, defScope s_greater, [], []⟩
def d_History_init : He.DefD := ⟨("History", some "__init__"), "__init__", "History.__init__", defArgs s_History_init, defBody s_History_init, defScope s_History_init, [], []⟩
def d_History_fact : He.DefD := ⟨("History", some "fact"), "fact", "History.fact", defArgs s_History_fact, defBody s_History_fact, defScope s_History_fact, [], []⟩
def d_History_rate : He.DefD := ⟨("History", some "rate"), "rate", "History.rate", defArgs s_History_rate, defBody s_History_rate, defScope s_History_rate, [], []⟩
def d_History_timed : He.DefD := ⟨("History", some "timed"), "timed", "History.timed", defArgs s_History_timed, defBody s_History_timed, defScope s_History_timed, [], []⟩
def d_combined : He.DefD := ⟨("combined_evaluate", none), "combined", "combined", defArgs s_combined, defBody s_combined, defScope s_combined, [], []⟩
def d_evaluated : He.DefD := ⟨("evaluated", none), "evaluated", "evaluated", defArgs s_evaluated, defBody s_evaluated, defScope s_evaluated, [], []⟩
def d_value : He.DefD := ⟨("value", none), "value", "value", defArgs s_value, defBody s_value, defScope s_value, [], []⟩
def d_width_of : He.DefD := ⟨("width_of", none), "width_of", "width_of", defArgs s_width_of, defBody s_width_of, defScope s_width_of, [], []⟩
def d_check_rows : He.DefD := ⟨("check_rows", none), "check_rows", "check_rows", defArgs s_check_rows, defBody s_check_rows, defScope s_check_rows, [], []⟩
def d_check_system : He.DefD := ⟨("check_system", none), "check_system", "check_system", defArgs s_check_system, defBody s_check_system, defScope s_check_system, [], []⟩
def d_with_row_removed : He.DefD := ⟨("with_row_removed", none), "with_row_removed", "with_row_removed", defArgs s_with_row_removed, defBody s_with_row_removed, defScope s_with_row_removed, [], []⟩
def d_swept : He.DefD := ⟨("swept", none), "swept", "swept", defArgs s_swept, defBody s_swept, defScope s_swept, [], []⟩
def d_kernel_of : He.DefD := ⟨("kernel_of", none), "kernel_of", "kernel_of", defArgs s_kernel_of, defBody s_kernel_of, defScope s_kernel_of, [], []⟩
def d_kernel : He.DefD := ⟨("kernel", none), "kernel", "kernel", defArgs s_kernel, defBody s_kernel, defScope s_kernel, [], []⟩
def d_solve : He.DefD := ⟨("solve", none), "solve", "solve", defArgs s_solve, defBody s_solve, defScope s_solve, [], []⟩
def d_scaled : He.DefD := ⟨("scaled", none), "scaled", "scaled", defArgs s_scaled, defBody s_scaled, defScope s_scaled, [], []⟩
def d_added : He.DefD := ⟨("added", none), "added", "added", defArgs s_added, defBody s_added, defScope s_added, [], []⟩
def d_multiplied : He.DefD := ⟨("multiplied", none), "multiplied", "multiplied", defArgs s_multiplied, defBody s_multiplied, defScope s_multiplied, [], []⟩
def d_chosen : He.DefD := ⟨("chosen", none), "chosen", "chosen", defArgs s_chosen, defBody s_chosen, defScope s_chosen, [], []⟩
def d_combined2 : He.DefD := ⟨("combined_rings", none), "combined", "combined", defArgs s_combined2, defBody s_combined2, defScope s_combined2, [], []⟩
def d_Reader_init : He.DefD := ⟨("Reader", some "__init__"), "__init__", "Reader.__init__", defArgs s_Reader_init, defBody s_Reader_init, defScope s_Reader_init, [], []⟩
def d_Reader_let_of : He.DefD := ⟨("Reader", some "let_of"), "let_of", "Reader.let_of", defArgs s_Reader_let_of, defBody s_Reader_let_of, defScope s_Reader_let_of, [], []⟩
def d_Reader_truth : He.DefD := ⟨("Reader", some "truth"), "truth", "Reader.truth", defArgs s_Reader_truth, defBody s_Reader_truth, defScope s_Reader_truth, [], []⟩
def d_Reader_form : He.DefD := ⟨("Reader", some "form"), "form", "Reader.form", defArgs s_Reader_form, defBody s_Reader_form, defScope s_Reader_form, [], []⟩
def d_form_of : He.DefD := ⟨("form_of", none), "form_of", "form_of", defArgs s_form_of, defBody s_form_of, defScope s_form_of, [], []⟩
def d_bond_named : He.DefD := ⟨("bond_named", none), "bond_named", "bond_named", defArgs s_bond_named, defBody s_bond_named, defScope s_bond_named, [], []⟩
def d_earlier : He.DefD := ⟨("earlier", none), "earlier", "earlier", defArgs s_earlier, defBody s_earlier, defScope s_earlier, [], []⟩
def d_ring_system : He.DefD := ⟨("ring_system", none), "ring_system", "ring_system", defArgs s_ring_system, defBody s_ring_system, defScope s_ring_system, [], []⟩
def d_ring_rates : He.DefD := ⟨("ring_rates", none), "ring_rates", "ring_rates", defArgs s_ring_rates, defBody s_ring_rates, defScope s_ring_rates, [], []⟩
def d_Bond_init : He.DefD := ⟨("Bond", some "__init__"), "__init__", "Bond.__init__", defArgs s_Bond_init, defBody s_Bond_init, defScope s_Bond_init, [], []⟩
def d_L_deck : He.DefD := ⟨("_law_deck", none), "_law_deck", "_law_deck", defArgs s_L_deck, defBody s_L_deck, defScope s_L_deck, [], []⟩
def d_L_draw : He.DefD := ⟨("_law_draw", none), "_law_draw", "_law_draw", defArgs s_L_draw, defBody s_L_draw, defScope s_L_draw, [], []⟩
def d_L_same : He.DefD := ⟨("_law_same", none), "_law_same", "_law_same", defArgs s_L_same, defBody s_L_same, defScope s_L_same, [], []⟩
def d_L_same_list : He.DefD := ⟨("_law_same_list", none), "_law_same_list", "_law_same_list", defArgs s_L_same_list, defBody s_L_same_list, defScope s_L_same_list, [], []⟩
def d_L_gcd : He.DefD := ⟨("_law_gcd", none), "_law_gcd", "_law_gcd", defArgs s_L_gcd, defBody s_L_gcd, defScope s_L_gcd, [], []⟩
def d_L_ratio : He.DefD := ⟨("_law_ratio", none), "_law_ratio", "_law_ratio", defArgs s_L_ratio, defBody s_L_ratio, defScope s_L_ratio, [], []⟩
def d_L_add : He.DefD := ⟨("_law_add", none), "_law_add", "_law_add", defArgs s_L_add, defBody s_L_add, defScope s_L_add, [], []⟩
def d_L_times : He.DefD := ⟨("_law_times", none), "_law_times", "_law_times", defArgs s_L_times, defBody s_L_times, defScope s_L_times, [], []⟩
def d_L_minus : He.DefD := ⟨("_law_minus", none), "_law_minus", "_law_minus", defArgs s_L_minus, defBody s_L_minus, defScope s_L_minus, [], []⟩
def d_L_order : He.DefD := ⟨("_law_order", none), "_law_order", "_law_order", defArgs s_L_order, defBody s_L_order, defScope s_L_order, [], []⟩
def d_L_total : He.DefD := ⟨("_law_total", none), "_law_total", "_law_total", defArgs s_L_total, defBody s_L_total, defScope s_L_total, [], []⟩
def d_L_dot : He.DefD := ⟨("_law_dot", none), "_law_dot", "_law_dot", defArgs s_L_dot, defBody s_L_dot, defScope s_L_dot, [], []⟩
def d_L_eliminated : He.DefD := ⟨("_law_eliminated", none), "_law_eliminated", "_law_eliminated", defArgs s_L_eliminated, defBody s_L_eliminated, defScope s_L_eliminated, [], []⟩
def d_L_bond : He.DefD := ⟨("_law_bond", none), "_law_bond", "_law_bond", defArgs s_L_bond, defBody s_L_bond, defScope s_L_bond, [], []⟩
def d_L_truth : He.DefD := ⟨("_law_truth", none), "_law_truth", "_law_truth", defArgs s_L_truth, defBody s_L_truth, defScope s_L_truth, [], []⟩
def d_L_plain : He.DefD := ⟨("_law_plain", none), "_law_plain", "_law_plain", defArgs s_L_plain, defBody s_L_plain, defScope s_L_plain, [], []⟩
def d_L_value : He.DefD := ⟨("_law_value", none), "_law_value", "_law_value", defArgs s_L_value, defBody s_L_value, defScope s_L_value, [], []⟩
def d_L_joined : He.DefD := ⟨("_law_joined", none), "_law_joined", "_law_joined", defArgs s_L_joined, defBody s_L_joined, defScope s_L_joined, [], []⟩
def d_L_form : He.DefD := ⟨("_law_form", none), "_law_form", "_law_form", defArgs s_L_form, defBody s_L_form, defScope s_L_form, [], []⟩
def d_L_world : He.DefD := ⟨("_law_world", none), "_law_world", "_law_world", defArgs s_L_world, defBody s_L_world, defScope s_L_world, [], []⟩
def d_L_bonds : He.DefD := ⟨("_law_bonds", none), "_law_bonds", "_law_bonds", defArgs s_L_bonds, defBody s_L_bonds, defScope s_L_bonds, [], []⟩
def d_L_ring_answer : He.DefD := ⟨("_law_ring_answer", none), "_law_ring_answer", "_law_ring_answer", defArgs s_L_ring_answer, defBody s_L_ring_answer, defScope s_L_ring_answer, [], []⟩
def d_L_linear : He.DefD := ⟨("_law_linear", none), "_law_linear", "_law_linear", defArgs s_L_linear, defBody s_L_linear, defScope s_L_linear, [], []⟩
def d_L_told : He.DefD := ⟨("_law_told", none), "_law_told", "_law_told", defArgs s_L_told, defBody s_L_told, defScope s_L_told, [], []⟩
def d_law : He.DefD := ⟨("law", none), "law", "law", defArgs s_law, defBody s_law, defScope s_law, [], []⟩
def fnL : List He.DefD := [d_NotStraight_init, d_MissingRate_init, d_NoSingleRate_init, d_fraction, d_plus, d_opposite, d_minus, d_times, d_over, d_order, d_sign, d_smaller, d_greater, d_History_init, d_History_fact, d_History_rate, d_History_timed, d_combined, d_evaluated, d_value, d_width_of, d_check_rows, d_check_system, d_with_row_removed, d_swept, d_kernel_of, d_kernel, d_solve, d_scaled, d_added, d_multiplied, d_chosen, d_combined2, d_Reader_init, d_Reader_let_of, d_Reader_truth, d_Reader_form, d_form_of, d_bond_named, d_earlier, d_ring_system, d_ring_rates, d_Bond_init, d_L_deck, d_L_draw, d_L_same, d_L_same_list, d_L_gcd, d_L_ratio, d_L_add, d_L_times, d_L_minus, d_L_order, d_L_total, d_L_dot, d_L_eliminated, d_L_bond, d_L_truth, d_L_plain, d_L_value, d_L_joined, d_L_form, d_L_world, d_L_bonds, d_L_ring_answer, d_L_linear, d_L_told, d_law]
def faL0 : List He.Fa := [.glo "fraction", .glo "plus", .glo "opposite", .glo "minus", .glo "times", .glo "over", .glo "order", .glo "sign", .glo "smaller", .glo "greater", .glo "combined_evaluate", .glo "evaluated", .glo "value", .glo "width_of", .glo "check_rows", .glo "check_system", .glo "with_row_removed", .glo "swept", .glo "kernel_of", .glo "kernel", .glo "solve", .glo "scaled", .glo "added", .glo "multiplied", .glo "chosen", .glo "combined_rings", .glo "form_of", .glo "bond_named", .glo "earlier", .glo "ring_system"]
def faL1 : List He.Fa := [.glo "ring_rates", .glo "_law_deck", .glo "_law_draw", .glo "_law_same", .glo "_law_same_list", .glo "_law_gcd", .glo "_law_ratio", .glo "_law_add", .glo "_law_times", .glo "_law_minus", .glo "_law_order", .glo "_law_total", .glo "_law_dot", .glo "_law_eliminated", .glo "_law_bond", .glo "_law_truth", .glo "_law_plain", .glo "_law_value", .glo "_law_joined", .glo "_law_form", .glo "_law_world", .glo "_law_bonds", .glo "_law_ring_answer", .glo "_law_linear", .glo "_law_told", .glo "law", .glo "History", .glo "Reader", .glo "Bond", .glo "MissingRate"]
def faL2 : List He.Fa := [.glo "NotStraight", .glo "NoSingleRate", .glo "NONE", .glo "UNIT", .glo "HUNDREDTH", .glo "TIMED", .int "MOST" 60, .free "len", .free "int", .free "abs", .free "max", .free "min", .free "range", .free "zip", .free "enumerate", .free "list", .free "dict", .free "isinstance", .free "any", .free "tuple", .free "bool", .free "str", .cls "History", .mkr "History", .cls "Reader", .mkr "Reader", .cls "Bond", .mkr "Bond", .noat "History" "lets", .noat "History" "facts"]
def faL3 : List He.Fa := [.noat "History" "rates", .noat "History" "known", .noat "Reader" "lets", .noat "Reader" "day", .noat "Reader" "facts", .noat "Reader" "ring", .noat "Reader" "rates", .noat "Bond" "name", .noat "Bond" "issuer", .noat "Bond" "units", .noat "Bond" "face", .noat "Bond" "first_day", .noat "Bond" "last_day", .noat "Bond" "months", .noat "Bond" "count", .noat "Bond" "adjust", .noat "Bond" "record", .noat "Bond" "rank", .noat "Bond" "lets", .noat "Bond" "coupon", .noat "Bond" "promises", .noat "Bond" "cross", .noat "Bond" "calls", .meth "History" "fact", .meth "History" "rate", .meth "History" "timed", .meth "Reader" "let_of", .meth "Reader" "truth", .meth "Reader" "form", .exm "MissingRate" "MissingRate" true]
def faL4 : List He.Fa := [.exm "NotStraight" "NotStraight" true, .exm "NotStraight" "NoSingleRate" false, .exm "NoSingleRate" "NotStraight" false, .exm "NoSingleRate" "NoSingleRate" true, .noat "MissingRate" "name", .noat "MissingRate" "day", .noat "NotStraight" "name", .noat "NoSingleRate" "ring", .noat "NoSingleRate" "weights"]
def faL : List He.Fa := faL0 ++ faL1 ++ faL2 ++ faL3 ++ faL4
/-- an own exception class over ValueError with an __init__ -/
def oexB (K : PySem.W.Frag) (C : Addr) : Bool := match K.lookup C with
  | some ⟨.type c, _, .cls cd, sl⟩ => (match cd.mro, sl.toList with
    | .ref C' :: bm, [_, _, _, _, some (.builtin n), _] => decide (c = "type") && (decide (C' = C) && (decide (n = "ValueError.__new__") && (!cd.hasDel && (cd.hasDict && PySem.HandSPX.refsVE bm))))
    | _, _ => false)
  | _ => false
theorem oexB_ok {K : PySem.W.Frag} {C : Addr} (h : oexB K C = true) : ∃ nm q N bs bm sn sub ab col dd k0 k1 k2 k3 k5, K.lookup C = some (excClassObj nm q C N bs bm true sn sub ab col dd k0 k1 k2 k3 k5 "ValueError.__new__") ∧ PySem.HandSPX.refsVE bm = true := by
  unfold oexB at h
  split at h
  · rename_i c dd cd sl ho
    split at h
    · rename_i C' bm k0 k1 k2 k3 n k5 hm hs
      simp only [Bool.and_eq_true, decide_eq_true_eq, Bool.not_eq_true'] at h
      obtain ⟨rfl, rfl, rfl, h1, h2, h3⟩ := h
      obtain ⟨nm, bs, mro, ns, qn, hd, sn, sb, ab, col, del⟩ := cd
      simp only at hm h1 h2
      subst hm h1 h2
      have e : sl = #[k0, k1, k2, k3, some (.builtin "ValueError.__new__"), k5] := by
        have := congrArg List.toArray hs
        simpa using this
      subst e
      exact ⟨nm, qn, ns, bs, bm, sn, sb, ab, col, dd, k0, k1, k2, k3, k5, ho, h3⟩
    · cases h
  · cases h
def excB (K : PySem.W.Frag) (x : Str) : Bool := oexB K (He.ga K x) && (He.eqO (PySem.W.findIn K (.ref (He.ga K x)) "__setattr__") (some (some (.builtin "object.__setattr__"))) && (decide (PySem.W.subIn K (.ref (He.ga K x)) (.type "BaseException") = some true) &&
  (decide (PySem.W.typeIn K (.ref (He.ga K x)) = some (.type "type")) && (PySem.W.keepIn K (.ref (He.ga K x)) && (xfB K (He.ga K x) && (He.eqO (PySem.W.findIn K (.ref (He.ga K x)) "__init__") (some (some (.ref (He.ma K (He.ga K x) "__init__")))) &&
  decide (PySem.W.typeIn K (.ref (He.ma K (He.ga K x) "__init__")) = some (.type "function"))))))))
structure ExcOk (K : PySem.W.Frag) (x : Str) : Prop where
  o : OexC K (He.ga K x)
  xf : XfC K (He.ga K x)
  i : PySem.W.findIn K (.ref (He.ga K x)) "__init__" = some (some (.ref (He.ma K (He.ga K x) "__init__")))
  t : PySem.W.typeIn K (.ref (He.ma K (He.ga K x) "__init__")) = some (.type "function")
theorem excB_ok {K : PySem.W.Frag} {x : Str} (h : excB K x = true) : ExcOk K x := by
  obtain ⟨h1, h⟩ := He.ba h
  obtain ⟨h2, h⟩ := He.ba h
  obtain ⟨h3, h⟩ := He.ba h
  obtain ⟨h4, h⟩ := He.ba h
  obtain ⟨h5, h⟩ := He.ba h
  obtain ⟨h6, h⟩ := He.ba h
  obtain ⟨h7, h8⟩ := He.ba h
  exact ⟨⟨oexB_ok h1, He.eqO_ok h2, of_decide_eq_true h3, of_decide_eq_true h4, h5⟩, xfB_ok h6, He.eqO_ok h7, of_decide_eq_true h8⟩
/-- the rest of what is asked of the written part, in one Bool -/
def moreB (K : PySem.W.Frag) : Bool := He.eqO (PySem.W.nsIn K mainGlobals "gcd") (some (some (.builtin "math.gcd"))) && (He.tupB K "NONE" [.int 0, .int 1] && (He.tupB K "UNIT" [.int 1, .int 1] && (He.tupB K "HUNDREDTH" [.int 1, .int 100] && (He.tupB K "TIMED" [.str "ever", .str "always", .str "before"] &&
  (excB K "MissingRate" && (excB K "NotStraight" && (excB K "NoSingleRate" && He.eqO (PySem.W.nsIn K mainGlobals "NO_FORM") (some (some .none)))))))))
structure Txt (K : PySem.W.Frag) (mg : Str → Option Value) : Prop where
  hp : ∃ h : Heap, K.In h ∧ h.Ns mainGlobals mg
  fa : ∀ f ∈ faL, f.ok K = true
  fn : ∀ d ∈ fnL, ∃ fd, FunD K d.name d.qual d.params d.body d.scope (d.dvs K) (d.kws K) (He.fAd K d.at_) fd
  more : moreB K = true
theorem mem_at {α : Type} {l : List α} (i : Nat) {a : α} (h : l[i]? = some a) : a ∈ l := List.mem_of_getElem? h
section
variable {K : PySem.W.Frag} {mg : Str → Option Value}
theorem Txt.at (T : Txt K mg) (i : Nat) {f : He.Fa} (h : faL[i]? = some f := by rfl) : f.ok K = true := T.fa f (mem_at i h)
theorem Txt.glo (T : Txt K mg) (i : Nat) {x : Str} (h : faL[i]? = some (.glo x) := by rfl) : mg x = some (.ref (He.ga K x)) := let ⟨_, X, G⟩ := T.hp; He.glo_ok X G (T.at i h)
theorem Txt.free (T : Txt K mg) (i : Nat) {x : Str} (h : faL[i]? = some (.free x) := by rfl) : mg x = none := let ⟨_, X, G⟩ := T.hp; He.free_ok X G (T.at i h)
theorem Txt.df (T : Txt K mg) (i : Nat) {d : He.DefD} (h : fnL[i]? = some d := by rfl) : ∃ fd, FunD K d.name d.qual d.params d.body d.scope (d.dvs K) (d.kws K) (He.fAd K d.at_) fd := T.fn d (mem_at i h)
theorem Txt.t_gcd (T : Txt K mg) : mg "gcd" = some (.builtin "math.gcd") := let ⟨_, X, G⟩ := T.hp; PySem.W.mg_of X G (He.eqO_ok (He.ba T.more).1)
theorem Txt.t_NONE (T : Txt K mg) (H : Hp) : SqT K H (He.ga K "NONE") [.int 0, .int 1] := He.tupB_ok (He.ba (He.ba T.more).2).1 H
theorem Txt.t_UNIT (T : Txt K mg) (H : Hp) : SqT K H (He.ga K "UNIT") [.int 1, .int 1] := He.tupB_ok (He.ba (He.ba (He.ba T.more).2).2).1 H
theorem Txt.t_HUNDREDTH (T : Txt K mg) (H : Hp) : SqT K H (He.ga K "HUNDREDTH") [.int 1, .int 100] := He.tupB_ok (He.ba (He.ba (He.ba (He.ba T.more).2).2).2).1 H
theorem Txt.t_TIMED (T : Txt K mg) (H : Hp) : SqT K H (He.ga K "TIMED") [.str "ever", .str "always", .str "before"] := He.tupB_ok (He.ba (He.ba (He.ba (He.ba (He.ba T.more).2).2).2).2).1 H
theorem Txt.e_MissingRate (T : Txt K mg) : ExcOk K "MissingRate" := excB_ok (He.ba (He.ba (He.ba (He.ba (He.ba (He.ba T.more).2).2).2).2).2).1
theorem Txt.e_NotStraight (T : Txt K mg) : ExcOk K "NotStraight" := excB_ok (He.ba (He.ba (He.ba (He.ba (He.ba (He.ba (He.ba T.more).2).2).2).2).2).2).1
theorem Txt.e_NoSingleRate (T : Txt K mg) : ExcOk K "NoSingleRate" := excB_ok (He.ba (He.ba (He.ba (He.ba (He.ba (He.ba (He.ba (He.ba T.more).2).2).2).2).2).2).2).1
theorem Txt.t_NO_FORM (T : Txt K mg) : mg "NO_FORM" = some .none := let ⟨_, X, G⟩ := T.hp; PySem.W.mg_of X G (He.eqO_ok (He.ba (He.ba (He.ba (He.ba (He.ba (He.ba (He.ba (He.ba T.more).2).2).2).2).2).2).2).2)
theorem Txt.g_fraction (T : Txt K mg) : mg "fraction" = some (.ref (He.ga K "fraction")) := T.glo 0
theorem Txt.g_plus (T : Txt K mg) : mg "plus" = some (.ref (He.ga K "plus")) := T.glo 1
theorem Txt.g_opposite (T : Txt K mg) : mg "opposite" = some (.ref (He.ga K "opposite")) := T.glo 2
theorem Txt.g_minus (T : Txt K mg) : mg "minus" = some (.ref (He.ga K "minus")) := T.glo 3
theorem Txt.g_times (T : Txt K mg) : mg "times" = some (.ref (He.ga K "times")) := T.glo 4
theorem Txt.g_over (T : Txt K mg) : mg "over" = some (.ref (He.ga K "over")) := T.glo 5
theorem Txt.g_order (T : Txt K mg) : mg "order" = some (.ref (He.ga K "order")) := T.glo 6
theorem Txt.g_sign (T : Txt K mg) : mg "sign" = some (.ref (He.ga K "sign")) := T.glo 7
theorem Txt.g_smaller (T : Txt K mg) : mg "smaller" = some (.ref (He.ga K "smaller")) := T.glo 8
theorem Txt.g_greater (T : Txt K mg) : mg "greater" = some (.ref (He.ga K "greater")) := T.glo 9
theorem Txt.g_combined (T : Txt K mg) : mg "combined_evaluate" = some (.ref (He.ga K "combined_evaluate")) := T.glo 10
theorem Txt.g_evaluated (T : Txt K mg) : mg "evaluated" = some (.ref (He.ga K "evaluated")) := T.glo 11
theorem Txt.g_value (T : Txt K mg) : mg "value" = some (.ref (He.ga K "value")) := T.glo 12
theorem Txt.g_width_of (T : Txt K mg) : mg "width_of" = some (.ref (He.ga K "width_of")) := T.glo 13
theorem Txt.g_check_rows (T : Txt K mg) : mg "check_rows" = some (.ref (He.ga K "check_rows")) := T.glo 14
theorem Txt.g_check_system (T : Txt K mg) : mg "check_system" = some (.ref (He.ga K "check_system")) := T.glo 15
theorem Txt.g_with_row_removed (T : Txt K mg) : mg "with_row_removed" = some (.ref (He.ga K "with_row_removed")) := T.glo 16
theorem Txt.g_swept (T : Txt K mg) : mg "swept" = some (.ref (He.ga K "swept")) := T.glo 17
theorem Txt.g_kernel_of (T : Txt K mg) : mg "kernel_of" = some (.ref (He.ga K "kernel_of")) := T.glo 18
theorem Txt.g_kernel (T : Txt K mg) : mg "kernel" = some (.ref (He.ga K "kernel")) := T.glo 19
theorem Txt.g_solve (T : Txt K mg) : mg "solve" = some (.ref (He.ga K "solve")) := T.glo 20
theorem Txt.g_scaled (T : Txt K mg) : mg "scaled" = some (.ref (He.ga K "scaled")) := T.glo 21
theorem Txt.g_added (T : Txt K mg) : mg "added" = some (.ref (He.ga K "added")) := T.glo 22
theorem Txt.g_multiplied (T : Txt K mg) : mg "multiplied" = some (.ref (He.ga K "multiplied")) := T.glo 23
theorem Txt.g_chosen (T : Txt K mg) : mg "chosen" = some (.ref (He.ga K "chosen")) := T.glo 24
theorem Txt.g_combined2 (T : Txt K mg) : mg "combined_rings" = some (.ref (He.ga K "combined_rings")) := T.glo 25
theorem Txt.g_form_of (T : Txt K mg) : mg "form_of" = some (.ref (He.ga K "form_of")) := T.glo 26
theorem Txt.g_bond_named (T : Txt K mg) : mg "bond_named" = some (.ref (He.ga K "bond_named")) := T.glo 27
theorem Txt.g_earlier (T : Txt K mg) : mg "earlier" = some (.ref (He.ga K "earlier")) := T.glo 28
theorem Txt.g_ring_system (T : Txt K mg) : mg "ring_system" = some (.ref (He.ga K "ring_system")) := T.glo 29
theorem Txt.g_ring_rates (T : Txt K mg) : mg "ring_rates" = some (.ref (He.ga K "ring_rates")) := T.glo 30
theorem Txt.g_L_deck (T : Txt K mg) : mg "_law_deck" = some (.ref (He.ga K "_law_deck")) := T.glo 31
theorem Txt.g_L_draw (T : Txt K mg) : mg "_law_draw" = some (.ref (He.ga K "_law_draw")) := T.glo 32
theorem Txt.g_L_same (T : Txt K mg) : mg "_law_same" = some (.ref (He.ga K "_law_same")) := T.glo 33
theorem Txt.g_L_same_list (T : Txt K mg) : mg "_law_same_list" = some (.ref (He.ga K "_law_same_list")) := T.glo 34
theorem Txt.g_L_gcd (T : Txt K mg) : mg "_law_gcd" = some (.ref (He.ga K "_law_gcd")) := T.glo 35
theorem Txt.g_L_ratio (T : Txt K mg) : mg "_law_ratio" = some (.ref (He.ga K "_law_ratio")) := T.glo 36
theorem Txt.g_L_add (T : Txt K mg) : mg "_law_add" = some (.ref (He.ga K "_law_add")) := T.glo 37
theorem Txt.g_L_times (T : Txt K mg) : mg "_law_times" = some (.ref (He.ga K "_law_times")) := T.glo 38
theorem Txt.g_L_minus (T : Txt K mg) : mg "_law_minus" = some (.ref (He.ga K "_law_minus")) := T.glo 39
theorem Txt.g_L_order (T : Txt K mg) : mg "_law_order" = some (.ref (He.ga K "_law_order")) := T.glo 40
theorem Txt.g_L_total (T : Txt K mg) : mg "_law_total" = some (.ref (He.ga K "_law_total")) := T.glo 41
theorem Txt.g_L_dot (T : Txt K mg) : mg "_law_dot" = some (.ref (He.ga K "_law_dot")) := T.glo 42
theorem Txt.g_L_eliminated (T : Txt K mg) : mg "_law_eliminated" = some (.ref (He.ga K "_law_eliminated")) := T.glo 43
theorem Txt.g_L_bond (T : Txt K mg) : mg "_law_bond" = some (.ref (He.ga K "_law_bond")) := T.glo 44
theorem Txt.g_L_truth (T : Txt K mg) : mg "_law_truth" = some (.ref (He.ga K "_law_truth")) := T.glo 45
theorem Txt.g_L_plain (T : Txt K mg) : mg "_law_plain" = some (.ref (He.ga K "_law_plain")) := T.glo 46
theorem Txt.g_L_value (T : Txt K mg) : mg "_law_value" = some (.ref (He.ga K "_law_value")) := T.glo 47
theorem Txt.g_L_joined (T : Txt K mg) : mg "_law_joined" = some (.ref (He.ga K "_law_joined")) := T.glo 48
theorem Txt.g_L_form (T : Txt K mg) : mg "_law_form" = some (.ref (He.ga K "_law_form")) := T.glo 49
theorem Txt.g_L_world (T : Txt K mg) : mg "_law_world" = some (.ref (He.ga K "_law_world")) := T.glo 50
theorem Txt.g_L_bonds (T : Txt K mg) : mg "_law_bonds" = some (.ref (He.ga K "_law_bonds")) := T.glo 51
theorem Txt.g_L_ring_answer (T : Txt K mg) : mg "_law_ring_answer" = some (.ref (He.ga K "_law_ring_answer")) := T.glo 52
theorem Txt.g_L_linear (T : Txt K mg) : mg "_law_linear" = some (.ref (He.ga K "_law_linear")) := T.glo 53
theorem Txt.g_L_told (T : Txt K mg) : mg "_law_told" = some (.ref (He.ga K "_law_told")) := T.glo 54
theorem Txt.g_law (T : Txt K mg) : mg "law" = some (.ref (He.ga K "law")) := T.glo 55
theorem Txt.g_History (T : Txt K mg) : mg "History" = some (.ref (He.ga K "History")) := T.glo 56
theorem Txt.g_Reader (T : Txt K mg) : mg "Reader" = some (.ref (He.ga K "Reader")) := T.glo 57
theorem Txt.g_Bond (T : Txt K mg) : mg "Bond" = some (.ref (He.ga K "Bond")) := T.glo 58
theorem Txt.g_MissingRate (T : Txt K mg) : mg "MissingRate" = some (.ref (He.ga K "MissingRate")) := T.glo 59
theorem Txt.g_NotStraight (T : Txt K mg) : mg "NotStraight" = some (.ref (He.ga K "NotStraight")) := T.glo 60
theorem Txt.g_NoSingleRate (T : Txt K mg) : mg "NoSingleRate" = some (.ref (He.ga K "NoSingleRate")) := T.glo 61
theorem Txt.g_NONE (T : Txt K mg) : mg "NONE" = some (.ref (He.ga K "NONE")) := T.glo 62
theorem Txt.g_UNIT (T : Txt K mg) : mg "UNIT" = some (.ref (He.ga K "UNIT")) := T.glo 63
theorem Txt.g_HUNDREDTH (T : Txt K mg) : mg "HUNDREDTH" = some (.ref (He.ga K "HUNDREDTH")) := T.glo 64
theorem Txt.g_TIMED (T : Txt K mg) : mg "TIMED" = some (.ref (He.ga K "TIMED")) := T.glo 65
theorem Txt.i_MOST (T : Txt K mg) : ∃ t, mg "MOST" = some (.int 60 t) := let ⟨_, X, G⟩ := T.hp; He.int_ok X G (T.at 66)
theorem Txt.f_len (T : Txt K mg) : mg "len" = none := T.free 67
theorem Txt.f_int (T : Txt K mg) : mg "int" = none := T.free 68
theorem Txt.f_abs (T : Txt K mg) : mg "abs" = none := T.free 69
theorem Txt.f_max (T : Txt K mg) : mg "max" = none := T.free 70
theorem Txt.f_min (T : Txt K mg) : mg "min" = none := T.free 71
theorem Txt.f_range (T : Txt K mg) : mg "range" = none := T.free 72
theorem Txt.f_zip (T : Txt K mg) : mg "zip" = none := T.free 73
theorem Txt.f_enumerate (T : Txt K mg) : mg "enumerate" = none := T.free 74
theorem Txt.f_list (T : Txt K mg) : mg "list" = none := T.free 75
theorem Txt.f_dict (T : Txt K mg) : mg "dict" = none := T.free 76
theorem Txt.f_isinstance (T : Txt K mg) : mg "isinstance" = none := T.free 77
theorem Txt.f_any (T : Txt K mg) : mg "any" = none := T.free 78
theorem Txt.f_tuple (T : Txt K mg) : mg "tuple" = none := T.free 79
theorem Txt.f_bool (T : Txt K mg) : mg "bool" = none := T.free 80
theorem Txt.f_str (T : Txt K mg) : mg "str" = none := T.free 81
theorem Txt.c_History (T : Txt K mg) : Cls K (He.ga K "History") := He.cls_ok (T.at 82)
theorem Txt.mk_History (T : Txt K mg) : Mk K (He.ga K "History") (He.ma K (He.ga K "History") "__init__") := He.mkr_ok (T.at 83)
theorem Txt.c_Reader (T : Txt K mg) : Cls K (He.ga K "Reader") := He.cls_ok (T.at 84)
theorem Txt.mk_Reader (T : Txt K mg) : Mk K (He.ga K "Reader") (He.ma K (He.ga K "Reader") "__init__") := He.mkr_ok (T.at 85)
theorem Txt.c_Bond (T : Txt K mg) : Cls K (He.ga K "Bond") := He.cls_ok (T.at 86)
theorem Txt.mk_Bond (T : Txt K mg) : Mk K (He.ga K "Bond") (He.ma K (He.ga K "Bond") "__init__") := He.mkr_ok (T.at 87)
theorem Txt.n_History_lets (T : Txt K mg) : NoAttr K (He.ga K "History") "lets" := He.noat_ok (T.at 88)
theorem Txt.n_History_facts (T : Txt K mg) : NoAttr K (He.ga K "History") "facts" := He.noat_ok (T.at 89)
theorem Txt.n_History_rates (T : Txt K mg) : NoAttr K (He.ga K "History") "rates" := He.noat_ok (T.at 90)
theorem Txt.n_History_known (T : Txt K mg) : NoAttr K (He.ga K "History") "known" := He.noat_ok (T.at 91)
theorem Txt.n_Reader_lets (T : Txt K mg) : NoAttr K (He.ga K "Reader") "lets" := He.noat_ok (T.at 92)
theorem Txt.n_Reader_day (T : Txt K mg) : NoAttr K (He.ga K "Reader") "day" := He.noat_ok (T.at 93)
theorem Txt.n_Reader_facts (T : Txt K mg) : NoAttr K (He.ga K "Reader") "facts" := He.noat_ok (T.at 94)
theorem Txt.n_Reader_ring (T : Txt K mg) : NoAttr K (He.ga K "Reader") "ring" := He.noat_ok (T.at 95)
theorem Txt.n_Reader_rates (T : Txt K mg) : NoAttr K (He.ga K "Reader") "rates" := He.noat_ok (T.at 96)
theorem Txt.n_Bond_name (T : Txt K mg) : NoAttr K (He.ga K "Bond") "name" := He.noat_ok (T.at 97)
theorem Txt.n_Bond_issuer (T : Txt K mg) : NoAttr K (He.ga K "Bond") "issuer" := He.noat_ok (T.at 98)
theorem Txt.n_Bond_units (T : Txt K mg) : NoAttr K (He.ga K "Bond") "units" := He.noat_ok (T.at 99)
theorem Txt.n_Bond_face (T : Txt K mg) : NoAttr K (He.ga K "Bond") "face" := He.noat_ok (T.at 100)
theorem Txt.n_Bond_first_day (T : Txt K mg) : NoAttr K (He.ga K "Bond") "first_day" := He.noat_ok (T.at 101)
theorem Txt.n_Bond_last_day (T : Txt K mg) : NoAttr K (He.ga K "Bond") "last_day" := He.noat_ok (T.at 102)
theorem Txt.n_Bond_months (T : Txt K mg) : NoAttr K (He.ga K "Bond") "months" := He.noat_ok (T.at 103)
theorem Txt.n_Bond_count (T : Txt K mg) : NoAttr K (He.ga K "Bond") "count" := He.noat_ok (T.at 104)
theorem Txt.n_Bond_adjust (T : Txt K mg) : NoAttr K (He.ga K "Bond") "adjust" := He.noat_ok (T.at 105)
theorem Txt.n_Bond_record (T : Txt K mg) : NoAttr K (He.ga K "Bond") "record" := He.noat_ok (T.at 106)
theorem Txt.n_Bond_rank (T : Txt K mg) : NoAttr K (He.ga K "Bond") "rank" := He.noat_ok (T.at 107)
theorem Txt.n_Bond_lets (T : Txt K mg) : NoAttr K (He.ga K "Bond") "lets" := He.noat_ok (T.at 108)
theorem Txt.n_Bond_coupon (T : Txt K mg) : NoAttr K (He.ga K "Bond") "coupon" := He.noat_ok (T.at 109)
theorem Txt.n_Bond_promises (T : Txt K mg) : NoAttr K (He.ga K "Bond") "promises" := He.noat_ok (T.at 110)
theorem Txt.n_Bond_cross (T : Txt K mg) : NoAttr K (He.ga K "Bond") "cross" := He.noat_ok (T.at 111)
theorem Txt.n_Bond_calls (T : Txt K mg) : NoAttr K (He.ga K "Bond") "calls" := He.noat_ok (T.at 112)
theorem Txt.m_History_fact (T : Txt K mg) : Meth K (He.ga K "History") "fact" (He.ma K (He.ga K "History") "fact") := He.meth_ok (T.at 113)
theorem Txt.m_History_rate (T : Txt K mg) : Meth K (He.ga K "History") "rate" (He.ma K (He.ga K "History") "rate") := He.meth_ok (T.at 114)
theorem Txt.m_History_timed (T : Txt K mg) : Meth K (He.ga K "History") "timed" (He.ma K (He.ga K "History") "timed") := He.meth_ok (T.at 115)
theorem Txt.m_Reader_let_of (T : Txt K mg) : Meth K (He.ga K "Reader") "let_of" (He.ma K (He.ga K "Reader") "let_of") := He.meth_ok (T.at 116)
theorem Txt.m_Reader_truth (T : Txt K mg) : Meth K (He.ga K "Reader") "truth" (He.ma K (He.ga K "Reader") "truth") := He.meth_ok (T.at 117)
theorem Txt.m_Reader_form (T : Txt K mg) : Meth K (He.ga K "Reader") "form" (He.ma K (He.ga K "Reader") "form") := He.meth_ok (T.at 118)
theorem Txt.x_MissingRate_MissingRate (T : Txt K mg) : PySem.W.exmOne K (.ref (He.ga K "MissingRate")) (.ref (He.ga K "MissingRate")) = some true := He.exm_ok (T.at 119)
theorem Txt.x_NotStraight_NotStraight (T : Txt K mg) : PySem.W.exmOne K (.ref (He.ga K "NotStraight")) (.ref (He.ga K "NotStraight")) = some true := He.exm_ok (T.at 120)
theorem Txt.x_NotStraight_NoSingleRate (T : Txt K mg) : PySem.W.exmOne K (.ref (He.ga K "NotStraight")) (.ref (He.ga K "NoSingleRate")) = some false := He.exm_ok (T.at 121)
theorem Txt.x_NoSingleRate_NotStraight (T : Txt K mg) : PySem.W.exmOne K (.ref (He.ga K "NoSingleRate")) (.ref (He.ga K "NotStraight")) = some false := He.exm_ok (T.at 122)
theorem Txt.x_NoSingleRate_NoSingleRate (T : Txt K mg) : PySem.W.exmOne K (.ref (He.ga K "NoSingleRate")) (.ref (He.ga K "NoSingleRate")) = some true := He.exm_ok (T.at 123)
theorem Txt.n_MissingRate_name (T : Txt K mg) : NoAttr K (He.ga K "MissingRate") "name" := He.noat_ok (T.at 124)
theorem Txt.n_MissingRate_day (T : Txt K mg) : NoAttr K (He.ga K "MissingRate") "day" := He.noat_ok (T.at 125)
theorem Txt.n_NotStraight_name (T : Txt K mg) : NoAttr K (He.ga K "NotStraight") "name" := He.noat_ok (T.at 126)
theorem Txt.n_NoSingleRate_ring (T : Txt K mg) : NoAttr K (He.ga K "NoSingleRate") "ring" := He.noat_ok (T.at 127)
theorem Txt.n_NoSingleRate_weights (T : Txt K mg) : NoAttr K (He.ga K "NoSingleRate") "weights" := He.noat_ok (T.at 128)
theorem Txt.df_NotStraight_init (T : Txt K mg) : ∃ fd, FunD K "__init__" "NotStraight.__init__" (defArgs s_NotStraight_init) (defBody s_NotStraight_init) (defScope s_NotStraight_init) [] [] (He.fAd K ("NotStraight", some "__init__")) fd := T.df 0
theorem Txt.df_MissingRate_init (T : Txt K mg) : ∃ fd, FunD K "__init__" "MissingRate.__init__" (defArgs s_MissingRate_init) (defBody s_MissingRate_init) (defScope s_MissingRate_init) [] [] (He.fAd K ("MissingRate", some "__init__")) fd := T.df 1
theorem Txt.df_NoSingleRate_init (T : Txt K mg) : ∃ fd, FunD K "__init__" "NoSingleRate.__init__" (defArgs s_NoSingleRate_init) (defBody s_NoSingleRate_init) (defScope s_NoSingleRate_init) [] [] (He.fAd K ("NoSingleRate", some "__init__")) fd := T.df 2
theorem Txt.df_fraction (T : Txt K mg) : ∃ fd, FunD K "fraction" "fraction" (defArgs s_fraction) (defBody s_fraction) (defScope s_fraction) [.int 1] [] (He.fAd K ("fraction", none)) fd := T.df 3
theorem Txt.df_plus (T : Txt K mg) : ∃ fd, FunD K "plus" "plus" (defArgs s_plus) (defBody s_plus) (defScope s_plus) [] [] (He.fAd K ("plus", none)) fd := T.df 4
theorem Txt.df_opposite (T : Txt K mg) : ∃ fd, FunD K "opposite" "opposite" (defArgs s_opposite) (defBody s_opposite) (defScope s_opposite) [] [] (He.fAd K ("opposite", none)) fd := T.df 5
theorem Txt.df_minus (T : Txt K mg) : ∃ fd, FunD K "minus" "minus" (defArgs s_minus) (defBody s_minus) (defScope s_minus) [] [] (He.fAd K ("minus", none)) fd := T.df 6
theorem Txt.df_times (T : Txt K mg) : ∃ fd, FunD K "times" "times" (defArgs s_times) (defBody s_times) (defScope s_times) [] [] (He.fAd K ("times", none)) fd := T.df 7
theorem Txt.df_over (T : Txt K mg) : ∃ fd, FunD K "over" "over" (defArgs s_over) (defBody s_over) (defScope s_over) [] [] (He.fAd K ("over", none)) fd := T.df 8
theorem Txt.df_order (T : Txt K mg) : ∃ fd, FunD K "order" "order" (defArgs s_order) (defBody s_order) (defScope s_order) [] [] (He.fAd K ("order", none)) fd := T.df 9
theorem Txt.df_sign (T : Txt K mg) : ∃ fd, FunD K "sign" "sign" (defArgs s_sign) (defBody s_sign) (defScope s_sign) [] [] (He.fAd K ("sign", none)) fd := T.df 10
theorem Txt.df_smaller (T : Txt K mg) : ∃ fd, FunD K "smaller" "smaller" (defArgs s_smaller) (defBody s_smaller) (defScope s_smaller) [] [] (He.fAd K ("smaller", none)) fd := T.df 11
theorem Txt.df_greater (T : Txt K mg) : ∃ fd, FunD K "greater" "greater" (defArgs s_greater) (defBody s_greater) (defScope s_greater) [] [] (He.fAd K ("greater", none)) fd := T.df 12
theorem Txt.df_History_init (T : Txt K mg) : ∃ fd, FunD K "__init__" "History.__init__" (defArgs s_History_init) (defBody s_History_init) (defScope s_History_init) [] [] (He.fAd K ("History", some "__init__")) fd := T.df 13
theorem Txt.df_History_fact (T : Txt K mg) : ∃ fd, FunD K "fact" "History.fact" (defArgs s_History_fact) (defBody s_History_fact) (defScope s_History_fact) [] [] (He.fAd K ("History", some "fact")) fd := T.df 14
theorem Txt.df_History_rate (T : Txt K mg) : ∃ fd, FunD K "rate" "History.rate" (defArgs s_History_rate) (defBody s_History_rate) (defScope s_History_rate) [] [] (He.fAd K ("History", some "rate")) fd := T.df 15
theorem Txt.df_History_timed (T : Txt K mg) : ∃ fd, FunD K "timed" "History.timed" (defArgs s_History_timed) (defBody s_History_timed) (defScope s_History_timed) [] [] (He.fAd K ("History", some "timed")) fd := T.df 16
theorem Txt.df_combined (T : Txt K mg) : ∃ fd, FunD K "combined" "combined" (defArgs s_combined) (defBody s_combined) (defScope s_combined) [] [] (He.fAd K ("combined_evaluate", none)) fd := T.df 17
theorem Txt.df_evaluated (T : Txt K mg) : ∃ fd, FunD K "evaluated" "evaluated" (defArgs s_evaluated) (defBody s_evaluated) (defScope s_evaluated) [] [] (He.fAd K ("evaluated", none)) fd := T.df 18
theorem Txt.df_value (T : Txt K mg) : ∃ fd, FunD K "value" "value" (defArgs s_value) (defBody s_value) (defScope s_value) [] [] (He.fAd K ("value", none)) fd := T.df 19
theorem Txt.df_width_of (T : Txt K mg) : ∃ fd, FunD K "width_of" "width_of" (defArgs s_width_of) (defBody s_width_of) (defScope s_width_of) [] [] (He.fAd K ("width_of", none)) fd := T.df 20
theorem Txt.df_check_rows (T : Txt K mg) : ∃ fd, FunD K "check_rows" "check_rows" (defArgs s_check_rows) (defBody s_check_rows) (defScope s_check_rows) [] [] (He.fAd K ("check_rows", none)) fd := T.df 21
theorem Txt.df_check_system (T : Txt K mg) : ∃ fd, FunD K "check_system" "check_system" (defArgs s_check_system) (defBody s_check_system) (defScope s_check_system) [] [] (He.fAd K ("check_system", none)) fd := T.df 22
theorem Txt.df_with_row_removed (T : Txt K mg) : ∃ fd, FunD K "with_row_removed" "with_row_removed" (defArgs s_with_row_removed) (defBody s_with_row_removed) (defScope s_with_row_removed) [] [] (He.fAd K ("with_row_removed", none)) fd := T.df 23
theorem Txt.df_swept (T : Txt K mg) : ∃ fd, FunD K "swept" "swept" (defArgs s_swept) (defBody s_swept) (defScope s_swept) [] [] (He.fAd K ("swept", none)) fd := T.df 24
theorem Txt.df_kernel_of (T : Txt K mg) : ∃ fd, FunD K "kernel_of" "kernel_of" (defArgs s_kernel_of) (defBody s_kernel_of) (defScope s_kernel_of) [] [] (He.fAd K ("kernel_of", none)) fd := T.df 25
theorem Txt.df_kernel (T : Txt K mg) : ∃ fd, FunD K "kernel" "kernel" (defArgs s_kernel) (defBody s_kernel) (defScope s_kernel) [] [] (He.fAd K ("kernel", none)) fd := T.df 26
theorem Txt.df_solve (T : Txt K mg) : ∃ fd, FunD K "solve" "solve" (defArgs s_solve) (defBody s_solve) (defScope s_solve) [] [] (He.fAd K ("solve", none)) fd := T.df 27
theorem Txt.df_scaled (T : Txt K mg) : ∃ fd, FunD K "scaled" "scaled" (defArgs s_scaled) (defBody s_scaled) (defScope s_scaled) [] [] (He.fAd K ("scaled", none)) fd := T.df 28
theorem Txt.df_added (T : Txt K mg) : ∃ fd, FunD K "added" "added" (defArgs s_added) (defBody s_added) (defScope s_added) [] [] (He.fAd K ("added", none)) fd := T.df 29
theorem Txt.df_multiplied (T : Txt K mg) : ∃ fd, FunD K "multiplied" "multiplied" (defArgs s_multiplied) (defBody s_multiplied) (defScope s_multiplied) [] [] (He.fAd K ("multiplied", none)) fd := T.df 30
theorem Txt.df_chosen (T : Txt K mg) : ∃ fd, FunD K "chosen" "chosen" (defArgs s_chosen) (defBody s_chosen) (defScope s_chosen) [] [] (He.fAd K ("chosen", none)) fd := T.df 31
theorem Txt.df_combined2 (T : Txt K mg) : ∃ fd, FunD K "combined" "combined" (defArgs s_combined2) (defBody s_combined2) (defScope s_combined2) [] [] (He.fAd K ("combined_rings", none)) fd := T.df 32
theorem Txt.df_Reader_init (T : Txt K mg) : ∃ fd, FunD K "__init__" "Reader.__init__" (defArgs s_Reader_init) (defBody s_Reader_init) (defScope s_Reader_init) [] [] (He.fAd K ("Reader", some "__init__")) fd := T.df 33
theorem Txt.df_Reader_let_of (T : Txt K mg) : ∃ fd, FunD K "let_of" "Reader.let_of" (defArgs s_Reader_let_of) (defBody s_Reader_let_of) (defScope s_Reader_let_of) [] [] (He.fAd K ("Reader", some "let_of")) fd := T.df 34
theorem Txt.df_Reader_truth (T : Txt K mg) : ∃ fd, FunD K "truth" "Reader.truth" (defArgs s_Reader_truth) (defBody s_Reader_truth) (defScope s_Reader_truth) [] [] (He.fAd K ("Reader", some "truth")) fd := T.df 35
theorem Txt.df_Reader_form (T : Txt K mg) : ∃ fd, FunD K "form" "Reader.form" (defArgs s_Reader_form) (defBody s_Reader_form) (defScope s_Reader_form) [] [] (He.fAd K ("Reader", some "form")) fd := T.df 36
theorem Txt.df_form_of (T : Txt K mg) : ∃ fd, FunD K "form_of" "form_of" (defArgs s_form_of) (defBody s_form_of) (defScope s_form_of) [] [] (He.fAd K ("form_of", none)) fd := T.df 37
theorem Txt.df_bond_named (T : Txt K mg) : ∃ fd, FunD K "bond_named" "bond_named" (defArgs s_bond_named) (defBody s_bond_named) (defScope s_bond_named) [] [] (He.fAd K ("bond_named", none)) fd := T.df 38
theorem Txt.df_earlier (T : Txt K mg) : ∃ fd, FunD K "earlier" "earlier" (defArgs s_earlier) (defBody s_earlier) (defScope s_earlier) [] [] (He.fAd K ("earlier", none)) fd := T.df 39
theorem Txt.df_ring_system (T : Txt K mg) : ∃ fd, FunD K "ring_system" "ring_system" (defArgs s_ring_system) (defBody s_ring_system) (defScope s_ring_system) [] [] (He.fAd K ("ring_system", none)) fd := T.df 40
theorem Txt.df_ring_rates (T : Txt K mg) : ∃ fd, FunD K "ring_rates" "ring_rates" (defArgs s_ring_rates) (defBody s_ring_rates) (defScope s_ring_rates) [] [] (He.fAd K ("ring_rates", none)) fd := T.df 41
theorem Txt.df_Bond_init (T : Txt K mg) : ∃ fd, FunD K "__init__" "Bond.__init__" (defArgs s_Bond_init) (defBody s_Bond_init) (defScope s_Bond_init) [] [] (He.fAd K ("Bond", some "__init__")) fd := T.df 42
theorem Txt.df_L_deck (T : Txt K mg) : ∃ fd, FunD K "_law_deck" "_law_deck" (defArgs s_L_deck) (defBody s_L_deck) (defScope s_L_deck) [] [] (He.fAd K ("_law_deck", none)) fd := T.df 43
theorem Txt.df_L_draw (T : Txt K mg) : ∃ fd, FunD K "_law_draw" "_law_draw" (defArgs s_L_draw) (defBody s_L_draw) (defScope s_L_draw) [] [] (He.fAd K ("_law_draw", none)) fd := T.df 44
theorem Txt.df_L_same (T : Txt K mg) : ∃ fd, FunD K "_law_same" "_law_same" (defArgs s_L_same) (defBody s_L_same) (defScope s_L_same) [] [] (He.fAd K ("_law_same", none)) fd := T.df 45
theorem Txt.df_L_same_list (T : Txt K mg) : ∃ fd, FunD K "_law_same_list" "_law_same_list" (defArgs s_L_same_list) (defBody s_L_same_list) (defScope s_L_same_list) [] [] (He.fAd K ("_law_same_list", none)) fd := T.df 46
theorem Txt.df_L_gcd (T : Txt K mg) : ∃ fd, FunD K "_law_gcd" "_law_gcd" (defArgs s_L_gcd) (defBody s_L_gcd) (defScope s_L_gcd) [] [] (He.fAd K ("_law_gcd", none)) fd := T.df 47
theorem Txt.df_L_ratio (T : Txt K mg) : ∃ fd, FunD K "_law_ratio" "_law_ratio" (defArgs s_L_ratio) (defBody s_L_ratio) (defScope s_L_ratio) [] [] (He.fAd K ("_law_ratio", none)) fd := T.df 48
theorem Txt.df_L_add (T : Txt K mg) : ∃ fd, FunD K "_law_add" "_law_add" (defArgs s_L_add) (defBody s_L_add) (defScope s_L_add) [] [] (He.fAd K ("_law_add", none)) fd := T.df 49
theorem Txt.df_L_times (T : Txt K mg) : ∃ fd, FunD K "_law_times" "_law_times" (defArgs s_L_times) (defBody s_L_times) (defScope s_L_times) [] [] (He.fAd K ("_law_times", none)) fd := T.df 50
theorem Txt.df_L_minus (T : Txt K mg) : ∃ fd, FunD K "_law_minus" "_law_minus" (defArgs s_L_minus) (defBody s_L_minus) (defScope s_L_minus) [] [] (He.fAd K ("_law_minus", none)) fd := T.df 51
theorem Txt.df_L_order (T : Txt K mg) : ∃ fd, FunD K "_law_order" "_law_order" (defArgs s_L_order) (defBody s_L_order) (defScope s_L_order) [] [] (He.fAd K ("_law_order", none)) fd := T.df 52
theorem Txt.df_L_total (T : Txt K mg) : ∃ fd, FunD K "_law_total" "_law_total" (defArgs s_L_total) (defBody s_L_total) (defScope s_L_total) [] [] (He.fAd K ("_law_total", none)) fd := T.df 53
theorem Txt.df_L_dot (T : Txt K mg) : ∃ fd, FunD K "_law_dot" "_law_dot" (defArgs s_L_dot) (defBody s_L_dot) (defScope s_L_dot) [] [] (He.fAd K ("_law_dot", none)) fd := T.df 54
theorem Txt.df_L_eliminated (T : Txt K mg) : ∃ fd, FunD K "_law_eliminated" "_law_eliminated" (defArgs s_L_eliminated) (defBody s_L_eliminated) (defScope s_L_eliminated) [] [] (He.fAd K ("_law_eliminated", none)) fd := T.df 55
theorem Txt.df_L_bond (T : Txt K mg) : ∃ fd, FunD K "_law_bond" "_law_bond" (defArgs s_L_bond) (defBody s_L_bond) (defScope s_L_bond) [] [] (He.fAd K ("_law_bond", none)) fd := T.df 56
theorem Txt.df_L_truth (T : Txt K mg) : ∃ fd, FunD K "_law_truth" "_law_truth" (defArgs s_L_truth) (defBody s_L_truth) (defScope s_L_truth) [] [] (He.fAd K ("_law_truth", none)) fd := T.df 57
theorem Txt.df_L_plain (T : Txt K mg) : ∃ fd, FunD K "_law_plain" "_law_plain" (defArgs s_L_plain) (defBody s_L_plain) (defScope s_L_plain) [] [] (He.fAd K ("_law_plain", none)) fd := T.df 58
theorem Txt.df_L_value (T : Txt K mg) : ∃ fd, FunD K "_law_value" "_law_value" (defArgs s_L_value) (defBody s_L_value) (defScope s_L_value) [] [] (He.fAd K ("_law_value", none)) fd := T.df 59
theorem Txt.df_L_joined (T : Txt K mg) : ∃ fd, FunD K "_law_joined" "_law_joined" (defArgs s_L_joined) (defBody s_L_joined) (defScope s_L_joined) [] [] (He.fAd K ("_law_joined", none)) fd := T.df 60
theorem Txt.df_L_form (T : Txt K mg) : ∃ fd, FunD K "_law_form" "_law_form" (defArgs s_L_form) (defBody s_L_form) (defScope s_L_form) [] [] (He.fAd K ("_law_form", none)) fd := T.df 61
theorem Txt.df_L_world (T : Txt K mg) : ∃ fd, FunD K "_law_world" "_law_world" (defArgs s_L_world) (defBody s_L_world) (defScope s_L_world) [] [] (He.fAd K ("_law_world", none)) fd := T.df 62
theorem Txt.df_L_bonds (T : Txt K mg) : ∃ fd, FunD K "_law_bonds" "_law_bonds" (defArgs s_L_bonds) (defBody s_L_bonds) (defScope s_L_bonds) [] [] (He.fAd K ("_law_bonds", none)) fd := T.df 63
theorem Txt.df_L_ring_answer (T : Txt K mg) : ∃ fd, FunD K "_law_ring_answer" "_law_ring_answer" (defArgs s_L_ring_answer) (defBody s_L_ring_answer) (defScope s_L_ring_answer) [] [] (He.fAd K ("_law_ring_answer", none)) fd := T.df 64
theorem Txt.df_L_linear (T : Txt K mg) : ∃ fd, FunD K "_law_linear" "_law_linear" (defArgs s_L_linear) (defBody s_L_linear) (defScope s_L_linear) [] [] (He.fAd K ("_law_linear", none)) fd := T.df 65
theorem Txt.df_L_told (T : Txt K mg) : ∃ fd, FunD K "_law_told" "_law_told" (defArgs s_L_told) (defBody s_L_told) (defScope s_L_told) [] [] (He.fAd K ("_law_told", none)) fd := T.df 66
theorem Txt.df_law (T : Txt K mg) : ∃ fd, FunD K "law" "law" (defArgs s_law) (defBody s_law) (defScope s_law) [] [] (He.fAd K ("law", none)) fd := T.df 67
end
theorem sc_NotStraight_init : FnScope n_NotStraight_init p_NotStraight_init (defScope s_NotStraight_init) := ⟨rfl, rfl, rfl, by decide +kernel, rfl, by decide +kernel, by decide +kernel⟩
theorem sc_MissingRate_init : FnScope n_MissingRate_init p_MissingRate_init (defScope s_MissingRate_init) := ⟨rfl, rfl, rfl, by decide +kernel, rfl, by decide +kernel, by decide +kernel⟩
theorem sc_NoSingleRate_init : FnScope n_NoSingleRate_init p_NoSingleRate_init (defScope s_NoSingleRate_init) := ⟨rfl, rfl, rfl, by decide +kernel, rfl, by decide +kernel, by decide +kernel⟩
theorem sc_fraction : FnScope n_fraction p_fraction (defScope s_fraction) := ⟨rfl, rfl, rfl, by decide +kernel, rfl, by decide +kernel, by decide +kernel⟩
theorem sc_plus : FnScope n_plus p_plus (defScope s_plus) := ⟨rfl, rfl, rfl, by decide +kernel, rfl, by decide +kernel, by decide +kernel⟩
theorem sc_opposite : FnScope n_opposite p_opposite (defScope s_opposite) := ⟨rfl, rfl, rfl, by decide +kernel, rfl, by decide +kernel, by decide +kernel⟩
theorem sc_minus : FnScope n_minus p_minus (defScope s_minus) := ⟨rfl, rfl, rfl, by decide +kernel, rfl, by decide +kernel, by decide +kernel⟩
theorem sc_times : FnScope n_times p_times (defScope s_times) := ⟨rfl, rfl, rfl, by decide +kernel, rfl, by decide +kernel, by decide +kernel⟩
theorem sc_over : FnScope n_over p_over (defScope s_over) := ⟨rfl, rfl, rfl, by decide +kernel, rfl, by decide +kernel, by decide +kernel⟩
theorem sc_order : FnScope n_order p_order (defScope s_order) := ⟨rfl, rfl, rfl, by decide +kernel, rfl, by decide +kernel, by decide +kernel⟩
theorem sc_sign : FnScope n_sign p_sign (defScope s_sign) := ⟨rfl, rfl, rfl, by decide +kernel, rfl, by decide +kernel, by decide +kernel⟩
theorem sc_smaller : FnScope n_smaller p_smaller (defScope s_smaller) := ⟨rfl, rfl, rfl, by decide +kernel, rfl, by decide +kernel, by decide +kernel⟩
theorem sc_greater : FnScope n_greater p_greater (defScope s_greater) := ⟨rfl, rfl, rfl, by decide +kernel, rfl, by decide +kernel, by decide +kernel⟩
theorem sc_History_init : FnScope n_History_init p_History_init (defScope s_History_init) := ⟨rfl, rfl, rfl, by decide +kernel, rfl, by decide +kernel, by decide +kernel⟩
theorem sc_History_fact : FnScope n_History_fact p_History_fact (defScope s_History_fact) := ⟨rfl, rfl, rfl, by decide +kernel, rfl, by decide +kernel, by decide +kernel⟩
theorem sc_History_rate : FnScope n_History_rate p_History_rate (defScope s_History_rate) := ⟨rfl, rfl, rfl, by decide +kernel, rfl, by decide +kernel, by decide +kernel⟩
theorem sc_History_timed : FnScope n_History_timed p_History_timed (defScope s_History_timed) := ⟨rfl, rfl, rfl, by decide +kernel, rfl, by decide +kernel, by decide +kernel⟩
theorem sc_combined : FnScope n_combined p_combined (defScope s_combined) := ⟨rfl, rfl, rfl, by decide +kernel, rfl, by decide +kernel, by decide +kernel⟩
theorem sc_evaluated : FnScope n_evaluated p_evaluated (defScope s_evaluated) := ⟨rfl, rfl, rfl, by decide +kernel, rfl, by decide +kernel, by decide +kernel⟩
theorem sc_value : FnScope n_value p_value (defScope s_value) := ⟨rfl, rfl, rfl, by decide +kernel, rfl, by decide +kernel, by decide +kernel⟩
theorem sc_width_of : FnScope n_width_of p_width_of (defScope s_width_of) := ⟨rfl, rfl, rfl, by decide +kernel, rfl, by decide +kernel, by decide +kernel⟩
theorem sc_check_rows : FnScope n_check_rows p_check_rows (defScope s_check_rows) := ⟨rfl, rfl, rfl, by decide +kernel, rfl, by decide +kernel, by decide +kernel⟩
theorem sc_check_system : FnScope n_check_system p_check_system (defScope s_check_system) := ⟨rfl, rfl, rfl, by decide +kernel, rfl, by decide +kernel, by decide +kernel⟩
theorem sc_with_row_removed : FnScope n_with_row_removed p_with_row_removed (defScope s_with_row_removed) := ⟨rfl, rfl, rfl, by decide +kernel, rfl, by decide +kernel, by decide +kernel⟩
theorem sc_swept : FnScope n_swept p_swept (defScope s_swept) := ⟨rfl, rfl, rfl, by decide +kernel, rfl, by decide +kernel, by decide +kernel⟩
theorem sc_kernel_of : FnScope n_kernel_of p_kernel_of (defScope s_kernel_of) := ⟨rfl, rfl, rfl, by decide +kernel, rfl, by decide +kernel, by decide +kernel⟩
theorem sc_kernel : FnScope n_kernel p_kernel (defScope s_kernel) := ⟨rfl, rfl, rfl, by decide +kernel, rfl, by decide +kernel, by decide +kernel⟩
theorem sc_solve : FnScope n_solve p_solve (defScope s_solve) := ⟨rfl, rfl, rfl, by decide +kernel, rfl, by decide +kernel, by decide +kernel⟩
theorem sc_scaled : FnScope n_scaled p_scaled (defScope s_scaled) := ⟨rfl, rfl, rfl, by decide +kernel, rfl, by decide +kernel, by decide +kernel⟩
theorem sc_added : FnScope n_added p_added (defScope s_added) := ⟨rfl, rfl, rfl, by decide +kernel, rfl, by decide +kernel, by decide +kernel⟩
theorem sc_multiplied : FnScope n_multiplied p_multiplied (defScope s_multiplied) := ⟨rfl, rfl, rfl, by decide +kernel, rfl, by decide +kernel, by decide +kernel⟩
theorem sc_chosen : FnScope n_chosen p_chosen (defScope s_chosen) := ⟨rfl, rfl, rfl, by decide +kernel, rfl, by decide +kernel, by decide +kernel⟩
theorem sc_combined2 : FnScope n_combined2 p_combined2 (defScope s_combined2) := ⟨rfl, rfl, rfl, by decide +kernel, rfl, by decide +kernel, by decide +kernel⟩
theorem sc_Reader_init : FnScope n_Reader_init p_Reader_init (defScope s_Reader_init) := ⟨rfl, rfl, rfl, by decide +kernel, rfl, by decide +kernel, by decide +kernel⟩
theorem sc_Reader_let_of : FnScope n_Reader_let_of p_Reader_let_of (defScope s_Reader_let_of) := ⟨rfl, rfl, rfl, by decide +kernel, rfl, by decide +kernel, by decide +kernel⟩
theorem sc_Reader_truth : FnScope n_Reader_truth p_Reader_truth (defScope s_Reader_truth) := ⟨rfl, rfl, rfl, by decide +kernel, rfl, by decide +kernel, by decide +kernel⟩
theorem sc_Reader_form : FnScope n_Reader_form p_Reader_form (defScope s_Reader_form) := ⟨rfl, rfl, rfl, by decide +kernel, rfl, by decide +kernel, by decide +kernel⟩
theorem sc_form_of : FnScope n_form_of p_form_of (defScope s_form_of) := ⟨rfl, rfl, rfl, by decide +kernel, rfl, by decide +kernel, by decide +kernel⟩
theorem sc_bond_named : FnScope n_bond_named p_bond_named (defScope s_bond_named) := ⟨rfl, rfl, rfl, by decide +kernel, rfl, by decide +kernel, by decide +kernel⟩
theorem sc_earlier : FnScope n_earlier p_earlier (defScope s_earlier) := ⟨rfl, rfl, rfl, by decide +kernel, rfl, by decide +kernel, by decide +kernel⟩
theorem sc_ring_system : FnScope n_ring_system p_ring_system (defScope s_ring_system) := ⟨rfl, rfl, rfl, by decide +kernel, rfl, by decide +kernel, by decide +kernel⟩
theorem sc_ring_rates : FnScope n_ring_rates p_ring_rates (defScope s_ring_rates) := ⟨rfl, rfl, rfl, by decide +kernel, rfl, by decide +kernel, by decide +kernel⟩
theorem sc_Bond_init : FnScope n_Bond_init p_Bond_init (defScope s_Bond_init) := ⟨rfl, rfl, rfl, by decide +kernel, rfl, by decide +kernel, by decide +kernel⟩
theorem sc_L_deck : FnScope n_L_deck p_L_deck (defScope s_L_deck) := ⟨rfl, rfl, rfl, by decide +kernel, rfl, by decide +kernel, by decide +kernel⟩
theorem sc_L_draw : FnScope n_L_draw p_L_draw (defScope s_L_draw) := ⟨rfl, rfl, rfl, by decide +kernel, rfl, by decide +kernel, by decide +kernel⟩
theorem sc_L_same : FnScope n_L_same p_L_same (defScope s_L_same) := ⟨rfl, rfl, rfl, by decide +kernel, rfl, by decide +kernel, by decide +kernel⟩
theorem sc_L_same_list : FnScope n_L_same_list p_L_same_list (defScope s_L_same_list) := ⟨rfl, rfl, rfl, by decide +kernel, rfl, by decide +kernel, by decide +kernel⟩
theorem sc_L_gcd : FnScope n_L_gcd p_L_gcd (defScope s_L_gcd) := ⟨rfl, rfl, rfl, by decide +kernel, rfl, by decide +kernel, by decide +kernel⟩
theorem sc_L_ratio : FnScope n_L_ratio p_L_ratio (defScope s_L_ratio) := ⟨rfl, rfl, rfl, by decide +kernel, rfl, by decide +kernel, by decide +kernel⟩
theorem sc_L_add : FnScope n_L_add p_L_add (defScope s_L_add) := ⟨rfl, rfl, rfl, by decide +kernel, rfl, by decide +kernel, by decide +kernel⟩
theorem sc_L_times : FnScope n_L_times p_L_times (defScope s_L_times) := ⟨rfl, rfl, rfl, by decide +kernel, rfl, by decide +kernel, by decide +kernel⟩
theorem sc_L_minus : FnScope n_L_minus p_L_minus (defScope s_L_minus) := ⟨rfl, rfl, rfl, by decide +kernel, rfl, by decide +kernel, by decide +kernel⟩
theorem sc_L_order : FnScope n_L_order p_L_order (defScope s_L_order) := ⟨rfl, rfl, rfl, by decide +kernel, rfl, by decide +kernel, by decide +kernel⟩
theorem sc_L_total : FnScope n_L_total p_L_total (defScope s_L_total) := ⟨rfl, rfl, rfl, by decide +kernel, rfl, by decide +kernel, by decide +kernel⟩
theorem sc_L_dot : FnScope n_L_dot p_L_dot (defScope s_L_dot) := ⟨rfl, rfl, rfl, by decide +kernel, rfl, by decide +kernel, by decide +kernel⟩
theorem sc_L_eliminated : FnScope n_L_eliminated p_L_eliminated (defScope s_L_eliminated) := ⟨rfl, rfl, rfl, by decide +kernel, rfl, by decide +kernel, by decide +kernel⟩
theorem sc_L_bond : FnScope n_L_bond p_L_bond (defScope s_L_bond) := ⟨rfl, rfl, rfl, by decide +kernel, rfl, by decide +kernel, by decide +kernel⟩
theorem sc_L_truth : FnScope n_L_truth p_L_truth (defScope s_L_truth) := ⟨rfl, rfl, rfl, by decide +kernel, rfl, by decide +kernel, by decide +kernel⟩
theorem sc_L_plain : FnScope n_L_plain p_L_plain (defScope s_L_plain) := ⟨rfl, rfl, rfl, by decide +kernel, rfl, by decide +kernel, by decide +kernel⟩
theorem sc_L_value : FnScope n_L_value p_L_value (defScope s_L_value) := ⟨rfl, rfl, rfl, by decide +kernel, rfl, by decide +kernel, by decide +kernel⟩
theorem sc_L_joined : FnScope n_L_joined p_L_joined (defScope s_L_joined) := ⟨rfl, rfl, rfl, by decide +kernel, rfl, by decide +kernel, by decide +kernel⟩
theorem sc_L_form : FnScope n_L_form p_L_form (defScope s_L_form) := ⟨rfl, rfl, rfl, by decide +kernel, rfl, by decide +kernel, by decide +kernel⟩
theorem sc_L_world : FnScope n_L_world p_L_world (defScope s_L_world) := ⟨rfl, rfl, rfl, by decide +kernel, rfl, by decide +kernel, by decide +kernel⟩
theorem sc_L_bonds : FnScope n_L_bonds p_L_bonds (defScope s_L_bonds) := ⟨rfl, rfl, rfl, by decide +kernel, rfl, by decide +kernel, by decide +kernel⟩
theorem sc_L_ring_answer : FnScope n_L_ring_answer p_L_ring_answer (defScope s_L_ring_answer) := ⟨rfl, rfl, rfl, by decide +kernel, rfl, by decide +kernel, by decide +kernel⟩
theorem sc_L_linear : FnScope n_L_linear p_L_linear (defScope s_L_linear) := ⟨rfl, rfl, rfl, by decide +kernel, rfl, by decide +kernel, by decide +kernel⟩
theorem sc_L_told : FnScope n_L_told p_L_told (defScope s_L_told) := ⟨rfl, rfl, rfl, by decide +kernel, rfl, by decide +kernel, by decide +kernel⟩
theorem sc_law : FnScope n_law p_law (defScope s_law) := ⟨rfl, rfl, rfl, by decide +kernel, rfl, by decide +kernel, by decide +kernel⟩
end K3
end
section
set_option Elab.async false
set_option linter.all false
set_option maxRecDepth 100000
set_option maxHeartbeats 0
namespace K3
open PySem PySem.Spec PyProof.Rows L2
/-! ### the head: what the top leaves -/
abbrev LR : PySem.W.OpenRow := PySem.W.OpenLaw.row PySem.Challenge.rw_consol_k30_whole_ring_has_one_solution
abbrev LQ : Program := PySem.W.view LR.prog [0, 86]
def loose0 : List PySem.Str := ["__name__", "ConsolError", "TooLarge", "InvalidSystem", "UnknownLet", "UnknownBond", "NotStraight", "MissingFact", "MissingRate", "NoSingleRate", "DivisionByZero", "NONE", "UNIT", "fraction", "plus", "opposite", "minus", "times", "over", "order", "sign", "smaller", "greater", "TIMED", "HUNDREDTH", "History", "let_of", "combined", "combined_evaluate", "let_value"]
def loose1 : List PySem.Str := ["evaluated", "value", "MOST", "width_of", "check_rows", "check_system", "with_row_removed", "swept", "kernel_of", "kernel", "solve", "NO_FORM", "scaled", "added", "multiplied", "chosen", "combined_rings", "Reader", "form_of", "bond_named", "earlier", "ring_system", "ring_rates", "Bond", "_law_deck", "_law_draw", "_law_same", "_law_same_list", "_law_gcd", "_law_ratio"]
def loose2 : List PySem.Str := ["_law_add", "_law_times", "_law_minus", "_law_order", "_law_total", "_law_dot", "_law_eliminated", "_law_bond", "_law_truth", "_law_plain", "_law_value", "_law_joined", "_law_form", "_law_world", "_law_bonds", "_law_ring_answer", "_law_linear", "_law_told"]
def looseL : List PySem.Str := loose0 ++ loose1 ++ loose2
/-- the objects that the walk's facts lie in -/
def as0 : List Addr := [3, 6, 4, 52, 72, 91, 110, 129, 148, 167, 186, 205, 217, 220, 221, 229, 236, 243, 250, 257, 264, 271, 278, 285, 292, 293, 294, 332, 343, 448, 350, 357, 364, 371, 378, 383, 390, 395, 400, 405]
def as1 : List Addr := [412, 417, 422, 427, 434, 441, 484, 495, 502, 507, 512, 517, 534, 545, 552, 559, 566, 573, 580, 587, 594, 601, 608, 615, 620, 625, 632, 639, 646, 651, 658, 663, 668, 673, 678, 685, 692, 697, 0, 51]
def as2 : List Addr := [71, 90, 109, 128, 147, 166, 185, 204, 216, 228, 222, 235, 242, 249, 256, 263, 270, 277, 284, 291, 331, 342, 447, 349, 356, 363, 370, 377, 382, 389, 394, 399, 404, 411, 416, 421, 426, 433, 440, 483]
def as3 : List Addr := [494, 501, 506, 511, 516, 533, 544, 551, 558, 565, 572, 579, 586, 593, 600, 607, 614, 619, 624, 631, 638, 645, 650, 657, 662, 667, 672, 677, 684, 691, 696, 50, 53, 69, 70, 88, 89, 107, 108, 126]
def as4 : List Addr := [127, 145, 146, 164, 165, 183, 184, 202, 203, 215, 223, 224, 225, 226, 227, 230, 231, 232, 233, 234, 237, 238, 239, 240, 241, 244, 245, 246, 247, 248, 251, 252, 253, 254, 255, 258, 259, 260, 261, 262]
def as5 : List Addr := [265, 266, 267, 268, 269, 272, 273, 274, 275, 276, 279, 280, 281, 282, 283, 286, 287, 288, 289, 290, 308, 315, 322, 329, 330, 333, 334, 337, 338, 339, 340, 341, 442, 443, 444, 445, 446, 344, 345, 346]
def as6 : List Addr := [347, 348, 351, 352, 353, 354, 355, 358, 359, 360, 361, 362, 365, 366, 367, 368, 369, 372, 373, 374, 375, 376, 379, 380, 381, 384, 385, 386, 387, 388, 391, 392, 393, 396, 397, 398, 401, 402, 403, 406]
def as7 : List Addr := [407, 408, 409, 410, 413, 414, 415, 418, 419, 420, 423, 424, 425, 428, 429, 430, 431, 432, 435, 436, 437, 438, 439, 460, 467, 474, 481, 482, 485, 486, 489, 490, 491, 492, 493, 496, 497, 498, 499, 500]
def as8 : List Addr := [503, 504, 505, 508, 509, 510, 513, 514, 515, 531, 532, 535, 536, 539, 540, 541, 542, 543, 546, 547, 548, 549, 550, 553, 554, 555, 556, 557, 560, 561, 562, 563, 564, 567, 568, 569, 570, 571, 574, 575]
def as9 : List Addr := [576, 577, 578, 581, 582, 583, 584, 585, 588, 589, 590, 591, 592, 595, 596, 597, 598, 599, 602, 603, 604, 605, 606, 609, 610, 611, 612, 613, 616, 617, 618, 621, 622, 623, 626, 627, 628, 629, 630, 633]
def as10 : List Addr := [634, 635, 636, 637, 640, 641, 642, 643, 644, 647, 648, 649, 652, 653, 654, 655, 656, 659, 660, 661, 664, 665, 666, 669, 670, 671, 674, 675, 676, 679, 680, 681, 682, 683, 686, 687, 688, 689, 690, 693]
def as11 : List Addr := [694, 695, 68, 87, 106, 125, 144, 163, 182, 201, 307, 314, 321, 328, 459, 466, 473, 480, 530]
def asL : List Addr := as0 ++ as1 ++ as2 ++ as3 ++ as4 ++ as5 ++ as6 ++ as7 ++ as8 ++ as9 ++ as10 ++ as11
def frK (g : Addr → Option Obj) : PySem.W.Frag := He.frG g asL
def obK (K : PySem.W.Frag) : Bool × He.AlD := (moreB K, He.obsD faL fnL K)
def hkT : PySem.W.Hook where
  α := Bool × He.AlD
  obs := fun s => obK (frK s.heap.get?)
  val := fun _ => (true, He.valD fnL)
  says := fun _ h => ∃ K : PySem.W.Frag, K.In h ∧ moreB K = true ∧ He.SaysD faL fnL K
  of := fun _ _ e => ⟨_, He.frG_in, congrArg (fun z : Bool × He.AlD => z.1) e, congrArg (fun z : Bool × He.AlD => z.2) e⟩
  keeps := fun _ _ _ ⟨K, hK, c⟩ k => ⟨K, PySem.W.Frag.In.keeps hK k, c⟩
def obT (s : PySem.W.SharedT) : Bool × He.AlD := obK (frK (HandSHeadRun.getT s))
theorem obT_eq (s : PySem.W.SharedT) : obT s = hkT.obs s.abs := by
  have e : HandSHeadRun.getT s = s.abs.heap.get? := funext fun a => HandSHeadRun.getT_eq s a
  unfold obT
  rw [e] <;> rfl
noncomputable abbrev endO (w : World) := HandSHeadRun.wholeF (fun p => HandSHeadRun.stepQ (HandSHeadRun.denQ HandSHeadRun.tabQ) p w) HandSHeadRun.fenceQ 6000 LR.prog
theorem run1 (w : World) : (endO w).map (fun x => (HandSHeadRun.looksF LR.prog x.1.heap x.2.abs, HandSHeadRun.seenQ LQ looseL (PySem.importedModules LR.prog.main.body) (fun s => PySem.W.xlAt LQ [] s && PySem.W.recOk LR.toRowW.records s) x.2.abs)) = some (true, PySem.W.openGood LQ looseL) := by
  kernel_rfl
theorem run2 (w : World) : (endO w).map (fun x => obT x.2) = some (true, He.valD fnL) := by
  kernel_rfl
theorem opt3 {A B C D : Type} {o : Option A} {f : A → B} {g : A → C} {h : A → D} {b : B} {c : C} {d : D} (e1 : o.map (fun x => (f x, g x)) = some (b, c)) (e2 : o.map (fun x => h x) = some d) : o.map (fun x => (f x, g x, h x)) = some (b, c, d) := by
  cases o with
  | none => cases e1
  | some x =>
    have e1 : some (f x, g x) = some (b, c) := e1
    have e2 : some (h x) = some d := e2
    injection e1 with e1
    injection e1 with e3 e4
    injection e2 with e2
    show some (f x, g x, h x) = some (b, c, d)
    rw [e3, e4, e2]
theorem runL (w : World) : HandSHeadRun.RunEqI LR LQ hkT obT 6000 looseL w := opt3 (run1 w) (run2 w)
theorem txt_of {K : PySem.W.Frag} {mg : Str → Option Value} {h : Heap} (X : K.In h) (G : h.Ns mainGlobals mg) (m : moreB K = true) (c : He.SaysD faL fnL K) : Txt K mg := by
  refine ⟨⟨h, X, G⟩, fun f hf => ?_, fun d hd => ?_, m⟩
  · obtain ⟨i, hi, e⟩ := List.mem_iff_getElem.mp hf
    exact c.fact i (f := f) (by rw [List.getElem?_eq_getElem hi, e])
  · obtain ⟨i, hi, e⟩ := List.mem_iff_getElem.mp hd
    exact c.def_ i (d := d) (by rw [List.getElem?_eq_getElem hi, e])
end K3
end
section
set_option linter.all false
set_option maxRecDepth 100000
set_option exponentiation.threshold 100
/-! Plain mathematics 1: fractions in lowest terms, Euclid in a fixed number of turns, sizes. -/
namespace K3
theorem frac_pos (p q : Int) (hq : 0 < q) : p / ((Nat.gcd p.natAbs q.natAbs : Nat) : Int) = (Rat.divInt p q).num ∧ q / ((Nat.gcd p.natAbs q.natAbs : Nat) : Int) = ((Rat.divInt p q).den : Int) := by
  have hg : (q.gcd p : Nat) = Nat.gcd p.natAbs q.natAbs := by rw [Int.gcd_comm]; rfl
  constructor
  · rw [Rat.num_divInt, hg, Int.sign_eq_one_of_pos hq, Int.one_mul]
  · rw [Rat.den_divInt, if_neg (by omega), hg]
    have e : ((q.natAbs : Nat) : Int) = q := Int.natAbs_of_nonneg (by omega)
    rw [Int.natCast_ediv, e]
theorem frac_neg (p q : Int) (hq : q < 0) : -p / ((Nat.gcd p.natAbs q.natAbs : Nat) : Int) = (Rat.divInt p q).num ∧ -q / ((Nat.gcd p.natAbs q.natAbs : Nat) : Int) = ((Rat.divInt p q).den : Int) := by
  have h := frac_pos (-p) (-q) (by omega)
  rw [Rat.neg_divInt_neg, Int.natAbs_neg, Int.natAbs_neg] at h
  exact h
theorem gcd_pos' (p q : Int) (hq : q ≠ 0) : (0 : Int) < ((Nat.gcd p.natAbs q.natAbs : Nat) : Int) := by
  have : 0 < Nat.gcd p.natAbs q.natAbs := Nat.gcd_pos_of_pos_right _ (by omega)
  omega
theorem gcd_le' (p q : Int) (hq : q ≠ 0) : ((Nat.gcd p.natAbs q.natAbs : Nat) : Int).natAbs ≤ q.natAbs := by
  have : Nat.gcd p.natAbs q.natAbs ≤ q.natAbs := Nat.le_of_dvd (by omega) (Nat.gcd_dvd_right _ _)
  omega
theorem add_same (x y : Rat) (h : (x.den : Int) = (y.den : Int)) : Rat.divInt (x.num + y.num) x.den = x + y := by
  have hx : (x.den : Int) ≠ 0 := by have := x.den_nz; omega
  have e1 := Rat.num_divInt_den x
  have e2 := Rat.num_divInt_den y
  rw [← h] at e2
  conv => rhs; rw [← e1, ← e2]
  rw [Rat.divInt_add_divInt _ _ hx hx, Rat.divInt_eq_divInt_iff hx (Int.mul_ne_zero hx hx), ← Int.add_mul, Int.mul_assoc]
theorem add_gen (x y : Rat) : Rat.divInt (x.num * y.den + y.num * x.den) (x.den * y.den) = x + y := by
  have hx : (x.den : Int) ≠ 0 := by have := x.den_nz; omega
  have hy : (y.den : Int) ≠ 0 := by have := y.den_nz; omega
  conv => rhs; rw [← Rat.num_divInt_den x, ← Rat.num_divInt_den y]
  rw [Rat.divInt_add_divInt _ _ hx hy]
theorem mul_gen (x y : Rat) : Rat.divInt (x.num * y.num) (x.den * y.den) = x * y := by
  conv => rhs; rw [← Rat.num_divInt_den x, ← Rat.num_divInt_den y]
  rw [Rat.divInt_mul_divInt]
theorem div_gen (x y : Rat) : Rat.divInt (x.num * y.den) (x.den * y.num) = x / y := by
  conv => rhs; rw [Rat.div_def, ← Rat.num_divInt_den x, ← Rat.num_divInt_den y, Rat.inv_divInt]
  rw [Rat.divInt_mul_divInt]
theorem den_pos (x : Rat) : (0 : Int) < (x.den : Int) := by have := x.den_nz; omega
theorem den_ne (x : Rat) : (x.den : Int) ≠ 0 := by have := x.den_nz; omega
theorem num_zero (x : Rat) : x.num = 0 ↔ x = 0 := Rat.num_eq_zero
theorem rat_lt (x y : Rat) : x.num * y.den < y.num * x.den ↔ x < y := (Rat.lt_iff x y).symm
theorem rat_le (x y : Rat) : x.num * y.den ≤ y.num * x.den ↔ x ≤ y := (Rat.le_iff x y).symm
theorem num_eq0 (p q : Int) (hq : q ≠ 0) : Rat.divInt p q = 0 ↔ p = 0 := by
  constructor
  · intro h
    have h1 : Rat.divInt p q = Rat.divInt 0 1 := by rw [h]; rfl
    rw [Rat.divInt_eq_divInt_iff hq (by decide)] at h1
    omega
  · intro h
    rw [h]
    simp

/-! ### Euclid in n turns -/
def eg : Nat → Nat → Nat → Nat
  | 0, a, _ => a
  | n + 1, a, b => if b = 0 then a else eg n b (a % b)
/-- fb n: below it n turns are enough -/
def fb : Nat → Nat
  | 0 => 1
  | 1 => 2
  | n + 2 => fb (n + 1) + fb n
theorem fb_pos : ∀ n, 0 < fb n
  | 0 => by decide
  | 1 => by decide
  | n + 2 => by have := fb_pos (n + 1); have := fb_pos n; unfold fb; omega
theorem fb_step (n : Nat) : fb (n + 2) = fb (n + 1) + fb n := rfl
theorem fb_mono (n : Nat) : fb n ≤ fb (n + 1) := by
  cases n with
  | zero => decide
  | succ n => have := fb_pos n; rw [fb_step]; omega
/-- with a common divisor g: b = g * b', b' < fb n -/
theorem eg_ok : ∀ (n g a b : Nat), 0 < g → g * b < g * fb n → eg n (g * a) (g * b) = Nat.gcd (g * a) (g * b) ∧ (b ≠ 0 → g * (a % b) < g * fb n → True)
  | 0, g, a, b, hg, h => by
    refine ⟨?_, fun _ _ => trivial⟩
    have hb : b < 1 := Nat.lt_of_mul_lt_mul_left h
    have : b = 0 := by omega
    subst this
    simp [eg]
  | 1, g, a, b, hg, h => by
    refine ⟨?_, fun _ _ => trivial⟩
    have hb : b < 2 := Nat.lt_of_mul_lt_mul_left h
    by_cases h0 : b = 0
    · subst h0; simp [eg]
    · have : b = 1 := by omega
      subst this
      rw [eg, if_neg (by omega)]
      show g * 1 = _
      rw [Nat.gcd_comm, Nat.mul_one]
      exact (Nat.gcd_eq_left (Nat.dvd_mul_right g a)).symm
  | n + 2, g, a, b, hg, h => by
    refine ⟨?_, fun _ _ => trivial⟩
    have hb : b < fb (n + 2) := Nat.lt_of_mul_lt_mul_left h
    by_cases h0 : b = 0
    · subst h0; simp [eg]
    · have hgb : g * b ≠ 0 := Nat.mul_ne_zero (by omega) h0
      rw [eg, if_neg hgb, Nat.mul_mod_mul_left, Nat.gcd_comm (g * a), Nat.gcd_rec, Nat.mul_mod_mul_left, Nat.gcd_comm]
      by_cases h1 : a % b < fb (n + 1)
      · exact (eg_ok (n + 1) g b (a % b) hg (Nat.mul_lt_mul_of_pos_left h1 hg)).1
      · have hr0 : a % b ≠ 0 := by have := fb_pos (n + 1); omega
        have hrb : a % b < b := Nat.mod_lt _ (by omega)
        have hgr : g * (a % b) ≠ 0 := Nat.mul_ne_zero (by omega) hr0
        have h2 : b % (a % b) < fb n := by
          have e : b % (a % b) ≤ b - a % b := by
            rw [Nat.mod_eq_sub_mod (by omega)]
            exact Nat.mod_le _ _
          have := fb_step n
          omega
        rw [eg, if_neg hgr, Nat.mul_mod_mul_left, Nat.gcd_comm (g * b), Nat.gcd_rec, Nat.mul_mod_mul_left, Nat.gcd_comm]
        exact (eg_ok n g (a % b) (b % (a % b)) hg (Nat.mul_lt_mul_of_pos_left h2 hg)).1
theorem fb_three (n : Nat) : 4 * fb n ≤ fb (n + 3) ∧ 4 * fb (n + 1) ≤ fb (n + 4) := by
  induction n with
  | zero => decide
  | succ n ih =>
    obtain ⟨h1, h2⟩ := ih
    refine ⟨h2, ?_⟩
    have e1 : fb (n + 5) = fb (n + 4) + fb (n + 3) := rfl
    have e2 : fb (n + 2) = fb (n + 1) + fb n := rfl
    show 4 * fb (n + 2) ≤ fb (n + 5)
    omega
theorem fb_big : ∀ k : Nat, 4 ^ k ≤ fb (3 * k)
  | 0 => by decide
  | k + 1 => by
    have h := fb_big k
    have h2 := (fb_three (3 * k)).1
    have e : 3 * (k + 1) = 3 * k + 3 := by omega
    rw [e, Nat.pow_succ]
    omega
theorem fb_5000 : 2 ^ 3332 ≤ fb 5000 := by
  have h := fb_big 1666
  have e : (4 : Nat) ^ 1666 = 2 ^ 3332 := by
    rw [show (4 : Nat) = 2 ^ 2 from rfl, ← Nat.pow_mul]
  rw [e] at h
  have h2 : fb 4998 ≤ fb 4999 := fb_mono 4998
  have h3 : fb 4999 ≤ fb 5000 := fb_mono 4999
  have h4 : fb (3 * 1666) = fb 4998 := rfl
  omega
/-- the law's loop finds the divisor where the reduced denominator is small -/
theorem eg_frac (p q : Int) (hq : 0 < q) (h : (Rat.divInt p q).den < 2 ^ 3332) : eg 5000 p.natAbs q.natAbs = Nat.gcd p.natAbs q.natAbs := by
  have hgp : 0 < Nat.gcd p.natAbs q.natAbs := Nat.gcd_pos_of_pos_right _ (by omega)
  obtain ⟨a, ha⟩ := Nat.gcd_dvd_left p.natAbs q.natAbs
  obtain ⟨b, hb⟩ := Nat.gcd_dvd_right p.natAbs q.natAbs
  have hden : (Rat.divInt p q).den = b := by
    have hg : (q.gcd p : Nat) = Nat.gcd p.natAbs q.natAbs := by rw [Int.gcd_comm]; rfl
    rw [Rat.den_divInt, if_neg (by omega), hg]
    exact Nat.div_eq_of_eq_mul_right hgp hb
  have hbl : b < fb 5000 := by
    rw [hden] at h
    exact Nat.lt_of_lt_of_le h fb_5000
  have key := (eg_ok 5000 (Nat.gcd p.natAbs q.natAbs) a b hgp (Nat.mul_lt_mul_of_pos_left hbl hgp)).1
  rw [← ha, ← hb] at key
  exact key

/-! ### sizes -/
/-- the numerator has at most a binary places, the denominator at most c -/
def Bt (a c : Nat) (x : Rat) : Prop := x.num.natAbs ≤ 2 ^ a ∧ x.den ≤ 2 ^ c
theorem Bt.mono {a c a' c' : Nat} {x : Rat} (h : Bt a c x) (ha : a ≤ a') (hc : c ≤ c') : Bt a' c' x :=
  ⟨Nat.le_trans h.1 (Nat.pow_le_pow_right (by decide) ha), Nat.le_trans h.2 (Nat.pow_le_pow_right (by decide) hc)⟩
theorem bt_div {p q : Int} (hq : q ≠ 0) {a c : Nat} (hp : p.natAbs ≤ 2 ^ a) (hc : q.natAbs ≤ 2 ^ c) : Bt a c (Rat.divInt p q) := by
  have hg : (q.gcd p : Nat) = Nat.gcd p.natAbs q.natAbs := by rw [Int.gcd_comm]; rfl
  refine ⟨?_, ?_⟩
  · rcases Int.lt_or_gt_of_ne hq with h | h
    · rw [← (frac_neg p q h).1]
      refine Nat.le_trans ?_ hp
      have := Int.natAbs_ediv_le_natAbs (-p) ((Nat.gcd p.natAbs q.natAbs : Nat) : Int)
      rw [Int.natAbs_neg] at this
      exact this
    · rw [← (frac_pos p q h).1]
      exact Nat.le_trans (Int.natAbs_ediv_le_natAbs _ _) hp
  · rw [Rat.den_divInt, if_neg hq]
    exact Nat.le_trans (Nat.div_le_self _ _) hc
theorem natAbs_mul_le {i j : Int} {a b : Nat} (hi : i.natAbs ≤ 2 ^ a) (hj : j.natAbs ≤ 2 ^ b) : (i * j).natAbs ≤ 2 ^ (a + b) := by
  rw [Int.natAbs_mul, Nat.pow_add]
  exact Nat.mul_le_mul hi hj
theorem natAbs_den {x : Rat} {c : Nat} (h : x.den ≤ 2 ^ c) : ((x.den : Nat) : Int).natAbs ≤ 2 ^ c := h
theorem bt_mul {a c a' c' : Nat} {x y : Rat} (hx : Bt a c x) (hy : Bt a' c' y) : Bt (a + a') (c + c') (x * y) := by
  rw [← mul_gen]
  exact bt_div (Int.mul_ne_zero (den_ne x) (den_ne y)) (natAbs_mul_le hx.1 hy.1) (natAbs_mul_le (natAbs_den hx.2) (natAbs_den hy.2))
theorem natAbs_add_le {i j : Int} {a b : Nat} (hi : i.natAbs ≤ 2 ^ a) (hj : j.natAbs ≤ 2 ^ b) : (i + j).natAbs ≤ 2 ^ (max a b + 1) := by
  have h1 : i.natAbs ≤ 2 ^ (max a b) := Nat.le_trans hi (Nat.pow_le_pow_right (by decide) (Nat.le_max_left a b))
  have h2 : j.natAbs ≤ 2 ^ (max a b) := Nat.le_trans hj (Nat.pow_le_pow_right (by decide) (Nat.le_max_right a b))
  have h3 := Int.natAbs_add_le i j
  rw [Nat.pow_succ]
  omega
theorem bt_add {a c a' c' : Nat} {x y : Rat} (hx : Bt a c x) (hy : Bt a' c' y) : Bt (max (a + c') (a' + c) + 1) (c + c') (x + y) := by
  rw [← add_gen]
  exact bt_div (Int.mul_ne_zero (den_ne x) (den_ne y)) (natAbs_add_le (natAbs_mul_le hx.1 (natAbs_den hy.2)) (natAbs_mul_le hy.1 (natAbs_den hx.2))) (natAbs_mul_le (natAbs_den hx.2) (natAbs_den hy.2))
theorem bt_neg {a c : Nat} {x : Rat} (hx : Bt a c x) : Bt a c (-x) := by
  refine ⟨?_, ?_⟩
  · rw [Rat.neg_num, Int.natAbs_neg]; exact hx.1
  · rw [Rat.neg_den]; exact hx.2
theorem bt_sub {a c a' c' : Nat} {x y : Rat} (hx : Bt a c x) (hy : Bt a' c' y) : Bt (max (a + c') (a' + c) + 1) (c + c') (x - y) := by
  rw [Rat.sub_eq_add_neg]
  exact bt_add hx (bt_neg hy)
theorem bt_inv {a c : Nat} {x : Rat} (hx : Bt a c x) : Bt c a x⁻¹ := by
  by_cases h : x.num = 0
  · have : x = 0 := (num_zero x).1 h
    subst this
    rw [Rat.inv_zero]
    exact ⟨Nat.zero_le _, Nat.one_le_two_pow⟩
  · refine ⟨?_, ?_⟩
    · rw [Rat.num_inv, Int.natAbs_mul]
      have h1 : x.num.sign.natAbs ≤ 1 := by
        rcases Int.lt_or_gt_of_ne h with q | q
        · rw [Int.sign_eq_neg_one_of_neg q]; decide
        · rw [Int.sign_eq_one_of_pos q]; decide
      have h2 : ((x.den : Nat) : Int).natAbs ≤ 2 ^ c := hx.2
      calc x.num.sign.natAbs * ((x.den : Nat) : Int).natAbs ≤ 1 * ((x.den : Nat) : Int).natAbs := Nat.mul_le_mul_right _ h1
        _ ≤ 2 ^ c := by rw [Nat.one_mul]; exact h2
    · rw [Rat.den_inv, if_neg h]
      exact hx.1
theorem bt_quot {a c a' c' : Nat} {x y : Rat} (hx : Bt a c x) (hy : Bt a' c' y) : Bt (a + c') (c + a') (x / y) := by
  rw [Rat.div_def]
  exact bt_mul hx (bt_inv hy)
theorem bt_zero : Bt 0 0 0 := ⟨by decide, by decide⟩
theorem bt_one : Bt 0 0 1 := ⟨by decide, by decide⟩
/-- small enough for every step of both programs -/
def Sm (x : Rat) : Prop := Bt 4400 4400 x
def Sl (x : Rat) : Prop := x.den < 2 ^ 3332
theorem Sm.of {a c : Nat} {x : Rat} (h : Bt a c x) (ha : a ≤ 4400) (hc : c ≤ 4400) : Sm x := h.mono ha hc
theorem Sl.of {a c : Nat} {x : Rat} (h : Bt a c x) (hc : c ≤ 3331) : Sl x :=
  Nat.lt_of_le_of_lt (Nat.le_trans h.2 (Nat.pow_le_pow_right (by decide) hc)) (Nat.pow_lt_pow_right (by decide) (by decide))
end K3
end
section
set_option linter.all false
set_option maxRecDepth 100000
/-! Plain mathematics 2: elimination. -/
namespace K3
abbrev Row := List Rat
/-- the sum of the items times z -/
def dot : Row → (Nat → Rat) → Rat
  | [], _ => 0
  | a :: r, z => a * z 0 + dot r fun i => z (i + 1)
def at0 (r : Row) (j : Nat) : Rat := r.getD j 0
/-- the row minus the multiple of ch that makes it 0 at c, where ch is 1 there -/
def el (c : Nat) (ch row : Row) : Row := List.zipWith (fun a b => a - at0 row c * b) row ch
def sc (c : Nat) (r : Row) : Row := r.map (· / at0 r c)
/-- the first row that is not 0 at c, and the others -/
def pick (c : Nat) : List Row → Option (Row × List Row)
  | [] => none
  | r :: R => if at0 r c ≠ 0 then some (r, R) else (pick c R).map fun q => (q.1, r :: q.2)
abbrev St3 := List Row × List Row × List Nat
def sweep1 (c : Nat) (s : St3) : St3 := match pick c s.2.1 with
  | none => s
  | some (r, R') => (s.1.map (el c (sc c r)) ++ [sc c r], R'.map (el c (sc c r)), s.2.2 ++ [c])
def sweep (T : List Row) : Nat → St3
  | 0 => ([], T, [])
  | n + 1 => sweep1 n (sweep T n)
/-! ### sums -/
theorem dot_zipSub : ∀ (k : Rat) (a b : Row) (z : Nat → Rat), a.length = b.length → dot (List.zipWith (fun x y => x - k * y) a b) z = dot a z - k * dot b z
  | k, [], [], z, _ => by simp [dot]; grind
  | k, x :: a, y :: b, z, h => by
    have ih := dot_zipSub k a b (fun i => z (i + 1)) (by simpa using h)
    simp only [List.zipWith_cons_cons, dot, ih]
    grind
  | k, [], _ :: _, z, h => by simp at h
  | k, _ :: _, [], z, h => by simp at h
theorem dot_map_div (k : Rat) : ∀ (a : Row) (z : Nat → Rat), dot (a.map (· / k)) z = dot a z / k
  | [], z => by simp [dot, Rat.div_def]
  | x :: a, z => by
    have ih := dot_map_div k a (fun i => z (i + 1))
    simp only [List.map_cons, dot, ih]
    simp only [Rat.div_def]
    grind
theorem dot_app : ∀ (a b : Row) (z : Nat → Rat), dot (a ++ b) z = dot a z + dot b fun i => z (i + a.length)
  | [], b, z => by simp [dot]; grind
  | x :: a, b, z => by
    have ih := dot_app a b (fun i => z (i + 1))
    have e : (fun i => z (i + (x :: a).length)) = fun i => z (i + a.length + 1) := by funext i; rw [List.length_cons]; rfl
    simp only [List.cons_append, dot, ih, e]
    grind
theorem dot_zero : ∀ (a : Row) (z : Nat → Rat), (∀ j, j < a.length → at0 a j = 0 ∨ z j = 0) → dot a z = 0
  | [], z, _ => rfl
  | x :: a, z, h => by
    have ih := dot_zero a (fun i => z (i + 1)) fun j hj => by
      have := h (j + 1) (by simp; omega)
      simpa [at0] using this
    have h0 := h 0 (by simp)
    simp only [dot, ih]
    rcases h0 with h0 | h0
    · have : x = 0 := by simpa [at0] using h0
      rw [this]; grind
    · rw [h0]; grind
theorem dot_congr : ∀ (a : Row) (z z' : Nat → Rat), (∀ j, j < a.length → z j = z' j) → dot a z = dot a z'
  | [], _, _, _ => rfl
  | x :: a, z, z', h => by
    have ih := dot_congr a (fun i => z (i + 1)) (fun i => z' (i + 1)) fun j hj => h (j + 1) (by simp; omega)
    simp only [dot, ih, h 0 (by simp)]
/-- one place changed -/
def updz (z : Nat → Rat) (p : Nat) (v : Rat) : Nat → Rat := fun j => if j = p then v else z j
theorem dot_updz : ∀ (a : Row) (z : Nat → Rat) (p : Nat) (v : Rat), dot a (updz z p v) = dot a z + at0 a p * (v - z p)
  | [], z, p, v => by simp [dot, at0]; grind
  | x :: a, z, 0, v => by
    have e : (fun i => updz z 0 v (i + 1)) = fun i => z (i + 1) := by funext i; simp [updz]
    simp only [dot, e]
    have : updz z 0 v 0 = v := by simp [updz]
    rw [this]
    simp only [at0, List.getD_cons_zero]
    grind
  | x :: a, z, p + 1, v => by
    have e : (fun i => updz z (p + 1) v (i + 1)) = updz (fun i => z (i + 1)) p v := by funext i; simp [updz]
    have ih := dot_updz a (fun i => z (i + 1)) p v
    simp only [dot, e, ih]
    have : updz z (p + 1) v 0 = z 0 := by simp [updz]
    rw [this]
    simp only [at0, List.getD_cons_succ]
    grind
theorem at0_of {r : Row} {j : Nat} {x : Rat} (h : r[j]? = some x) : at0 r j = x := by simp [at0, h]
theorem at0_lt {r : Row} {j : Nat} (h : j < r.length) : r[j]? = some (at0 r j) := by simp [at0, h]
theorem at0_sc (c : Nat) (r : Row) (j : Nat) : at0 (sc c r) j = at0 r j / at0 r c := by
  unfold sc
  generalize at0 r c = k
  unfold at0
  rw [List.getD_eq_getElem?_getD, List.getElem?_map, List.getD_eq_getElem?_getD]
  cases r[j]? with
  | none => simp [Rat.div_def]
  | some x => simp
theorem at0_el (c : Nat) (ch row : Row) (h : row.length = ch.length) (j : Nat) : at0 (el c ch row) j = at0 row j - at0 row c * at0 ch j := by
  unfold el
  generalize at0 row c = k
  unfold at0
  rw [List.getD_eq_getElem?_getD, List.getElem?_zipWith, List.getD_eq_getElem?_getD, List.getD_eq_getElem?_getD]
  by_cases hj : j < row.length
  · rw [List.getElem?_eq_getElem hj, List.getElem?_eq_getElem (by omega)]
    simp
  · rw [List.getElem?_eq_none (by omega), List.getElem?_eq_none (by omega)]
    simp; grind
theorem dot_sc (c : Nat) (r : Row) (z : Nat → Rat) : dot (sc c r) z = dot r z / at0 r c := dot_map_div _ _ _
theorem dot_el (c : Nat) (ch row : Row) (h : row.length = ch.length) (z : Nat → Rat) : dot (el c ch row) z = dot row z - at0 row c * dot ch z := dot_zipSub _ _ _ _ h
theorem len_sc (c : Nat) (r : Row) : (sc c r).length = r.length := by simp [sc]
theorem len_el (c : Nat) (ch row : Row) (h : row.length = ch.length) : (el c ch row).length = row.length := by simp [el]; omega
theorem pick_perm : ∀ (c : Nat) (R : List Row) (r : Row) (R' : List Row), pick c R = some (r, R') → at0 r c ≠ 0 ∧ R.Perm (r :: R')
  | c, [], _, _, h => by simp [pick] at h
  | c, q :: R, r, R', h => by
    unfold pick at h
    by_cases hq : at0 q c ≠ 0
    · rw [if_pos hq] at h
      cases h
      exact ⟨hq, List.Perm.refl _⟩
    · rw [if_neg hq] at h
      cases e : pick c R with
      | none => rw [e] at h; cases h
      | some p =>
        rw [e] at h
        obtain ⟨p1, p2⟩ := p
        cases h
        have ih := pick_perm c R p1 p2 e
        exact ⟨ih.1, (List.Perm.cons q ih.2).trans (List.Perm.swap _ _ _)⟩
theorem pick_none : ∀ (c : Nat) (R : List Row), pick c R = none → ∀ r ∈ R, at0 r c = 0
  | c, [], _, r, h => by cases h
  | c, q :: R, h, r, hr => by
    unfold pick at h
    by_cases hq : at0 q c ≠ 0
    · rw [if_pos hq] at h; cases h
    · rw [if_neg hq] at h
      cases e : pick c R with
      | none =>
        rcases List.mem_cons.mp hr with z | z
        · subst z; exact Classical.not_not.mp hq
        · exact pick_none c R e r z
      | some p => rw [e] at h; cases h

/-! ### one step of either elimination -/
structure Step (c : Nat) (D R : List Row) (P : List Nat) (D' R' : List Row) (P' : List Nat) : Prop where
  how : ((∀ r ∈ R, at0 r c = 0) ∧ D' = D ∧ R' = R ∧ P' = P) ∨
    ∃ r R2, at0 r c ≠ 0 ∧ R.Perm (r :: R2) ∧ D' = D.map (el c (sc c r)) ++ [sc c r] ∧ R' = R2.map (el c (sc c r)) ∧ P' = P ++ [c]
/-- what holds behind the columns below c -/
structure SI (W : Nat) (T : List Row) (c : Nat) (D R : List Row) (P : List Nat) : Prop where
  wD : ∀ r ∈ D, r.length = W
  wR : ∀ r ∈ R, r.length = W
  len : D.length = P.length
  tot : D.length + R.length = T.length
  lt : ∀ p ∈ P, p < c
  full : P.length = c → P = List.range c
  le : P.length ≤ c
  free : P.length < c → ∃ f, f < c ∧ f ∉ P
  nd : P.Nodup
  unit : ∀ (i j : Nat) (d : Row) (p : Nat), D[i]? = some d → P[j]? = some p → at0 d p = if i = j then 1 else 0
  zero : ∀ r ∈ R, ∀ q, q < c → at0 r q = 0
  same : ∀ z, (∀ r ∈ T, dot r z = 0) ↔ (∀ r ∈ D, dot r z = 0) ∧ (∀ r ∈ R, dot r z = 0)
theorem SI.start {W : Nat} {T : List Row} (h : ∀ r ∈ T, r.length = W) : SI W T 0 [] T [] :=
  { wD := by simp, wR := h, len := rfl, tot := by simp, lt := by simp, full := fun _ => rfl, le := Nat.le_refl _, free := by simp, nd := List.nodup_nil, unit := by simp,
    zero := fun _ _ q m => absurd m (Nat.not_lt_zero q), same := by simp }
theorem SI.step {W c : Nat} {T D R D' R' : List Row} {P P' : List Nat} (I : SI W T c D R P) (hc : c < W) (s : Step c D R P D' R' P') : SI W T (c + 1) D' R' P' := by
  rcases s.how with ⟨h0, rfl, rfl, rfl⟩ | ⟨r, R2, hr, hp, rfl, rfl, rfl⟩
  · exact ⟨I.wD, I.wR, I.len, I.tot, fun p m => Nat.lt_succ_of_lt (I.lt p m), fun e => by have := I.le; omega, by have := I.le; omega,
      fun _ => ⟨c, Nat.lt_succ_self c, fun m => absurd (I.lt c m) (Nat.lt_irrefl c)⟩, I.nd, I.unit, fun r m q hq => by
        rcases Nat.lt_succ_iff_lt_or_eq.mp hq with z | z
        · exact I.zero r m q z
        · subst z; exact h0 r m, I.same⟩
  · have hrR : r ∈ R := hp.symm.subset List.mem_cons_self
    have hR2 : ∀ q ∈ R2, q ∈ R := fun q m => hp.symm.subset (List.mem_cons_of_mem _ m)
    have wch : (sc c r).length = W := by rw [len_sc]; exact I.wR r hrR
    have ch1 : at0 (sc c r) c = 1 := by rw [at0_sc]; rw [Rat.div_def]; exact Rat.mul_inv_cancel _ hr
    have ch0 : ∀ q, q < c → at0 (sc c r) q = 0 := fun q hq => by rw [at0_sc, I.zero r hrR q hq, Rat.div_def, Rat.zero_mul]
    have eD : ∀ d ∈ D, (d.length = (sc c r).length) := fun d m => by rw [wch]; exact I.wD d m
    have eR : ∀ d ∈ R2, (d.length = (sc c r).length) := fun d m => by rw [wch]; exact I.wR d (hR2 d m)
    have hc0 : c ∉ P := fun m => absurd (I.lt c m) (Nat.lt_irrefl c)
    refine ⟨fun q m => ?_, fun q m => ?_, ?_, ?_, fun p m => ?_, fun e => ?_, ?_, fun hlt => ?_, ?_, fun i j d p hd hP => ?_, fun q m k hk => ?_, fun z => ?_⟩
    · rcases List.mem_append.mp m with m | m
      · obtain ⟨d, hd, rfl⟩ := List.mem_map.mp m
        rw [len_el _ _ _ (eD d hd)]; exact I.wD d hd
      · rw [List.mem_singleton.mp m]; exact wch
    · obtain ⟨d, hd, rfl⟩ := List.mem_map.mp m
      rw [len_el _ _ _ (eR d hd)]; exact I.wR d (hR2 d hd)
    · rw [List.length_append, List.length_append, List.length_map, I.len]; rfl
    · have h1 := hp.length_eq
      have h2 := I.tot
      rw [List.length_append, List.length_map, List.length_map]
      simp at h1 ⊢
      omega
    · rcases List.mem_append.mp m with m | m
      · exact Nat.lt_succ_of_lt (I.lt p m)
      · rw [List.mem_singleton.mp m]; exact Nat.lt_succ_self c
    · rw [List.length_append] at e
      have : P.length = c := by simpa using e
      rw [I.full this, List.range_succ]
    · rw [List.length_append]; have := I.le; simp; omega
    · rw [List.length_append] at hlt
      obtain ⟨f, h1, h2⟩ := I.free (by simpa using hlt)
      refine ⟨f, by omega, fun m => ?_⟩
      rcases List.mem_append.mp m with m | m
      · exact h2 m
      · have := List.mem_singleton.mp m; omega
    · exact List.nodup_append.mpr ⟨I.nd, by simp, fun a ha b hb => by rw [List.mem_singleton.mp hb]; exact fun e => hc0 (e ▸ ha)⟩
    · have lD : (D.map (el c (sc c r))).length = D.length := List.length_map ..
      by_cases hi : i < D.length
      · rw [List.getElem?_append_left (by omega), List.getElem?_map, List.getElem?_eq_getElem hi] at hd
        cases hd
        rw [at0_el _ _ _ (eD _ (List.getElem_mem hi))]
        by_cases hj : j < P.length
        · rw [List.getElem?_append_left hj] at hP
          rw [I.unit i j _ p (List.getElem?_eq_getElem hi) hP, ch0 p (I.lt p (List.mem_of_getElem? hP))]
          grind
        · have hlj : j < (P ++ [c]).length := (List.getElem?_eq_some_iff.mp hP).1
          rw [List.length_append] at hlj
          have ej : j = P.length := by simp at hlj; omega
          subst ej
          simp at hP
          subst hP
          rw [ch1, if_neg (by have := I.len; omega)]
          grind
      · have hli : i < (D.map (el c (sc c r)) ++ [sc c r]).length := (List.getElem?_eq_some_iff.mp hd).1
        rw [List.length_append, lD] at hli
        have ei : i = D.length := by simp at hli; omega
        subst ei
        rw [List.getElem?_append_right (by omega), lD] at hd
        simp at hd
        subst hd
        by_cases hj : j < P.length
        · rw [List.getElem?_append_left hj] at hP
          rw [ch0 p (I.lt p (List.mem_of_getElem? hP)), if_neg (by have := I.len; omega)]
        · have hlj : j < (P ++ [c]).length := (List.getElem?_eq_some_iff.mp hP).1
          rw [List.length_append] at hlj
          have ej : j = P.length := by simp at hlj; omega
          subst ej
          simp at hP
          subst hP
          rw [ch1, if_pos I.len]
    · obtain ⟨d, hd, rfl⟩ := List.mem_map.mp m
      rw [at0_el _ _ _ (eR d hd)]
      rcases Nat.lt_succ_iff_lt_or_eq.mp hk with z | z
      · rw [I.zero d (hR2 d hd) k z, ch0 k z]; grind
      · subst z; rw [ch1]; grind
    · rw [I.same z]
      have hrz : dot r z = 0 ↔ dot (sc c r) z = 0 := by
        rw [dot_sc]
        constructor
        · intro h; rw [h, Rat.div_def, Rat.zero_mul]
        · intro h
          have := Rat.div_mul_cancel (a := dot r z) hr
          rw [h, Rat.zero_mul] at this
          exact this.symm
      constructor
      · rintro ⟨h1, h2⟩
        have hz := hrz.1 (h2 r hrR)
        refine ⟨fun q m => ?_, fun q m => ?_⟩
        · rcases List.mem_append.mp m with m | m
          · obtain ⟨d, hd, rfl⟩ := List.mem_map.mp m
            rw [dot_el _ _ _ (eD d hd), h1 d hd, hz]; grind
          · rw [List.mem_singleton.mp m]; exact hz
        · obtain ⟨d, hd, rfl⟩ := List.mem_map.mp m
          rw [dot_el _ _ _ (eR d hd), h2 d (hR2 d hd), hz]; grind
      · rintro ⟨h1, h2⟩
        have hz : dot (sc c r) z = 0 := h1 _ (List.mem_append_right _ (List.mem_singleton.mpr rfl))
        refine ⟨fun d hd => ?_, fun q m => ?_⟩
        · have := h1 _ (List.mem_append_left _ (List.mem_map.mpr ⟨d, hd, rfl⟩))
          rw [dot_el _ _ _ (eD d hd), hz] at this
          grind
        · rcases List.mem_cons.mp (hp.subset m) with e | m2
          · rw [e]; exact hrz.2 hz
          · have := h2 _ (List.mem_map.mpr ⟨q, m2, rfl⟩)
            rw [dot_el _ _ _ (eR q m2), hz] at this
            grind
theorem step_sweep1 (c : Nat) (s : St3) : Step c s.1 s.2.1 s.2.2 (sweep1 c s).1 (sweep1 c s).2.1 (sweep1 c s).2.2 := by
  unfold sweep1
  cases e : pick c s.2.1 with
  | none => exact ⟨.inl ⟨pick_none c _ e, rfl, rfl, rfl⟩⟩
  | some p =>
    obtain ⟨r, R'⟩ := p
    have h := pick_perm c _ r R' e
    exact ⟨.inr ⟨r, R', h.1, h.2, rfl, rfl, rfl⟩⟩
theorem si_sweep {W : Nat} {T : List Row} (h : ∀ r ∈ T, r.length = W) : ∀ n, n ≤ W → SI W T n (sweep T n).1 (sweep T n).2.1 (sweep T n).2.2
  | 0, _ => SI.start h
  | n + 1, hn => (si_sweep h n (by omega)).step (by omega) (step_sweep1 n _)
end K3
end
section
set_option linter.all false
set_option maxRecDepth 100000
set_option exponentiation.threshold 100
/-! Plain mathematics 3: what elimination tells; sizes along it. -/
namespace K3
/-- T's rows begin with M's -/
structure Ext (n : Nat) (M T : List Row) : Prop where
  len : T.length = M.length
  w : ∀ m ∈ M, m.length = n
  at_ : ∀ (i : Nat) (m : Row), M[i]? = some m → ∃ ex, T[i]? = some (m ++ ex)
theorem Ext.refl {n : Nat} {M : List Row} (h : ∀ m ∈ M, m.length = n) : Ext n M M := ⟨rfl, h, fun i m e => ⟨[], by simpa using e⟩⟩
theorem Ext.zero {n : Nat} {M T : List Row} (x : Ext n M T) {z : Nat → Rat} (hz : ∀ j, n ≤ j → z j = 0) : (∀ r ∈ T, dot r z = 0) ↔ ∀ m ∈ M, dot m z = 0 := by
  have key : ∀ (m ex : Row), m.length = n → dot (m ++ ex) z = dot m z := fun m ex hm => by
    rw [dot_app, dot_zero ex _ fun j _ => .inr (hz _ (by omega))]
    grind
  constructor
  · intro h m hm
    obtain ⟨i, hi, e⟩ := List.mem_iff_getElem.mp hm
    obtain ⟨ex, e2⟩ := x.at_ i m (by rw [List.getElem?_eq_getElem hi, e])
    rw [← key m ex (x.w m hm)]
    exact h _ (List.mem_of_getElem? e2)
  · intro h r hr
    obtain ⟨i, hi, e⟩ := List.mem_iff_getElem.mp hr
    have hi2 : i < M.length := by rw [← x.len]; exact hi
    obtain ⟨ex, e2⟩ := x.at_ i M[i] (List.getElem?_eq_getElem hi2)
    rw [List.getElem?_eq_getElem hi, e] at e2
    cases e2
    rw [key _ ex (x.w _ (List.getElem_mem hi2))]
    exact h _ (List.getElem_mem hi2)
def KerTriv (n : Nat) (M : List Row) : Prop := ∀ w : Nat → Rat, (∀ m ∈ M, dot m w = 0) → ∀ j, j < n → w j = 0
section
variable {W n : Nat} {M T D R : List Row} {P : List Nat}
/-- a row that is the unit at k among the first n places -/
theorem dot_unit {d : Row} {z : Nat → Rat} {k : Nat} (hk : k < n) (hz : ∀ j, n ≤ j → z j = 0) (hd : ∀ j, j < n → at0 d j = if j = k then 1 else 0) : dot d z = z k := by
  have h0 : dot d (updz z k 0) = 0 := dot_zero d _ fun j _ => by
    by_cases hj : j < n
    · by_cases e : j = k
      · right; simp [updz, e]
      · left; rw [hd j hj, if_neg e]
    · right
      have : j ≠ k := by omega
      simp [updz, this, hz j (by omega)]
  rw [dot_updz, hd k hk, if_pos rfl] at h0
  grind
theorem SI.unit_full (I : SI W T n D R P) (h : P.length = n) {i : Nat} {d : Row} (hd : D[i]? = some d) : ∀ j, j < n → at0 d j = if j = i then 1 else 0 := fun j hj => by
  have hp : P[j]? = some j := by rw [I.full h]; simp [hj]
  rw [I.unit i j d j hd hp]
  by_cases e : i = j
  · rw [if_pos e, if_pos e.symm]
  · rw [if_neg e, if_neg (Ne.symm e)]
theorem ker_triv (I : SI W T n D R P) (x : Ext n M T) (h : P.length = n) : KerTriv n M := by
  intro w hw j hj
  let z : Nat → Rat := fun i => if i < n then w i else 0
  have hz : ∀ i, n ≤ i → z i = 0 := fun i hi => if_neg (by omega)
  have hM : ∀ m ∈ M, dot m z = 0 := fun m hm => by
    rw [← hw m hm]
    exact dot_congr m _ _ fun i hi => if_pos (by rw [x.w m hm] at hi; exact hi)
  have hD := ((I.same z).1 ((x.zero hz).2 hM)).1
  have hj2 : j < D.length := by rw [I.len, h]; exact hj
  have hd := List.getElem?_eq_getElem hj2
  have := hD _ (List.getElem_mem hj2)
  rw [dot_unit hj hz (I.unit_full h hd)] at this
  have e : z j = w j := if_pos hj
  rw [← e]; exact this
/-- the solution that a full elimination tells -/
theorem sol_ok (I : SI W T n D R P) (h : P.length = n) (hn : T.length = n) (hT : ∀ (i : Nat) (t : Row), T[i]? = some t → n < t.length) :
    ∀ (i : Nat) (t : Row), T[i]? = some t → dot (t.take n) (at0 (D.map fun d => at0 d n)) = at0 t n := by
  have lD : D.length = n := by rw [I.len, h]
  have hR : R = [] := by have := I.tot; have : R.length = 0 := by omega
                         exact List.eq_nil_of_length_eq_zero this
  let xs : Row := D.map fun d => at0 d n
  have lx : xs.length = n := by simp [xs, lD]
  let z : Nat → Rat := updz (fun j => at0 xs j) n (-1)
  let z0 : Nat → Rat := updz z n 0
  have hz0 : ∀ j, n ≤ j → z0 j = 0 := fun j hj => by
    by_cases e : j = n
    · simp [z0, updz, e]
    · simp [z0, z, updz, e, at0, List.getElem?_eq_none (show xs.length ≤ j by omega)]
  have zn : z n = -1 := by simp [z, updz]
  have hD : ∀ d ∈ D, dot d z = 0 := fun d hd => by
    obtain ⟨i, hi, e⟩ := List.mem_iff_getElem.mp hd
    have hi2 : i < n := by omega
    have e1 : dot d z0 = z0 i := dot_unit hi2 hz0 (I.unit_full h (by rw [List.getElem?_eq_getElem hi, e]))
    have e2 : z0 i = at0 d n := by
      have : i ≠ n := by omega
      simp [z0, z, updz, this, at0, xs, List.getElem?_eq_getElem hi, e]
    rw [dot_updz, zn, e2] at e1
    grind
  have hT0 := (I.same z).2 ⟨hD, by rw [hR]; simp⟩
  intro i t ht
  have h1 := hT0 t (List.mem_of_getElem? ht)
  have ln := hT i t ht
  have e3 : t = t.take n ++ (at0 t n :: t.drop (n + 1)) := by
    have e4 : at0 t n = t[n] := at0_of (List.getElem?_eq_getElem ln)
    rw [e4, ← List.drop_eq_getElem_cons ln, List.take_append_drop]
  have lt : (t.take n).length = n := by simp; omega
  have e5 : dot t z = dot (t.take n) z + (at0 t n * z n + dot (t.drop (n + 1)) fun i => z (i + 1 + n)) := by
    conv => lhs; rw [e3, dot_app, lt]
    simp only [dot, Nat.zero_add]
  have e6 : (dot (t.drop (n + 1)) fun i => z (i + 1 + n)) = 0 := dot_zero _ _ fun j _ => .inr (by
    have := hz0 (j + 1 + n) (by omega)
    have ne : j + 1 + n ≠ n := by omega
    simpa [z0, updz, ne] using this)
  have e7 : dot (t.take n) z = dot (t.take n) (at0 xs) := dot_congr _ _ _ fun j hj => by
    have : j ≠ n := by omega
    simp [z, updz, this]
  rw [h1, e6, e7, zn] at e5
  show dot (t.take n) (at0 xs) = at0 t n
  grind
/-! ### the kernel list -/
def kvF (f : Nat) : List (Row × Nat) → Row → Row
  | [], v => v
  | (d, p) :: l, v => kvF f l (v.set p (-(at0 d f)))
def kv (n f : Nat) (D : List Row) (P : List Nat) : Row := kvF f (D.zip P) ((List.replicate n 0).set f 1)
def sumK (row : Row) (f : Nat) : List (Row × Nat) → Rat
  | [] => 0
  | (d, p) :: l => at0 row p * at0 d f + sumK row f l
theorem len_kvF (f : Nat) : ∀ (l : List (Row × Nat)) (v : Row), (kvF f l v).length = v.length
  | [], v => rfl
  | (d, p) :: l, v => by rw [kvF, len_kvF f l]; simp
theorem at0_set (v : Row) (p : Nat) (a : Rat) (h : p < v.length) : at0 (v.set p a) = updz (at0 v) p a := by
  funext j
  show (List.set v p a).getD j 0 = if j = p then a else v.getD j 0
  rw [List.getD_eq_getElem?_getD, List.getD_eq_getElem?_getD]
  by_cases e : j = p
  · subst e; simp [h]
  · rw [List.getElem?_set_ne (Ne.symm e), if_neg e]
theorem dot_kvF (f : Nat) (row : Row) : ∀ (l : List (Row × Nat)) (v : Row), (∀ q ∈ l, q.2 < v.length) → (l.map (·.2)).Nodup → (∀ q ∈ l, at0 v q.2 = 0) → dot row (at0 (kvF f l v)) = dot row (at0 v) - sumK row f l
  | [], v, _, _, _ => by simp [kvF, sumK]; grind
  | (d, p) :: l, v, h1, h2, h3 => by
    have hp : p < v.length := h1 (d, p) List.mem_cons_self
    have h2 : (p :: l.map (·.2)).Nodup := h2
    obtain ⟨h4, h5⟩ := List.nodup_cons.mp h2
    have ih := dot_kvF f row l (v.set p (-(at0 d f))) (fun q m => by simpa using h1 q (List.mem_cons_of_mem _ m)) h5 fun q m => by
      rw [at0_set _ _ _ hp]
      have : q.2 ≠ p := fun e => h4 (e ▸ List.mem_map.mpr ⟨q, m, rfl⟩)
      simp [updz, this, h3 q (List.mem_cons_of_mem _ m)]
    rw [kvF, ih, at0_set _ _ _ hp, dot_updz, h3 (d, p) List.mem_cons_self, sumK]
    grind
theorem at0_kvF (f j : Nat) : ∀ (l : List (Row × Nat)) (v : Row), (∀ q ∈ l, q.2 ≠ j) → at0 (kvF f l v) j = at0 v j
  | [], v, _ => rfl
  | (d, p) :: l, v, h => by
    rw [kvF, at0_kvF f j l _ fun q m => h q (List.mem_cons_of_mem _ m)]
    have : p ≠ j := h (d, p) List.mem_cons_self
    unfold at0
    rw [List.getD_eq_getElem?_getD, List.getElem?_set_ne this, List.getD_eq_getElem?_getD]
theorem sumK_unit (row : Row) (f : Nat) : ∀ (D : List Row) (P : List Nat) (i : Nat) (d : Row), D.length = P.length → D[i]? = some d → (∀ (k p : Nat), P[k]? = some p → at0 row p = if i = k then 1 else 0) → sumK row f (D.zip P) = at0 d f
  | [], _, i, d, _, h, _ => by simp at h
  | _ :: _, [], _, _, h, _, _ => by simp at h
  | d0 :: D, p0 :: P, 0, d, hl, h, hu => by
    simp at h; subst h
    have h0 := hu 0 p0 (by simp)
    rw [if_pos rfl] at h0
    have rest : ∀ (D : List Row) (P : List Nat), (∀ (k p : Nat), P[k]? = some p → at0 row p = 0) → sumK row f (D.zip P) = 0 := by
      intro D
      induction D with
      | nil => intro P _; rfl
      | cons d D ih =>
        intro P hP
        cases P with
        | nil => rfl
        | cons p P =>
          show at0 row p * at0 d f + sumK row f (D.zip P) = 0
          rw [ih P fun k q e => hP (k + 1) q (by simpa using e), hP 0 p (by simp)]
          grind
    show at0 row p0 * at0 d0 f + sumK row f (D.zip P) = at0 d0 f
    rw [h0, rest D P fun k p e => by
      have := hu (k + 1) p (by simpa using e)
      rw [this, if_neg (by omega)]]
    grind
  | d0 :: D, p0 :: P, i + 1, d, hl, h, hu => by
    have h0 := hu 0 p0 (by simp)
    rw [if_neg (by omega)] at h0
    show at0 row p0 * at0 d0 f + sumK row f (D.zip P) = at0 d f
    rw [h0, sumK_unit row f D P i d (by simpa using hl) (by simpa using h) fun k p e => by
      have := hu (k + 1) p (by simpa using e)
      rw [this]
      by_cases e2 : i = k
      · rw [if_pos e2, if_pos (by omega)]
      · rw [if_neg e2, if_neg (by omega)]]
    grind
theorem sumK_zero (row : Row) (f : Nat) : ∀ (l : List (Row × Nat)), (∀ q ∈ l, at0 row q.2 = 0) → sumK row f l = 0
  | [], _ => rfl
  | (d, p) :: l, h => by
    rw [sumK, h (d, p) List.mem_cons_self, sumK_zero row f l fun q m => h q (List.mem_cons_of_mem _ m)]
    grind
theorem len_kv (n f : Nat) (D : List Row) (P : List Nat) : (kv n f D P).length = n := by simp [kv, len_kvF]
theorem kv_ok (I : SI W T n D R P) (x : Ext n M T) {f : Nat} (hf : f < n) (hfP : f ∉ P) : (∀ m ∈ M, dot m (at0 (kv n f D P)) = 0) ∧ at0 (kv n f D P) f = 1 := by
  have lz : (((List.replicate n (0 : Rat)).set f 1)).length = n := by simp
  have e0 : at0 ((List.replicate n (0 : Rat)).set f 1) = updz (fun _ => 0) f 1 := by
    rw [at0_set _ _ _ (by simpa using hf)]
    congr 1
    funext j
    unfold at0
    rw [List.getD_eq_getElem?_getD, List.getElem?_replicate]
    split <;> rfl
  have zm : (D.zip P).map (·.2) = P := List.map_snd_zip (by have := I.len; omega)
  have mem2 : ∀ q ∈ D.zip P, q.2 ∈ P := fun q m => by rw [← zm]; exact List.mem_map.mpr ⟨q, m, rfl⟩
  have key : ∀ row : Row, dot row (at0 (kv n f D P)) = at0 row f - sumK row f (D.zip P) := fun row => by
    unfold kv
    rw [dot_kvF f row (D.zip P) _ (fun q m => by rw [lz]; exact I.lt _ (mem2 q m)) (by rw [zm]; exact I.nd) fun q m => by
      rw [e0]
      have : q.2 ≠ f := fun e => hfP (e ▸ mem2 q m)
      simp [updz, this], e0, dot_updz, dot_zero row (fun _ => 0) fun _ _ => .inr rfl]
    grind
  have hz : ∀ j, n ≤ j → at0 (kv n f D P) j = 0 := fun j hj => by
    unfold at0
    rw [List.getD_eq_getElem?_getD, List.getElem?_eq_none (by rw [len_kv]; exact hj)]
    rfl
  refine ⟨(x.zero hz).1 ((I.same _).2 ⟨fun d hd => ?_, fun r hr => ?_⟩), ?_⟩
  · obtain ⟨i, hi, e⟩ := List.mem_iff_getElem.mp hd
    have hd2 : D[i]? = some d := by rw [List.getElem?_eq_getElem hi, e]
    rw [key, sumK_unit d f D P i d I.len hd2 fun k p e => I.unit i k d p hd2 e]
    grind
  · rw [key, I.zero r hr f hf, sumK_zero r f _ fun q m => I.zero r hr _ (I.lt _ (mem2 q m))]
    grind
  · unfold kv
    rw [at0_kvF f f _ _ fun q m e => hfP (e ▸ mem2 q m), e0]
    simp [updz]
end
/-! ### sizes -/
/-- (numerator, denominator) of the matrix's places, then of the others, at each stage -/
def bd : Nat → (Nat × Nat) × (Nat × Nat)
  | 0 => ((9, 6), (41, 42))
  | k + 1 => let a := (bd k).1.1; let c := (bd k).1.2; let p := (bd k).2.1; let q := (bd k).2.2; ((2 * a + 2 * c + 1, a + 3 * c), (p + q + a + c + 1, 2 * q + a + c))
def RowB (n k : Nat) (r : Row) : Prop := ∀ j, (j < n → Bt (bd k).1.1 (bd k).1.2 (at0 r j)) ∧ (n ≤ j → Bt (bd k).2.1 (bd k).2.2 (at0 r j))
def Nice (r : Row) : Prop := ∀ j, Bt 1400 1400 (at0 r j)
theorem bd_le {k : Nat} (h : k ≤ 3) : (bd k).1.1 ≤ 1400 ∧ (bd k).1.2 ≤ 1400 ∧ (bd k).2.1 ≤ 1400 ∧ (bd k).2.2 ≤ 1400 := by
  match k, h with
  | 0, _ => decide
  | 1, _ => decide
  | 2, _ => decide
  | 3, _ => decide
theorem RowB.nice {n k : Nat} {r : Row} (h : RowB n k r) (hk : k ≤ 3) : Nice r := fun j => by
  obtain ⟨h1, h2, h3, h4⟩ := bd_le hk
  by_cases hj : j < n
  · exact ((h j).1 hj).mono h1 h2
  · exact ((h j).2 (by omega)).mono h3 h4
theorem RowB.up {n k : Nat} {r : Row} (h : RowB n k r) : RowB n (k + 1) r := fun j =>
  ⟨fun hj => ((h j).1 hj).mono (by simp only [bd]; omega) (by simp only [bd]; omega), fun hj => ((h j).2 hj).mono (by simp only [bd]; omega) (by simp only [bd]; omega)⟩
theorem rowB_sc {n k c : Nat} {r : Row} (h : RowB n k r) (hc : c < n) (j : Nat) : (j < n → Bt ((bd k).1.1 + (bd k).1.2) ((bd k).1.2 + (bd k).1.1) (at0 (sc c r) j)) ∧ (n ≤ j → Bt ((bd k).2.1 + (bd k).1.2) ((bd k).2.2 + (bd k).1.1) (at0 (sc c r) j)) := by
  rw [at0_sc]
  exact ⟨fun hj => bt_quot ((h j).1 hj) ((h c).1 hc), fun hj => bt_quot ((h j).2 hj) ((h c).1 hc)⟩
theorem RowB.sc' {n k c : Nat} {r : Row} (h : RowB n k r) (hc : c < n) : RowB n (k + 1) (sc c r) := fun j => by
  have q := rowB_sc h hc j
  exact ⟨fun hj => (q.1 hj).mono (by simp only [bd]; omega) (by simp only [bd]; omega), fun hj => (q.2 hj).mono (by simp only [bd]; omega) (by simp only [bd]; omega)⟩
theorem RowB.el' {n k c : Nat} {r row : Row} (h : RowB n k r) (h' : RowB n k row) (hc : c < n) (hl : row.length = (sc c r).length) : RowB n (k + 1) (el c (sc c r) row) := fun j => by
  have q := rowB_sc h hc j
  rw [at0_el _ _ _ hl]
  refine ⟨fun hj => (bt_sub ((h' j).1 hj) (bt_mul ((h' c).1 hc) (q.1 hj))).mono ?_ ?_, fun hj => (bt_sub ((h' j).2 hj) (bt_mul ((h' c).1 hc) (q.2 hj))).mono ?_ ?_⟩ <;> (simp only [bd]; omega)
theorem step_bound {n k c : Nat} {D R D' R' : List Row} {P P' : List Nat} {W : Nat} (wD : ∀ r ∈ D, r.length = W) (wR : ∀ r ∈ R, r.length = W) (hc : c < n) (hD : ∀ r ∈ D, RowB n k r) (hR : ∀ r ∈ R, RowB n k r) (s : Step c D R P D' R' P') :
    (∀ r ∈ D', RowB n (k + 1) r) ∧ ∀ r ∈ R', RowB n (k + 1) r := by
  rcases s.how with ⟨_, rfl, rfl, rfl⟩ | ⟨r, R2, hr, hp, rfl, rfl, rfl⟩
  · exact ⟨fun r m => (hD r m).up, fun r m => (hR r m).up⟩
  · have hrR : r ∈ R := hp.symm.subset List.mem_cons_self
    have hr2 := hR r hrR
    refine ⟨fun q m => ?_, fun q m => ?_⟩
    · rcases List.mem_append.mp m with m | m
      · obtain ⟨d, hd, rfl⟩ := List.mem_map.mp m
        exact hr2.el' (hD d hd) hc (by rw [len_sc, wD d hd, wR r hrR])
      · rw [List.mem_singleton.mp m]; exact hr2.sc' hc
    · obtain ⟨d, hd, rfl⟩ := List.mem_map.mp m
      have hd2 := hp.symm.subset (List.mem_cons_of_mem r hd)
      exact hr2.el' (hR d hd2) hc (by rw [len_sc, wR d hd2, wR r hrR])
end K3
end
section
set_option linter.all false
set_option maxRecDepth 100000
set_option exponentiation.threshold 100
/-! Plain mathematics 4: expressions, their values, their forms. σ: the type of names. -/
namespace K3
variable {ν : Type} [DecidableEq ν]
inductive Leaf (ν : Type) where
  | pct (x : Rat) | num (x : Rat) | fact (n : ν) | rate (n : ν)
inductive CmpW where | less | atmost | equal
  deriving DecidableEq
inductive TimW where | ever | always | before
  deriving DecidableEq
inductive BinW where | add | subtract | multiply | min | max
  deriving DecidableEq
inductive Tr (ν : Type) where
  | tru | fls | cmp (w : CmpW) (a b : Leaf ν) | not (c : Tr ν) | and (c d : Tr ν) | or (c d : Tr ν) | tim (w : TimW) (k : Nat) (c : Tr ν)
inductive Px (ν : Type) where
  | leaf (l : Leaf ν) | ite (c : Tr ν) (p q : Px ν) | bin (w : BinW) (p q : Px ν) | part (p : Px ν)
/-- the facts and rates of all days -/
structure Wd (ν : Type) where
  facts : ν → Row
  rates : ν → Row
/-- a value, or the name and day of a rate that there is not -/
abbrev Ev (ν α : Type) := Except (ν × Nat) α
def lfv (W : Wd ν) (day : Nat) : Leaf ν → Ev ν Rat
  | .pct x => .ok (x * (1 / 100))
  | .num x => .ok x
  | .fact n => match (W.facts n)[day]? with | some x => .ok x | none => .error (n, day)
  | .rate n => match (W.rates n)[day]? with | some x => .ok x | none => .error (n, day)
def cmpB : CmpW → Rat → Rat → Bool
  | .less, x, y => decide (x < y)
  | .atmost, x, y => decide (x ≤ y)
  | .equal, x, y => decide (x = y)
def timGo (f : Nat → Ev ν Bool) (e : Bool) : List Nat → Ev ν Bool
  | [] => .ok (!e)
  | d :: ds => match f d with
    | .error m => .error m
    | .ok b => if b = e then .ok b else timGo f e ds
def days (day k : Nat) : List Nat := List.range' (day + 1 - k) (day + 1 - (day + 1 - k))
def trv (W : Wd ν) : Tr ν → Nat → Ev ν Bool
  | .tru, _ => .ok true
  | .fls, _ => .ok false
  | .cmp w a b, day => match lfv W day a with
    | .error m => .error m
    | .ok x => match lfv W day b with
      | .error m => .error m
      | .ok y => .ok (cmpB w x y)
  | .not c, day => match trv W c day with
    | .error m => .error m
    | .ok b => .ok (!b)
  | .and c d, day => match trv W c day with
    | .error m => .error m
    | .ok false => .ok false
    | .ok true => trv W d day
  | .or c d, day => match trv W c day with
    | .error m => .error m
    | .ok true => .ok true
    | .ok false => trv W d day
  | .tim .before k c, day => if day < k then .ok false else trv W c (day - k)
  | .tim .ever k c, day => timGo (trv W c) true (days day k)
  | .tim .always k c, day => timGo (trv W c) false (days day k)
def binV : BinW → Rat → Rat → Rat
  | .add, x, y => x + y
  | .subtract, x, y => x - y
  | .multiply, x, y => x * y
  | .min, x, y => if x ≤ y then x else y
  | .max, x, y => if y ≤ x then x else y
/-- the value of a plain expression (the law's own reading) -/
def pxv (W : Wd ν) (day : Nat) : Px ν → Ev ν Rat
  | .leaf l => lfv W day l
  | .ite c p q => match trv W c day with
    | .error m => .error m
    | .ok true => pxv W day p
    | .ok false => pxv W day q
  | .bin w p q => match pxv W day p with
    | .error m => .error m
    | .ok x => match pxv W day q with
      | .error m => .error m
      | .ok y => .ok (binV w x y)
  | .part p => pxv W day p
/-! ### forms -/
abbrev Fm (ν : Type) := (ν → Rat) × Rat
def noF (ring : List ν) (f : Fm ν) : Bool := ring.all fun x => decide (f.1 x = 0)
def scF (f : Fm ν) (k : Rat) : Fm ν := (fun x => f.1 x * k, f.2 * k)
def comb (ring : List ν) : BinW → Fm ν → Fm ν → Option (Fm ν)
  | .add, f, g => some (fun x => f.1 x + g.1 x, f.2 + g.2)
  | .subtract, f, g => some (fun x => f.1 x - g.1 x, f.2 - g.2)
  | .multiply, f, g => if noF ring f then some (scF g f.2) else if noF ring g then some (scF f g.2) else none
  | w, f, g => if noF ring f && noF ring g then some (fun _ => 0, binV w f.2 g.2) else none
def fm (W : Wd ν) (day : Nat) (ring : List ν) : Px ν → Option (Fm ν)
  | .leaf (.rate n) => some (fun x => if x = n then 1 else 0, 0)
  | .leaf l => match lfv W day l with
    | .error _ => none
    | .ok x => some (fun _ => 0, x)
  | .ite c p q => match trv W c day with
    | .error _ => none
    | .ok true => fm W day ring p
    | .ok false => fm W day ring q
  | .bin w p q => match fm W day ring p with
    | none => none
    | some f => match fm W day ring q with
      | none => none
      | some g => comb ring w f g
  | .part p => fm W day ring p
/-! ### what stands in an expression -/
def Leaf.Ok (ring facts : List ν) : Leaf ν → Prop
  | .pct x => Bt 3 0 x
  | .num x => Bt 3 3 x
  | .fact n => n ∈ facts
  | .rate n => n ∈ ring
def Tr.Ok (ring facts : List ν) : Tr ν → Prop
  | .tru => True
  | .fls => True
  | .cmp _ a b => a.Ok ring facts ∧ b.Ok ring facts
  | .not c => c.Ok ring facts
  | .and c d => c.Ok ring facts ∧ d.Ok ring facts
  | .or c d => c.Ok ring facts ∧ d.Ok ring facts
  | .tim _ k c => 1 ≤ k ∧ k ≤ 2 ∧ c.Ok ring facts
def Px.Ok (ring facts : List ν) : Px ν → Prop
  | .leaf l => l.Ok ring facts
  | .ite c p q => c.Ok ring facts ∧ p.Ok ring facts ∧ q.Ok ring facts
  | .bin _ p q => p.Ok ring facts ∧ q.Ok ring facts
  | .part p => p.Ok ring facts
def Tr.ht : Tr ν → Nat
  | .tru => 1
  | .fls => 1
  | .cmp _ _ _ => 2
  | .not c => c.ht + 1
  | .and c d => max c.ht d.ht + 1
  | .or c d => max c.ht d.ht + 1
  | .tim _ _ c => c.ht + 1
def Px.ht : Px ν → Nat
  | .leaf _ => 1
  | .ite c p q => max c.ht (max p.ht q.ht) + 1
  | .bin _ p q => max p.ht q.ht + 1
  | .part p => p.ht + 1
/-- the tables: facts up to the day, rates of at most so many days -/
structure Wd.Ok (W : Wd ν) (ring facts : List ν) (day : Nat) : Prop where
  f : ∀ n ∈ facts, day < (W.facts n).length
  fb : ∀ n j, Bt 4 7 (at0 (W.facts n) j)
/-! ### a world with more rates says the same where the smaller one answers -/
def Wd.Le (A B : Wd ν) : Prop := A.facts = B.facts ∧ ∀ (n : ν) (j : Nat) (x : Rat), (A.rates n)[j]? = some x → (B.rates n)[j]? = some x
theorem lv_le {A B : Wd ν} (h : A.Le B) {day : Nat} {l : Leaf ν} {x : Rat} (e : lfv A day l = .ok x) : lfv B day l = .ok x := by
  cases l with
  | pct _ => exact e
  | num _ => exact e
  | fact n => simp only [lfv] at e ⊢; rw [← h.1]; exact e
  | rate n =>
    simp only [lfv] at e ⊢
    cases q : (A.rates n)[day]? with
    | none => rw [q] at e; cases e
    | some y =>
      rw [q] at e
      rw [h.2 n day y q]
      exact e
theorem timGo_le {f g : Nat → Ev ν Bool} (h : ∀ d b, f d = .ok b → g d = .ok b) (e : Bool) : ∀ (ds : List Nat) (b : Bool), timGo f e ds = .ok b → timGo g e ds = .ok b
  | [], b, q => q
  | d :: ds, b, q => by
    unfold timGo at q ⊢
    cases r : f d with
    | error m => rw [r] at q; cases q
    | ok c =>
      rw [r] at q
      rw [h d c r]
      by_cases hc : c = e
      · simp only [if_pos hc] at q ⊢; exact q
      · simp only [if_neg hc] at q ⊢; exact timGo_le h e ds b q
theorem te_le {A B : Wd ν} (h : A.Le B) : ∀ (c : Tr ν) (day : Nat) (b : Bool), trv A c day = .ok b → trv B c day = .ok b
  | .tru, _, _, e => e
  | .fls, _, _, e => e
  | .cmp w x y, day, b, e => by
    unfold trv at e ⊢
    cases r : lfv A day x with
    | error m => rw [r] at e; cases e
    | ok u =>
      rw [r] at e
      rw [lv_le h r]
      cases r2 : lfv A day y with
      | error m => simp only [r2] at e; cases e
      | ok v =>
        simp only [r2] at e
        simp only [lv_le h r2]
        exact e
  | .not c, day, b, e => by
    unfold trv at e ⊢
    cases r : trv A c day with
    | error m => rw [r] at e; cases e
    | ok u => rw [r] at e; rw [te_le h c day u r]; exact e
  | .and c d, day, b, e => by
    unfold trv at e ⊢
    cases r : trv A c day with
    | error m => rw [r] at e; cases e
    | ok u =>
      rw [r] at e
      rw [te_le h c day u r]
      cases u with
      | false => exact e
      | true => exact te_le h d day b e
  | .or c d, day, b, e => by
    unfold trv at e ⊢
    cases r : trv A c day with
    | error m => rw [r] at e; cases e
    | ok u =>
      rw [r] at e
      rw [te_le h c day u r]
      cases u with
      | true => exact e
      | false => exact te_le h d day b e
  | .tim .before k c, day, b, e => by
    unfold trv at e ⊢
    by_cases hk : day < k
    · rw [if_pos hk] at e ⊢; exact e
    · rw [if_neg hk] at e ⊢; exact te_le h c _ b e
  | .tim .ever k c, day, b, e => by
    unfold trv at e ⊢
    exact timGo_le (fun d b q => te_le h c d b q) true _ b e
  | .tim .always k c, day, b, e => by
    unfold trv at e ⊢
    exact timGo_le (fun d b q => te_le h c d b q) false _ b e
/-! ### the form's value -/
def dotF (ring : List ν) (c : ν → Rat) (x : ν → Rat) : Rat := match ring with
  | [] => 0
  | n :: r => c n * x n + dotF r c x
theorem dotF_add (c d x : ν → Rat) : ∀ ring : List ν, dotF ring (fun n => c n + d n) x = dotF ring c x + dotF ring d x
  | [] => by simp [dotF]; grind
  | n :: r => by simp only [dotF, dotF_add c d x r]; grind
theorem dotF_sub (c d x : ν → Rat) : ∀ ring : List ν, dotF ring (fun n => c n - d n) x = dotF ring c x - dotF ring d x
  | [] => by simp [dotF]; grind
  | n :: r => by simp only [dotF, dotF_sub c d x r]; grind
theorem dotF_mul (c x : ν → Rat) (k : Rat) : ∀ ring : List ν, dotF ring (fun n => c n * k) x = dotF ring c x * k
  | [] => by simp [dotF]
  | n :: r => by simp only [dotF, dotF_mul c x k r]; grind
theorem dotF_zero (c x : ν → Rat) : ∀ ring : List ν, (∀ n ∈ ring, c n = 0) → dotF ring c x = 0
  | [], _ => rfl
  | n :: r, h => by
    simp only [dotF, dotF_zero c x r fun m hm => h m (List.mem_cons_of_mem _ hm), h n List.mem_cons_self]
    grind
theorem dotF_unit (x : ν → Rat) (n : ν) : ∀ ring : List ν, n ∈ ring → ring.Nodup → dotF ring (fun m => if m = n then 1 else 0) x = x n
  | m :: r, h, nd => by
    obtain ⟨h1, h2⟩ := List.nodup_cons.mp nd
    simp only [dotF]
    by_cases e : m = n
    · subst e
      rw [if_pos rfl, dotF_zero _ x r fun k hk => if_neg fun (z : k = m) => h1 (z ▸ hk)]
      grind
    · rw [if_neg e, dotF_unit x n r ((List.mem_cons.mp h).resolve_left (Ne.symm e)) h2]
      grind
theorem noF_iff {ring : List ν} {f : Fm ν} : noF ring f = true ↔ ∀ n ∈ ring, f.1 n = 0 := by
  unfold noF
  rw [List.all_eq_true]
  exact ⟨fun h n hn => of_decide_eq_true (h n hn), fun h n hn => decide_eq_true (h n hn)⟩
/-- with the ring's rates on the day, an expression is worth what its form says -/
theorem fm_val {A B : Wd ν} (h : A.Le B) {ring facts : List ν} (nd : ring.Nodup) {day : Nat} {x : ν → Rat} (hx : ∀ n ∈ ring, (B.rates n)[day]? = some (x n)) :
    ∀ (p : Px ν) (f : Fm ν), p.Ok ring facts → fm A day ring p = some f → pxv B day p = .ok (dotF ring f.1 x + f.2)
  | .leaf (.rate n), f, ok, e => by
    have ok : n ∈ ring := ok
    have e : (fun m => if m = n then (1 : Rat) else 0, (0 : Rat)) = f := Option.some.inj e
    subst e
    show lfv B day (.rate n) = _
    simp only [lfv]
    rw [hx n ok]
    show Except.ok (x n) = Except.ok (dotF ring (fun m => if m = n then (1 : Rat) else 0) x + 0)
    rw [dotF_unit x n ring ok nd, Rat.add_zero]
  | .leaf (.pct y), f, ok, e => by
    have e : (fun _ => (0 : Rat), y * (1 / 100)) = f := Option.some.inj e
    subst e
    show Except.ok _ = Except.ok (dotF ring (fun _ => 0) x + _)
    rw [dotF_zero _ x ring fun _ _ => rfl, Rat.zero_add]
  | .leaf (.num y), f, ok, e => by
    have e : (fun _ => (0 : Rat), y) = f := Option.some.inj e
    subst e
    show Except.ok _ = Except.ok (dotF ring (fun _ => 0) x + _)
    rw [dotF_zero _ x ring fun _ _ => rfl, Rat.zero_add]
  | .leaf (.fact n), f, ok, e => by
    unfold fm at e
    cases q : lfv A day (.fact n) with
    | error m => rw [q] at e; cases e
    | ok v =>
      rw [q] at e
      have e : (fun _ => (0 : Rat), v) = f := Option.some.inj e
      subst e
      show lfv B day (.fact n) = Except.ok (dotF ring (fun _ => 0) x + _)
      rw [lv_le h q, dotF_zero _ x ring fun _ _ => rfl, Rat.zero_add]
  | .ite c p q, f, ok, e => by
    unfold fm at e
    cases r : trv A c day with
    | error m => rw [r] at e; cases e
    | ok b =>
      rw [r] at e
      unfold pxv
      rw [te_le h c day b r]
      cases b with
      | true => exact fm_val h nd hx p f ok.2.1 e
      | false => exact fm_val h nd hx q f ok.2.2 e
  | .bin w p q, f, ok, e => by
    unfold fm at e
    cases r : fm A day ring p with
    | none => rw [r] at e; cases e
    | some f1 =>
      rw [r] at e
      cases r2 : fm A day ring q with
      | none => simp only [r2] at e; cases e
      | some f2 =>
        simp only [r2] at e
        unfold pxv
        rw [fm_val h nd hx p f1 ok.1 r]
        simp only [fm_val h nd hx q f2 ok.2 r2]
        have key : ∀ f : Fm ν, noF ring f = true → dotF ring f.1 x + f.2 = f.2 := fun f h => by rw [dotF_zero _ x ring (noF_iff.1 h), Rat.zero_add]
        cases w with
        | add => cases e; simp only [binV, dotF_add]; congr 1; grind
        | subtract => cases e; simp only [binV, dotF_sub]; congr 1; grind
        | multiply =>
          simp only [comb] at e
          by_cases h1 : noF ring f1 = true
          · rw [if_pos h1] at e; cases e
            simp only [binV, scF, dotF_mul, key f1 h1]; congr 1; grind
          · rw [if_neg h1] at e
            by_cases h2 : noF ring f2 = true
            · rw [if_pos h2] at e; cases e
              simp only [binV, scF, dotF_mul, key f2 h2]; congr 1; grind
            · rw [if_neg h2] at e; cases e
        | min =>
          simp only [comb] at e
          by_cases h1 : (noF ring f1 && noF ring f2) = true
          · rw [if_pos h1] at e; cases e
            obtain ⟨h2, h3⟩ := Bool.and_eq_true_iff.mp h1
            rw [key f1 h2, key f2 h3, dotF_zero _ x ring fun _ _ => rfl, Rat.zero_add]
          · rw [if_neg h1] at e; cases e
        | max =>
          simp only [comb] at e
          by_cases h1 : (noF ring f1 && noF ring f2) = true
          · rw [if_pos h1] at e; cases e
            obtain ⟨h2, h3⟩ := Bool.and_eq_true_iff.mp h1
            rw [key f1 h2, key f2 h3, dotF_zero _ x ring fun _ _ => rfl, Rat.zero_add]
          · rw [if_neg h1] at e; cases e
  | .part p, f, ok, e => fm_val h nd hx p f ok e
end K3
end
section
set_option Elab.async false
set_option linter.all false
set_option maxRecDepth 100000
namespace K3
open PySem PySem.Spec PyProof.Rows L2
/-! ### the frozen part of a heap -/
/-- from (H, F) to (H', F'): what was tracked is kept but at S; F grows by new objects only -/
structure Fz (S : Addr → Prop) (H F H' F' : Hp) : Prop where
  keep : ∀ b o, ¬ S b → H b = some o → H' b = some o
  grow : Same F F'
  sub : Same F' H'
  new : ∀ b o, F' b = some o → F b = some o ∨ H b = none
  live : ∀ b, H b ≠ none → H' b ≠ none
abbrev N0 : Addr → Prop := fun _ => False
section
variable {S : Addr → Prop} {H F H' F' H2 F2 : Hp} {a p : Addr} {o : HO}
theorem Fz.refl (h : Same F H) : Fz S H F H F := ⟨fun _ _ _ e => e, Same.refl F, h, fun _ _ e => .inl e, fun _ e => e⟩
theorem Fz.trans (x : Fz S H F H' F') (y : Fz S H' F' H2 F2) : Fz S H F H2 F2 :=
  ⟨fun b o n e => y.keep b o n (x.keep b o n e), x.grow.trans y.grow, y.sub, fun b o e => by
    rcases y.new b o e with h | h
    · exact x.new b o h
    · refine .inr ?_
      cases q : H b with
      | none => rfl
      | some u => exact absurd h (x.live b (by rw [q]; simp)), fun b e => y.live b (x.live b e)⟩
theorem Fz.same (x : Fz N0 H F H' F') : Same H H' := fun b o e => x.keep b o (fun z => z) e
theorem Fz.to (x : Fz N0 H F H' F') : Fz S H F H' F' := ⟨fun b o _ e => x.same b o e, x.grow, x.sub, x.new, x.live⟩
/-- what is alive and not frozen stays so -/
theorem Fz.out (x : Fz S H F H' F') (h : F a = none) (hl : H a ≠ none) : F' a = none := by
  cases q : F' a with
  | none => rfl
  | some u =>
    rcases x.new a u q with z | z
    · rw [h] at z; cases z
    · exact absurd z hl
theorem Fz.outS (x : Fz S H F H' F') (h : F a = none) {o : HO} (hl : H a = some o) : F' a = none := x.out h (by rw [hl]; simp)
/-- a new object, frozen at once -/
theorem Fz.nw (h : Same F H) (hp : H p = none) : Fz N0 H F (upd H p o) (upd F p o) := by
  have hf : F p = none := h.free hp
  refine ⟨fun b u _ e => ?_, fun b u e => ?_, fun b u e => ?_, fun b u e => ?_, fun b e => ?_⟩
  · rw [upd_ne (ne_of_none e hp)]; exact e
  · rw [upd_ne (ne_of_none e hf)]; exact e
  · by_cases hb : b = p
    · subst hb; rw [upd_same] at e ⊢; exact e
    · rw [upd_ne hb] at e ⊢; exact h b u e
  · by_cases hb : b = p
    · subst hb; exact .inr hp
    · rw [upd_ne hb] at e; exact .inl e
  · by_cases hb : b = p
    · subst hb; exact absurd hp e
    · rw [upd_ne hb]; exact e
/-- a new object, left to be changed -/
theorem Fz.raw (h : Same F H) (hp : H p = none) : Fz N0 H F (upd H p o) F := by
  refine ⟨fun b u _ e => ?_, Same.refl F, fun b u e => ?_, fun b u e => .inl e, fun b e => ?_⟩
  · rw [upd_ne (ne_of_none e hp)]; exact e
  · rw [upd_ne (ne_of_none (h b u e) hp)]; exact h b u e
  · by_cases hb : b = p
    · subst hb; exact absurd hp e
    · rw [upd_ne hb]; exact e
/-- an object that is not frozen is changed: it is new since (H, F), or in S -/
theorem Fz.set (x : Fz S H F H' F') (hn : H p = none ∨ S p) (hf : F' p = none) : Fz S H F (upd H' p o) F' := by
  refine ⟨fun b u n e => ?_, x.grow, fun b u e => ?_, x.new, fun b e => ?_⟩
  · have hb : b ≠ p := fun z => by
      subst z
      rcases hn with z | z
      · rw [z] at e; cases e
      · exact n z
    rw [upd_ne hb]; exact x.keep b u n e
  · rw [upd_ne (ne_of_none e hf)]; exact x.sub b u e
  · by_cases hb : b = p
    · subst hb; rw [upd_same]; simp
    · rw [upd_ne hb]; exact x.live b e
/-- an object of one's own is frozen -/
theorem Fz.freeze (x : Fz S H F H' F') (hn : H p = none) (ho : H' p = some o) (hf : F' p = none) : Fz S H F H' (upd F' p o) := by
  refine ⟨x.keep, fun b u e => ?_, fun b u e => ?_, fun b u e => ?_, x.live⟩
  · have := x.grow b u e
    rw [upd_ne (ne_of_none this hf)]; exact this
  · by_cases hb : b = p
    · subst hb; rw [upd_same] at e; cases e; exact ho
    · rw [upd_ne hb] at e; exact x.sub b u e
  · by_cases hb : b = p
    · subst hb; exact .inr hn
    · rw [upd_ne hb] at e; exact x.new b u e
theorem same_upd {o : HO} (hf : F p = none) : Same F (upd F p o) := fun b u e => by rw [upd_ne (ne_of_none e hf)]; exact e
end
theorem sq_l {K : PySem.W.Frag} {H H' : Hp} {a : Addr} {xs : List V} (e : Same H H') (h : SqL K H a xs) : SqL K H' a xs := e.seq h
theorem sq_t {K : PySem.W.Frag} {H H' : Hp} {a : Addr} {xs : List V} (e : Same H H') (h : SqT K H a xs) : SqT K H' a xs := by
  rcases h with (h | ⟨o, h⟩) | h
  · exact .inl (.inl (e _ _ h))
  · exact .inl (.inr ⟨o, e _ _ h⟩)
  · exact .inr h
/-- what a pure call leaves -/
def Ret (S : Addr → Prop) (H F : Hp) (P : V → Hp → Prop) (Q : VK) : Prop := ∀ v H' F', Fz S H F H' F' → P v F' → Q v H'
/-! ### fractions -/
def IsF (K : PySem.W.Frag) (F : Hp) (v : V) (x : Rat) : Prop := ∃ a, v = .ref a ∧ SqT K F a [.int x.num, .int (x.den : Int)]
theorem IsF.up {K : PySem.W.Frag} {F F' : Hp} {v : V} {x : Rat} (h : IsF K F v x) (e : Same F F') : IsF K F' v x := let ⟨a, e1, h1⟩ := h; ⟨a, e1, sq_t e h1⟩
/-! ### a def of the module as its callers see it -/
structure G (P : Program) (w : World) (K : PySem.W.Frag) (mg : Str → Option Value) (base : Heap) (CX : CXT) (k : Nat) (x : Str) (ps : List Str) (sp : Sp) : Prop where
  ex : ∃ f fd, FnOk P w K mg base CX k f fd ps sp ∧ Binds K fd ps [] ∧ mg x = some (.ref f) ∧ PySem.W.keepIn K (.ref f) = true
section
variable {X : Cx} {CX : CXT} {k : Nat} {ps : List Str} {sp : Sp} {E : XK} {x : Str} {p pos : Pos} {e : Expr} {es : List Expr} {t : TA}
theorem pe_g (C : G X.prog X.w X.K X.mg X.base CX k x ps sp) (hr : Room k X.A) (hg : Gl X x) (hx : Passes CX X E)
    (ha : PA X (e :: es) t) (hdb : (x == ("__debug__" : Str)) = false := by decide) (he : starEach (e :: es) X.env = (false, eval e X.env) :: starEach es X.env := by rfl) (hpl : (backTo pos (starEach es X.env)).any (·.1) = false := by rfl) :
    PE X (.Call (.Name x p) (e :: es) [] pos) (tCall sp [] E t) := by
  obtain ⟨f, fd, F, b, m, kp⟩ := C.ex
  exact pe_call F hr hg m kp b .nil hx ha hdb he hpl
end
theorem pe_cst {X : Cx} {x : Str} {a : Addr} {pos : Pos} (hm : X.mg x = some (.ref a)) (hg : Gl X x) (hd : (x == ("__debug__" : Str)) = false := by decide) : PE X (.Name x pos) (tC (.ref a)) := pe_glob hg hm rfl hd
/-- a def as its callers see it, from its promise -/
theorem G.mk' {P : Program} {w : World} {K : PySem.W.Frag} {mg : Str → Option Value} {base : Heap} {CX : CXT} {k : Nat} {x : Str} {ps : List Str} {sp : Sp} {name qual : Str} {st : Stmt} {f : Addr} (hd : ∃ fd, FunD K name qual (defArgs st) (defBody st) (defScope st) [] [] f fd)
    (hm : mg x = some (.ref f)) (hb : ∀ (kV doc pm : Value) (an : Option Addr) (cdv ct : Value) (us : List Value), us.length = ps.length → bindArgs (PySem.W.fnOf name qual (defArgs st) (defBody st) (defScope st) .none kV doc pm an cdv ct) ⟨us, []⟩ = pure (ps.zip us))
    (h : ∀ fd, FunD K name qual (defArgs st) (defBody st) (defScope st) [] [] f fd → FnOk P w K mg base CX k f fd ps sp) : G P w K mg base CX k x ps sp := by
  obtain ⟨fd, F⟩ := hd
  exact ⟨f, fd, h fd F, F.bindsN hb, hm, F.kp⟩
/-- a statement, then the rest, with a word between them -/
def tCut (t u : TS) : TS := fun D σ H => ∃ Mid : L2.St → Hp → Prop, t { D with nx := Mid } σ H ∧ ∀ σ' H', Mid σ' H' → u D σ' H'
theorem pss_cut {X : Cx} {st : Stmt} {rest : List Stmt} {t u : TS} (h1 : PS X st t) (h2 : PSs X rest u) : PSs X (st :: rest) (tCut t u) := by
  refine ⟨fun pins s σ H D I h => ?_⟩
  obtain ⟨Mid, hm, hu⟩ := h
  refine wpAny_execs_cons (thn (h1.run pins s σ H { D with nx := Mid } I hm) fun f s1 q => ?_)
  cases f with
  | next =>
    obtain ⟨σ', H', I', q⟩ := q
    exact h2.run pins s1 σ' H' D I' (hu σ' H' q)
  | ret v => exact q
  | brk => exact q
  | cont => exact q
/-! ### lists of things -/
def IsL {α : Type} (R : Hp → V → α → Prop) (F : Hp) (v : V) (xs : List α) : Prop := ∃ a vs, v = .ref a ∧ F a = some (.lst vs) ∧ Paired (R F) vs xs
def Up {α : Type} (R : Hp → V → α → Prop) : Prop := ∀ F F' v x, Same F F' → R F v x → R F' v x
theorem paired_up {α : Type} {R : Hp → V → α → Prop} (u : Up R) {F F' : Hp} (e : Same F F') {vs : List V} {xs : List α} (h : Paired (R F) vs xs) : Paired (R F') vs xs := L2.Paired.mapP h fun a b q => u F F' a b e q
theorem IsL.up {α : Type} {R : Hp → V → α → Prop} (u : Up R) : Up (IsL R) := fun F F' v xs e ⟨a, vs, e1, h1, h2⟩ => ⟨a, vs, e1, e _ _ h1, paired_up u e h2⟩
abbrev RF (K : PySem.W.Frag) : Hp → V → Rat → Prop := fun F v x => IsF K F v x
theorem upF {K : PySem.W.Frag} : Up (RF K) := fun _ _ _ _ e h => h.up e
abbrev RFs (K : PySem.W.Frag) : Hp → V → List Rat → Prop := IsL (RF K)
theorem upFs {K : PySem.W.Frag} : Up (RFs K) := IsL.up upF
abbrev RM (K : PySem.W.Frag) : Hp → V → List (List Rat) → Prop := IsL (RFs K)
theorem upM {K : PySem.W.Frag} : Up (RM K) := IsL.up upFs
abbrev RI : Hp → V → Int → Prop := fun _ v n => v = .int n
theorem upI : Up RI := fun _ _ _ _ _ h => h
abbrev RN : Hp → V → Nat → Prop := fun _ v n => v = .int n
theorem upN : Up RN := fun _ _ _ _ _ h => h
abbrev RS : Hp → V → Str → Prop := fun _ v n => v = .str n
theorem upS : Up RS := fun _ _ _ _ _ h => h
section
variable {α β : Type} {R : α → β → Prop}
theorem pr_len {vs : List α} {xs : List β} (h : Paired R vs xs) : vs.length = xs.length := Paired.length h
theorem pr_at {vs : List α} {xs : List β} (h : Paired R vs xs) {i : Nat} {x : β} (e : xs[i]? = some x) : ∃ v, vs[i]? = some v ∧ R v x := by
  induction h generalizing i with
  | nil => simp at e
  | cons r _ ih =>
    cases i with
    | zero => simp at e; subst e; exact ⟨_, rfl, r⟩
    | succ i => simpa using ih (by simpa using e)
theorem pr_at' {vs : List α} {xs : List β} (h : Paired R vs xs) {i : Nat} {v : α} (e : vs[i]? = some v) : ∃ x, xs[i]? = some x ∧ R v x := by
  induction h generalizing i with
  | nil => simp at e
  | cons r _ ih =>
    cases i with
    | zero => simp at e; subst e; exact ⟨_, rfl, r⟩
    | succ i => simpa using ih (by simpa using e)
theorem pr_app {vs vs' : List α} {xs xs' : List β} (h : Paired R vs xs) (h' : Paired R vs' xs') : Paired R (vs ++ vs') (xs ++ xs') := by
  induction h with
  | nil => exact h'
  | cons r _ ih => exact .cons r ih
theorem pr_snoc {vs : List α} {xs : List β} (h : Paired R vs xs) {v : α} {x : β} (r : R v x) : Paired R (vs ++ [v]) (xs ++ [x]) := pr_app h (.cons r .nil)
theorem pr_put {vs : List α} {xs : List β} (h : Paired R vs xs) {v : α} {x : β} (r : R v x) (i : Nat) : Paired R (vs.set i v) (xs.set i x) := by
  induction h generalizing i with
  | nil => exact .nil
  | cons q t ih =>
    cases i with
    | zero => exact .cons r t
    | succ i => exact .cons q (ih i)
theorem pr_tk {vs : List α} {xs : List β} (h : Paired R vs xs) (n : Nat) : Paired R (vs.take n) (xs.take n) := by
  induction h generalizing n with
  | nil => simp; exact .nil
  | cons q t ih =>
    cases n with
    | zero => exact .nil
    | succ n => exact .cons q (ih n)
theorem pr_dp {vs : List α} {xs : List β} (h : Paired R vs xs) (n : Nat) : Paired R (vs.drop n) (xs.drop n) := by
  induction h generalizing n with
  | nil => simp; exact .nil
  | cons q t ih =>
    cases n with
    | zero => exact .cons q t
    | succ n => exact ih n
end
theorem paired_map {α : Type} (f : α → V) (xs : List α) : Paired (fun v x => v = f x) (xs.map f) xs := by
  induction xs with
  | nil => exact .nil
  | cons x xs ih => exact .cons rfl ih
theorem paired_eq {α : Type} {f : α → V} {vs : List V} {xs : List α} (h : Paired (fun v x => v = f x) vs xs) : vs = xs.map f := by
  induction h with
  | nil => rfl
  | cons r _ ih => rw [r, ih]; rfl
abbrev FnP (K : PySem.W.Frag) (x qual : Str) (st : Stmt) (dvs : List V) (f : Addr) (fd : FuncData) : Prop := FunD K x qual (defArgs st) (defBody st) (defScope st) dvs [] f fd
end K3
end
section
set_option Elab.async false
set_option linter.all false
set_option maxRecDepth 100000
namespace K3
open PySem PySem.Spec PyProof.Rows L2
/-! ### comprehensions over (H, F) -/
section
variable {K : PySem.W.Frag} {S : Addr → Prop} {H F : Hp} {σ : L2.St} {vs : List Nat} {g : TG} {tt : TT} {te : TE} {Qd : Addr → Hp → Prop} {j : Nat}
theorem lc_any {J : It} (n : Nat) (Pv : Nat → List V → Hp → Prop) (hF : Same F H) (hS : ∀ b, S b → H b ≠ none) (h0 : Pv 0 [] F)
    (go : ∀ i H' F', i < n → Fz S H F H' F' → J.go i H') (stop : ∀ H' F', Fz S H F H' F' → J.stop n H') (hz : n < 10000)
    (hs : ∀ i acc H' F' x Hx, i < n → Fz S H F H' F' → Pv i acc F' → J.yld i H' x Hx → ∀ (R : V → Hp → Prop) (R' : Hp → Prop), (∀ y H4 F2, Fz S H' F' H4 F2 → Pv (i + 1) (acc ++ [y]) F2 → R y H4) → (∀ H3 F2, Fz S H' F' H3 F2 → Pv (i + 1) acc F2 → R' H3) →
      g x (wipe σ vs) Hx fun σ2 H2 => wipe σ2 vs = wipe σ vs ∧ tt σ2 H2 fun b H3 => if b = true then te σ2 H3 R else R' H3)
    (hd : ∀ D ys H' F', H D = none → Fz S H F H' F' → H' D = some (.lst ys) → F' D = none → Pv n ys F' → Qd D H') :
    ∀ D, H D = none → ∃ W : Nat → Nat → Hp → Prop, (∃ m, W 0 m (upd H D (.lst []))) ∧ ∀ i m H, W i m H →
      (J.stop i H ∧ Qd D H) ∨ (J.go i H ∧ ∃ Nx : Hp → Prop, (∀ H', Nx H' → ∃ m', m' < m ∧ W (i + 1) m' H') ∧ ∀ x H', J.yld i H x H' → g x (wipe σ vs) H' fun σ2 H2 => wipe σ2 vs = wipe σ vs ∧ tt σ2 H2 fun b H3 =>
        if b = true then te σ2 H3 fun y H4 => ∃ acc, H4 D = some (.lst acc) ∧ acc.length < sizeLine ∧ Nx (upd H4 D (.lst (acc ++ [y]))) else Nx H3) := by
  intro D hD
  have nD : ¬ S D := fun z => hS D z hD
  refine ⟨fun i m H' => m = n - i ∧ i ≤ n ∧ ∃ acc F', H' D = some (.lst acc) ∧ acc.length ≤ i ∧ F' D = none ∧ Fz S H F H' F' ∧ Pv i acc F', ⟨n, by simp, Nat.zero_le _, [], F, upd_same, Nat.le_refl _, hF.free hD, (Fz.raw hF hD).to, h0⟩, ?_⟩
  rintro i m H' ⟨rfl, hi, acc, F', e1, e2, e3, z, p⟩
  by_cases hlt : i < n
  · refine .inr ⟨go i H' F' hlt z, fun H2 => ∃ acc F2, H2 D = some (.lst acc) ∧ acc.length ≤ i + 1 ∧ F2 D = none ∧ Fz S H F H2 F2 ∧ Pv (i + 1) acc F2, fun H2 q => ⟨n - (i + 1), by omega, rfl, hlt, q⟩, fun x Hx y => ?_⟩
    refine hs i acc H' F' x Hx hlt z p y _ _ (fun y H4 F2 z4 p4 => ?_) (fun H3 F2 z3 p3 => ?_)
    · have eD := z4.keep _ _ nD e1
      refine ⟨acc, eD, Nat.lt_of_le_of_lt e2 (Nat.lt_of_lt_of_le (by omega : i < 10000) (by decide)), acc ++ [y], F2, upd_same, by rw [List.length_append]; simp; omega, z4.outS e3 e1, Fz.set (z.trans z4) (.inl hD) (z4.outS e3 e1), p4⟩
    · exact ⟨acc, F2, z3.keep _ _ nD e1, by omega, z3.outS e3 e1, z.trans z3, p3⟩
  · have e : i = n := by omega
    subst e
    exact .inl ⟨stop H' F' z, hd D acc H' F' hD z e1 e3 p⟩
/-- over a list that is not changed meanwhile -/
theorem lc_L {a : Addr} {xs : List V} (Pv : Nat → List V → Hp → Prop) (hF : Same F H) (hS : ∀ b, S b → H b ≠ none) (ha : H a = some (.lst xs)) (na : ¬ S a) (h0 : Pv 0 [] F) (hz : xs.length < 10000) (hw : ∀ x, wipe ((wipe σ vs).set j (some x)) vs = wipe σ vs)
    (hs : ∀ i acc H' F' x, xs[i]? = some x → Fz S H F H' F' → Pv i acc F' → ∀ (R : V → Hp → Prop) (R' : Hp → Prop), (∀ y H4 F2, Fz S H' F' H4 F2 → Pv (i + 1) (acc ++ [y]) F2 → R y H4) → (∀ H3 F2, Fz S H' F' H3 F2 → Pv (i + 1) acc F2 → R' H3) →
      tt ((wipe σ vs).set j (some x)) H' fun b H3 => if b = true then te ((wipe σ vs).set j (some x)) H3 R else R' H3)
    (hd : ∀ D ys H' F', H D = none → Fz S H F H' F' → H' D = some (.lst ys) → F' D = none → Pv xs.length ys F' → Qd D H') :
    ∀ D, H D = none → ∃ W : Nat → Nat → Hp → Prop, (∃ m, W 0 m (upd H D (.lst []))) ∧ ∀ i m H, W i m H →
      ((Itl K a).stop i H ∧ Qd D H) ∨ ((Itl K a).go i H ∧ ∃ Nx : Hp → Prop, (∀ H', Nx H' → ∃ m', m' < m ∧ W (i + 1) m' H') ∧ ∀ x H', (Itl K a).yld i H x H' → gName j x (wipe σ vs) H' fun σ2 H2 => wipe σ2 vs = wipe σ vs ∧ tt σ2 H2 fun b H3 =>
        if b = true then te σ2 H3 fun y H4 => ∃ acc, H4 D = some (.lst acc) ∧ acc.length < sizeLine ∧ Nx (upd H4 D (.lst (acc ++ [y]))) else Nx H3) :=
  lc_any xs.length Pv hF hS h0 (fun i H' F' hi z => ⟨xs, xs[i], SqL.of (z.keep _ _ na ha), by simp [hi]⟩) (fun H' F' z => ⟨xs, SqL.of (z.keep _ _ na ha), Nat.le_refl _⟩) hz
    (fun i acc H' F' x Hx hi z p y R R' hR hR' => by
      obtain ⟨e, y⟩ := y
      subst e
      exact ⟨hw x, hs i acc _ F' x (y xs (SqL.of (z.keep _ _ na ha))) z p R R' hR hR'⟩) hd
/-- over lo, lo + 1, .. -/
theorem lc_R {lo : Int} {n : Nat} (Pv : Nat → List V → Hp → Prop) (hF : Same F H) (hS : ∀ b, S b → H b ≠ none) (h0 : Pv 0 [] F) (hz : n < 10000) (hw : ∀ x, wipe ((wipe σ vs).set j (some x)) vs = wipe σ vs)
    (hs : ∀ i acc H' F', i < n → Fz S H F H' F' → Pv i acc F' → ∀ (R : V → Hp → Prop) (R' : Hp → Prop), (∀ y H4 F2, Fz S H' F' H4 F2 → Pv (i + 1) (acc ++ [y]) F2 → R y H4) → (∀ H3 F2, Fz S H' F' H3 F2 → Pv (i + 1) acc F2 → R' H3) →
      tt ((wipe σ vs).set j (some (.int (lo + i)))) H' fun b H3 => if b = true then te ((wipe σ vs).set j (some (.int (lo + i)))) H3 R else R' H3)
    (hd : ∀ D ys H' F', H D = none → Fz S H F H' F' → H' D = some (.lst ys) → F' D = none → Pv n ys F' → Qd D H') :
    ∀ D, H D = none → ∃ W : Nat → Nat → Hp → Prop, (∃ m, W 0 m (upd H D (.lst []))) ∧ ∀ i m H, W i m H →
      ((Itr lo n).stop i H ∧ Qd D H) ∨ ((Itr lo n).go i H ∧ ∃ Nx : Hp → Prop, (∀ H', Nx H' → ∃ m', m' < m ∧ W (i + 1) m' H') ∧ ∀ x H', (Itr lo n).yld i H x H' → gName j x (wipe σ vs) H' fun σ2 H2 => wipe σ2 vs = wipe σ vs ∧ tt σ2 H2 fun b H3 =>
        if b = true then te σ2 H3 fun y H4 => ∃ acc, H4 D = some (.lst acc) ∧ acc.length < sizeLine ∧ Nx (upd H4 D (.lst (acc ++ [y]))) else Nx H3) :=
  lc_any n Pv hF hS h0 (fun i H' F' hi z => hi) (fun H' F' z => Nat.le_refl _) hz
    (fun i acc H' F' x Hx hi z p y R R' hR hR' => by
      obtain ⟨e, y⟩ := y
      subst e y
      exact ⟨hw _, hs i acc _ F' hi z p R R' hR hR'⟩) hd
/-- the reading of «a, b = a new pair» -/
theorem pair_tg {j1 j2 : Nat} {T : Addr} {x y : V} {H' : Hp} {σ' : L2.St} {C : L2.St → Hp → Prop} (h : C ((σ'.set j1 (some x)).set j2 (some y)) (upd H' T (.tup [x, y]))) :
    gTup K 2 (gCons (gName j1) (gCons (gName j2) gNil)) (.ref T) σ' (upd H' T (.tup [x, y])) C :=
  ⟨T, [x, y], rfl, .inl (.inl upd_same), rfl, x, [y], rfl, y, [], rfl, rfl, h⟩
/-- over zip of two lists -/
theorem lc_Z {a b : Addr} {xs ys : List V} {j1 j2 : Nat} (hl : xs.length = ys.length) (Pv : Nat → List V → Hp → Prop) (hF : Same F H) (hS : ∀ b, S b → H b ≠ none) (ha : H a = some (.lst xs)) (na : ¬ S a) (hb : H b = some (.lst ys)) (nb : ¬ S b) (h0 : Pv 0 [] F) (hz : xs.length < 10000)
    (hw : ∀ x y, wipe (((wipe σ vs).set j1 (some x)).set j2 (some y)) vs = wipe σ vs)
    (hs : ∀ i acc H' F' x y, xs[i]? = some x → ys[i]? = some y → Fz S H F H' F' → Pv i acc F' → ∀ (R : V → Hp → Prop) (R' : Hp → Prop), (∀ y H4 F2, Fz S H' F' H4 F2 → Pv (i + 1) (acc ++ [y]) F2 → R y H4) → (∀ H3 F2, Fz S H' F' H3 F2 → Pv (i + 1) acc F2 → R' H3) →
      tt (((wipe σ vs).set j1 (some x)).set j2 (some y)) H' fun b H3 => if b = true then te (((wipe σ vs).set j1 (some x)).set j2 (some y)) H3 R else R' H3)
    (hd : ∀ D ys H' F', H D = none → Fz S H F H' F' → H' D = some (.lst ys) → F' D = none → Pv xs.length ys F' → Qd D H') :
    ∀ D, H D = none → ∃ W : Nat → Nat → Hp → Prop, (∃ m, W 0 m (upd H D (.lst []))) ∧ ∀ i m H, W i m H →
      ((Itz K a b).stop i H ∧ Qd D H) ∨ ((Itz K a b).go i H ∧ ∃ Nx : Hp → Prop, (∀ H', Nx H' → ∃ m', m' < m ∧ W (i + 1) m' H') ∧ ∀ x H', (Itz K a b).yld i H x H' → gTup K 2 (gCons (gName j1) (gCons (gName j2) gNil)) x (wipe σ vs) H' fun σ2 H2 => wipe σ2 vs = wipe σ vs ∧ tt σ2 H2 fun b H3 =>
        if b = true then te σ2 H3 fun y H4 => ∃ acc, H4 D = some (.lst acc) ∧ acc.length < sizeLine ∧ Nx (upd H4 D (.lst (acc ++ [y]))) else Nx H3) :=
  lc_any xs.length Pv hF hS h0 (fun i H' F' hi z => ⟨xs, ys, xs[i], ys[i], SqL.of (z.keep _ _ na ha), SqL.of (z.keep _ _ nb hb), by simp [hi], by simp [← hl, hi]⟩) (fun H' F' z => ⟨xs, ys, SqL.of (z.keep _ _ na ha), SqL.of (z.keep _ _ nb hb), .inl (Nat.le_refl _)⟩) hz
    (fun i acc H' F' v Hx hi z p y R R' hR hR' => by
      obtain ⟨T, x, y, rfl, nT, rfl, f1, f2⟩ := y
      have zt := (Fz.raw (o := .tup [x, y]) z.sub nT).to (S := S)
      refine pair_tg ⟨hw x y, hs i acc _ F' x y (f1 xs (SqL.of (z.keep _ _ na ha))) (f2 ys (SqL.of (z.keep _ _ nb hb))) (z.trans zt) p R R' (fun y H4 F2 z4 p4 => hR y H4 F2 (zt.trans z4) p4) (fun H3 F2 z3 p3 => hR' H3 F2 (zt.trans z3) p3)⟩) hd
/-- over enumerate of a list -/
theorem lc_E {a : Addr} {xs : List V} {j1 j2 : Nat} (Pv : Nat → List V → Hp → Prop) (hF : Same F H) (hS : ∀ b, S b → H b ≠ none) (ha : H a = some (.lst xs)) (na : ¬ S a) (h0 : Pv 0 [] F) (hz : xs.length < 10000)
    (hw : ∀ x y, wipe (((wipe σ vs).set j1 (some x)).set j2 (some y)) vs = wipe σ vs)
    (hs : ∀ i acc H' F' x, xs[i]? = some x → Fz S H F H' F' → Pv i acc F' → ∀ (R : V → Hp → Prop) (R' : Hp → Prop), (∀ y H4 F2, Fz S H' F' H4 F2 → Pv (i + 1) (acc ++ [y]) F2 → R y H4) → (∀ H3 F2, Fz S H' F' H3 F2 → Pv (i + 1) acc F2 → R' H3) →
      tt (((wipe σ vs).set j1 (some (.int (i : Nat)))).set j2 (some x)) H' fun b H3 => if b = true then te (((wipe σ vs).set j1 (some (.int (i : Nat)))).set j2 (some x)) H3 R else R' H3)
    (hd : ∀ D ys H' F', H D = none → Fz S H F H' F' → H' D = some (.lst ys) → F' D = none → Pv xs.length ys F' → Qd D H') :
    ∀ D, H D = none → ∃ W : Nat → Nat → Hp → Prop, (∃ m, W 0 m (upd H D (.lst []))) ∧ ∀ i m H, W i m H →
      ((Ite K a).stop i H ∧ Qd D H) ∨ ((Ite K a).go i H ∧ ∃ Nx : Hp → Prop, (∀ H', Nx H' → ∃ m', m' < m ∧ W (i + 1) m' H') ∧ ∀ x H', (Ite K a).yld i H x H' → gTup K 2 (gCons (gName j1) (gCons (gName j2) gNil)) x (wipe σ vs) H' fun σ2 H2 => wipe σ2 vs = wipe σ vs ∧ tt σ2 H2 fun b H3 =>
        if b = true then te σ2 H3 fun y H4 => ∃ acc, H4 D = some (.lst acc) ∧ acc.length < sizeLine ∧ Nx (upd H4 D (.lst (acc ++ [y]))) else Nx H3) :=
  lc_any xs.length Pv hF hS h0 (fun i H' F' hi z => ⟨xs, xs[i], SqL.of (z.keep _ _ na ha), by simp [hi]⟩) (fun H' F' z => ⟨xs, SqL.of (z.keep _ _ na ha), Nat.le_refl _⟩) hz
    (fun i acc H' F' v Hx hi z p y R R' hR hR' => by
      obtain ⟨T, x, rfl, nT, rfl, f1⟩ := y
      have zt := (Fz.raw (o := .tup [.int (i : Nat), x]) z.sub nT).to (S := S)
      refine pair_tg ⟨hw _ x, hs i acc _ F' x (f1 xs (SqL.of (z.keep _ _ na ha))) (z.trans zt) p R R' (fun y H4 F2 z4 p4 => hR y H4 F2 (zt.trans z4) p4) (fun H3 F2 z3 p3 => hR' H3 F2 (zt.trans z3) p3)⟩) hd
/-- a comprehension without a test -/
theorem yes {te : TE} {σ : L2.St} {H : Hp} {R : V → Hp → Prop} {R' : Hp → Prop} (h : te σ H R) : tYes σ H fun b H3 => if b = true then te σ H3 R else R' H3 := by
  show (if true = true then te σ H R else R' H)
  exact iteT h
end
/-! ### loops -/
section
variable {K : PySem.W.Frag} {tb : TS} {D : Ends} {σ : L2.St} {H : Hp}
/-- over zip of two lists of one length: the loop's own pairs are new objects -/
theorem for_Z {a b : Addr} {xs ys : List V} {j1 j2 : Nat} (hl : xs.length = ys.length) (Pv : Nat → L2.St → Hp → Prop) (h0 : Pv 0 σ H) (hq : ∀ i σ H, Pv i σ H → SqL K H a xs ∧ SqL K H b ys)
    (hs : ∀ i x y T σ H, xs[i]? = some x → ys[i]? = some y → Pv i σ H → H T = none → tb { D with nx := Pv (i + 1), ct := Pv (i + 1), bk := D.nx } ((σ.set j1 (some x)).set j2 (some y)) (upd H T (.tup [x, y]))) (hd : ∀ σ H, Pv xs.length σ H → D.nx σ H) :
    ∃ W : Nat → Nat → L2.St → Hp → Prop, (∃ m, W 0 m σ H) ∧ ∀ i m σ H, W i m σ H →
      ((Itz K a b).stop i H ∧ D.nx σ H) ∨ ((Itz K a b).go i H ∧ ∃ N : L2.St → Hp → Prop, (∀ σ' H', N σ' H' → ∃ m', m' < m ∧ W (i + 1) m' σ' H') ∧ ∀ x H', (Itz K a b).yld i H x H' → gTup K 2 (gCons (gName j1) (gCons (gName j2) gNil)) x σ H' fun σ2 H2 => tb { D with nx := N, ct := N, bk := D.nx } σ2 H2) := by
  refine ⟨fun i m σ H => m = xs.length - i ∧ i ≤ xs.length ∧ Pv i σ H, ⟨xs.length, by simp, Nat.zero_le _, h0⟩, ?_⟩
  rintro i m σ H ⟨rfl, hi, p⟩
  obtain ⟨q1, q2⟩ := hq i σ H p
  by_cases hlt : i < xs.length
  · refine .inr ⟨⟨xs, ys, xs[i], ys[i], q1, q2, by simp [hlt], by simp [← hl, hlt]⟩, Pv (i + 1), fun σ' H' p' => ⟨xs.length - (i + 1), by omega, rfl, hlt, p'⟩, fun v Hx y => ?_⟩
    obtain ⟨T, x, y, rfl, nT, rfl, f1, f2⟩ := y
    exact pair_tg (hs i x y T σ H (f1 xs q1) (f2 ys q2) p nT)
  · have e : i = xs.length := by omega
    subst e
    exact .inl ⟨⟨xs, ys, q1, q2, .inl (Nat.le_refl _)⟩, hd σ H p⟩
/-- over enumerate -/
theorem for_E {a : Addr} {xs : List V} {j1 j2 : Nat} (Pv : Nat → L2.St → Hp → Prop) (h0 : Pv 0 σ H) (hq : ∀ i σ H, Pv i σ H → SqL K H a xs)
    (hs : ∀ i x T σ H, xs[i]? = some x → Pv i σ H → H T = none → tb { D with nx := Pv (i + 1), ct := Pv (i + 1), bk := D.nx } ((σ.set j1 (some (.int (i : Nat)))).set j2 (some x)) (upd H T (.tup [.int (i : Nat), x]))) (hd : ∀ σ H, Pv xs.length σ H → D.nx σ H) :
    ∃ W : Nat → Nat → L2.St → Hp → Prop, (∃ m, W 0 m σ H) ∧ ∀ i m σ H, W i m σ H →
      ((Ite K a).stop i H ∧ D.nx σ H) ∨ ((Ite K a).go i H ∧ ∃ N : L2.St → Hp → Prop, (∀ σ' H', N σ' H' → ∃ m', m' < m ∧ W (i + 1) m' σ' H') ∧ ∀ x H', (Ite K a).yld i H x H' → gTup K 2 (gCons (gName j1) (gCons (gName j2) gNil)) x σ H' fun σ2 H2 => tb { D with nx := N, ct := N, bk := D.nx } σ2 H2) := by
  refine ⟨fun i m σ H => m = xs.length - i ∧ i ≤ xs.length ∧ Pv i σ H, ⟨xs.length, by simp, Nat.zero_le _, h0⟩, ?_⟩
  rintro i m σ H ⟨rfl, hi, p⟩
  have q1 := hq i σ H p
  by_cases hlt : i < xs.length
  · refine .inr ⟨⟨xs, xs[i], q1, by simp [hlt]⟩, Pv (i + 1), fun σ' H' p' => ⟨xs.length - (i + 1), by omega, rfl, hlt, p'⟩, fun v Hx y => ?_⟩
    obtain ⟨T, x, rfl, nT, rfl, f1⟩ := y
    exact pair_tg (hs i x T σ H (f1 xs q1) p nT)
  · have e : i = xs.length := by omega
    subst e
    exact .inl ⟨⟨xs, q1, Nat.le_refl _⟩, hd σ H p⟩
end
end K3
end
section
set_option Elab.async false
set_option linter.all false
set_option maxRecDepth 100000
namespace K3
open PySem PySem.Spec PyProof.Rows L2
section
variable {X : Cx}
/-- l.remove(x): the first equal one, items data of any depth -/
def rRemoveD (K : PySem.W.Frag) : V → List V → Hp → VK → Prop := fun x xs H Q => ∃ (a : Addr) (ys : List V) (y : V) (d : PyData) (ds : List PyData) (j : Nat) (z : PyData), x = V.ref a ∧ xs = [y] ∧ H a = some (.lst ys) ∧ DpAll K H ys ds ∧ Dp K H y d ∧
  SeqAt.shaped (.list ds) = true ∧ SeqAt.shaped d = true ∧ ds[j]? = some z ∧ PyData.eqv z d = true ∧ (∀ (m : Nat) (z' : PyData), m < j → ds[m]? = some z' → PyData.eqv z' d = false) ∧ Q .non (upd H a (.lst (ys.eraseIdx j)))
theorem mt_removeD (hu : X.A.units + 65 < cLine) : MtM X "list.remove" (rRemoveD X.K) := by
  intro pins s σ H x xs v us Q I rx rxs h
  obtain ⟨a, ys, y, d, ds, j, z, rfl, rfl, ha0, ha, hy, sl, sd, hz, hzj, hno, q⟩ := h
  cases rx
  obtain ⟨uy, rfl, ry⟩ := rxs.one
  obtain ⟨bs, r1⟩ := Dp.reads I d y uy hy ry
  have hxs : PyData.canLayAll0 ds = true := SeqAt.canLay_of_shaped sl
  have hroom : X.A.units + 1 + min (PyData.depthAll ds) d.depth < cLine := room_in_shaped sd hu
  obtain ⟨zz, its, n, rv, hl, e0⟩ := I.lstM ha0
  obtain ⟨as, h4⟩ := Dp.readsAll I ds _ its ha rv
  have hn : its.length = ds.length := SeqAt.ReadsAll.length ds its as h4
  have hmap : its.map (SeqAt.readOf s.heap) = ds := SeqAt.readsAll_map ds its as hxs h4
  have hsl := sizeLine_eq
  obtain ⟨hjd, _⟩ := List.getElem?_eq_some_iff.mp hz
  have hjl : j < its.length := by omega
  have hj : j < its.toArray.size := by simpa using hjl
  have at_ : ∀ (m : Nat) (hm : m < its.toArray.size) (z' : PyData), ds[m]? = some z' → SeqAt.readOf s.heap its.toArray[m] = z' := by
    intro m hm z' hz'
    have hml : m < its.length := by simpa using hm
    rw [← hmap, List.getElem?_map, List.getElem?_eq_getElem hml] at hz'
    have e1 : SeqAt.readOf s.heap its[m] = z' := Option.some.inj (show some (SeqAt.readOf s.heap its[m]) = some z' from hz')
    simpa using e1
  have hsz : its.toArray.size ≤ sizeLine := by rw [List.size_toArray, ← hl]; exact zz
  refine call_meets PySem.F.slot_list_remove ⟨_, e0, rfl⟩ PySem.F.entry_list_remove (PySem.F.args_list_remove_2 _ _)
    (SeqAt.list_removeAt a its.toArray n none #[] uy (fun u => PyData.eqv (SeqAt.readOf s.heap u) d) j hj ?_ ?_ hsz) ⟨e0, SeqAt.items_eqAt (vs := its.toArray) (show ReadsAll s.heap its.toArray.toList ds as from h4) r1 hxs (SeqAt.canLay_of_shaped sd) hroom, ?_⟩
  · show PyData.eqv (SeqAt.readOf s.heap its.toArray[j]) d = true
    rw [at_ j hj z hz]
    exact hzj
  · intro m hm hmj
    have hmd : m < ds.length := by have : m < its.length := by simpa using hm
                                   omega
    have hz' : ds[m]? = some ds[m] := List.getElem?_eq_getElem hmd
    show PyData.eqv (SeqAt.readOf s.heap its.toArray[m]) d = false
    rw [at_ m hm _ hz']
    exact hno m _ hmj hz'
  · refine ⟨.non, _, I.lset (its' := its.eraseIdx j) ha0 e0 ?_ (rv.eraseIdx j) ?_, rfl, q⟩
    · show its.toArray.eraseIdxIfInBounds j = (its.eraseIdx j).toArray
      rw [List.eraseIdxIfInBounds_toArray]
    · have := len_erase ys j
      omega
theorem u65 {k : Nat} {A : Around} (hr : Room k A) : A.units + 65 < cLine := by have := hr.un; omega

/-- name = {..} on one line, the name a local -/
theorem ps_setDc {i : Nat} {y : Str} {py : Pos} {kx vx tg iter : Expr} {ifs : List Expr} {scope : Scope} {own : List (Str × Nat)} {pos spos : Pos} {wi : TI} {g : TG} {tt : TT} {tk tv : TE} (hc : X.calm = true) (hN : X.N.Nodup) (hy : X.N[i]? = some y) (hyl : X.env.scope.names.lookup y = some .local)
    (hsw : swapsWith (.DictComp kx vx [⟨tg, iter, ifs, 0⟩] scope pos) (some (.Name y py)) spos.line X.env = pure true) (hi : PI X tg iter wi) (ok : BlkOk X.N X.env.scope scope own)
    (hg : ∀ (s : Shared) (H : Hp) (C : Addr) (cl : List (Str × Addr)) (fp : List Addr), PG (X.blk s H scope (compEnvC scope cl C X.env) fp) tg g) (ht : ∀ (s : Shared) (H : Hp) (C : Addr) (cl : List (Str × Addr)) (fp : List Addr), PTs (X.blk s H scope (compEnvC scope cl C X.env) fp) ifs tt)
    (hk : ∀ (s : Shared) (H : Hp) (C : Addr) (cl : List (Str × Addr)) (fp : List Addr), PE (X.blk s H scope (compEnvC scope cl C X.env) fp) kx tk)
    (he : ∀ (s : Shared) (H : Hp) (C : Addr) (cl : List (Str × Addr)) (fp : List Addr), PE (X.blk s H scope (compEnvC scope cl C X.env) fp) vx tv) (hs : ∀ x, foldedSetIterable iter X.env x = pure x := by intro _; rfl) :
    PS X (.Assign [.Name y py] (.DictComp kx vx [⟨tg, iter, ifs, 0⟩] scope pos) spos) (tAsg (tDc wi g tt tk tv (own.map (·.2))) (gName i)) := by
  refine ⟨fun pins s σ H D I h => ?_⟩
  rw [exec_Assign_Name_used _ _ _ _ hsw]
  refine wpAny_bind (wpAny_standAt (wpAny_bind ?_))
  show wpAny _ X.A (do let _ ← comprehension (.DictComp kx vx [⟨tg, iter, ifs, 0⟩] scope pos) scope X.env (firstIterPos [⟨tg, iter, ifs, 0⟩] pos) newDict false (eval iter X.env) (some (assign (.Name y py) X.env))) _ _ s
  have h : tDc wi g tt tk tv (own.map (·.2)) σ H (fun x H1 => gName i x σ H1 D.nx) := h
  refine wpAny_bind (thn (dc_core (Qf := fun _ s' => SP X pins D .next s') hc hN I hi ok hg ht hk he hs h fun L C s' m H' I' q hn f => ?_) fun _ s' hq => wpAny_pure (wpAny_pure hq))
  show wpAny _ _ (assign (.Name y py) X.env (.ref L)) _ _ _
  refine wpAny_assign_Name (store_ok2 (v := V.ref L) I' hN hy (.inl hyl) rfl (fun s2 I2 ⟨a, sb, ha⟩ => ?_) (.inr hyl))
  obtain ⟨f0, f1, f2, f3, f4, f5⟩ := f
  have haC : C ≠ a := by
    rcases ha with z | z
    · rw [z]; exact f1
    · exact fun e => f4 y a z e.symm
  refine ⟨m, hn.sameBut sb haC, fun h3 sb3 => ?_⟩
  exact ⟨_, H', I2.turned (t' := s2.toks) (fun b o hb e => (sb3.2 b hb).trans e) f0 f1 f3 f4 f5, q⟩
theorem sw_trueD {kx vx : Expr} {gs : List Comprehension} {scope : Scope} {pos py : Pos} {y : Str} {l : Nat} {env : Env} (hk : env.scope.kind = .function) (hy : env.scope.names.lookup y = some .local) (hl : (py.line == pos.line) = true)
    (ha : (scope.names.any fun (n, k) => n == y && (k == .local || k == .cell)) = false) : swapsWith (.DictComp kx vx gs scope pos) (some (.Name y py)) l env = pure true := by
  have ky : env.kindOf y = some .local := hy
  have hb : env.blockKind = .function := by unfold Env.blockKind; rw [hk]; rfl
  unfold swapsWith
  simp only [hb, ky, ha, Expr.pos, hl]
  rfl
end
/-! ### rules with the written part named: for what stands within a comprehension -/
section
variable {X : Cx} {K : PySem.W.Frag}
def rListOf (K : PySem.W.Frag) : List V → Hp → VK → Prop := fun xs H Q => ∃ p ys, xs = [.ref p] ∧ (SqL K H p ys ∨ SqT K H p ys) ∧ ∀ l, H l = none → Q (.ref l) (upd H l (.lst ys))
def rLenOf (K : PySem.W.Frag) : List V → Hp → VK → Prop := fun xs H Q => ∃ p ys, xs = [.ref p] ∧ (SqL K H p ys ∨ SqT K H p ys) ∧ Q (.int ys.length) H
theorem ix_listK (h : X.K = K) : IxR X (rIxL K) := h ▸ ix_list
theorem ix_tupK (h : X.K = K) : IxR X (rIxT K) := h ▸ ix_tup
theorem call_list_ofK (h : X.K = K) : CallR X (.type "list") (rListOf K) := h ▸ call_list_of
theorem call_len_seqK (h : X.K = K) : CallR X (.builtin "len") (rLenOf K) := h ▸ call_len_seq
theorem op_in_seqK (h : X.K = K) : OpR X (compareOp .In) (rIn K false) := h ▸ op_in_seq
theorem op_notIn_seqK (h : X.K = K) : OpR X (compareOp .NotIn) (rIn K true) := h ▸ op_notIn_seq
theorem sl_listK (h : X.K = K) : SlR X (rSlL K) := h ▸ sl_list
theorem pe_fldK {e : Expr} {f : Str} {pos : Pos} {ta : TE} (h : X.K = K) (he : PE X e ta) (hb : attributeBase e f X.env (eval e X.env) = eval e X.env) : PE X (.Attribute e f pos) (tFld K ta f) := h ▸ pe_fld he hb
end
/-! ### several except clauses with names -/
/-- what the clauses wish of an exception of the body: class, slot of the name, suite -/
def wManyAs (K : PySem.W.Frag) (Wout : WX) (D : Ends) : List (Value × Nat × (Addr → Value → Option Addr → TS)) → WX
  | [] => Wout
  | (c, i, ts) :: r => fun cls d σ H => ∃ b, PySem.W.exmOne K cls c = some b ∧ (b = true → ∀ a, H a = none → ts a cls d { nx := fun σ' H' => D.nx (σ'.set i none) H', rt := D.rt, bk := fun σ' H' => D.bk (σ'.set i none) H', ct := fun σ' H' => D.ct (σ'.set i none) H' } (σ.set i (some (.ref a))) H) ∧
      (b = false → wManyAs K Wout D r cls d σ H)
inductive HdsAs (X : Cx) : List ExceptHandler → List (Value × Nat × (Addr → Value → Option Addr → TS)) → Prop
  | nil : HdsAs X [] []
  | cons {x n : Str} {c : Value} {i : Nat} {ts : Addr → Value → Option Addr → TS} {b₀ : Stmt} {suite : List Stmt} {np pos' : Pos} {hds : List ExceptHandler} {l : List (Value × Nat × (Addr → Value → Option Addr → TS))} (hi : X.N[i]? = some n) (hln : X.env.kindOf n = some .local) (hc : Names X x c)
      (hsu : ∀ (a : Addr) (oe : Obj) (cls : Value) (d : Option Addr) (pn : List (Addr × Obj)), Zc cls d oe → (∃ vs, oe.data = .fields vs) → PSs (X.suite a ((a, oe) :: pn)) (b₀ :: suite) (ts a cls d)) (r : HdsAs X hds l) :
      HdsAs X (.ExceptHandler (some (.Name x np)) (some n) (b₀ :: suite) pos' :: hds) ((c, i, ts) :: l)
section
variable {X : Cx} {body : List Stmt} {h₀ : ExceptHandler} {hds : List ExceptHandler} {l : List (Value × Nat × (Addr → Value → Option Addr → TS))} {pos : Pos} {tb : WX → TS} {Wout : WX}
theorem ps_try_manyAs (hs : X.stack = X.env :: X.outer) (hf : X.env.frame = some X.env.locals) (hN : X.N.Nodup) (tk : Takes X Wout)
    (hb : ∀ (W : WX) (pn : List (Addr × Obj)) (xe : Value → Shared → Prop), Takes (X.tr pn xe) W → PassesOwn (model X.prog X.w) X.A X.env xe → PSs (X.tr pn xe) body (tb W))
    (hh : HdsAs X (h₀ :: hds) l) : PS X (.Try body (h₀ :: hds) [] [] pos) (fun D σ H => tb (wManyAs X.K Wout D l) D σ H) := by
  refine ⟨fun pins s σ H D I h => ?_⟩
  have ok := I.ok
  have hfr : X.A.frames = some (X.env :: X.outer) := by rw [ok.frames, hs]
  refine wpAny_Try_except ?_
  refine wpAny_mono ((hb (wManyAs X.K Wout D l) (X.pn ++ pins) (fun e s₁ => wpAny (model X.prog X.w) X.A (noteFrame e X.env) (fun _ s₂ => wpAny (model X.prog X.w) X.A (setFlight e none) (fun _ s₃ =>
    wpAny (model X.prog X.w) X.A (handleBy e X.env (h₀ :: hds)) (SP X pins D) X.xe s₃) X.xe s₂) X.xe s₁) (fun u s' xx => ?_) PassesOwn.looking).run [] s σ H D (I.toTry _) h) (fun f s1 hsp => ?_) (fun e s1 he => he)
  · -- the catch
    obtain ⟨a, B, sI, pins', σ', H', cls, d, rfl, J', nb, up, sky, na, os, ag, w⟩ := xx
    have J : Inv X pins σ' H' sI := J'.ofTry ok
    have sky' : Sky B (X.env :: X.outer) a (Zc cls d) X.env.locals s'.heap := by rw [← hs]; exact sky
    show wpAny (model X.prog X.w) X.A (noteFrame (.ref a) X.env) _ _ _
    refine Sky.land Zc.steady hfr hf sky' fun h3 fl3 up3 => ?_
    have J3 : Inv X pins σ' H' { s' with heap := h3 } := J.landed nb fl3.1 (up.trans up3) os ag
    obtain ⟨oe3, vs3, he3, hz3, hd3⟩ := fl3.there
    have notFr : ∀ {h : Heap} {o : Obj} {vs : Array Value}, h.FunFrames B (X.env :: X.outer) → h.get? a = some o → o.data = .fields vs → a ∉ frs (X.env :: X.outer) := fun {h o vs} ff e dd hm => by
      obtain ⟨_, o', e', hnf⟩ := ff.mem hm
      rw [e] at e'; cases e'
      exact hnf _ dd
    have nfr := notFr fl3.2.2.1 he3 hd3
    have nL : a ≠ X.env.locals := fun z => nfr (List.mem_filterMap.mpr ⟨X.env, List.mem_cons_self, by rw [hf, z]⟩)
    have nF : a ∉ X.fs := fun hm => by
      obtain ⟨e, he, q⟩ := List.mem_filterMap.mp hm
      exact nfr (List.mem_filterMap.mpr ⟨e, List.mem_cons_of_mem _ he, q⟩)
    have S3 := J3.suite he3 hd3 na nL nF
    have go : ∀ {hds' : List ExceptHandler} {l' : List (Value × Nat × (Addr → Value → Option Addr → TS))}, HdsAs X hds' l' → wManyAs X.K Wout D l' cls d σ' H' →
        wpAny (model X.prog X.w) X.A (handleBy (.ref a) X.env hds') (SP X pins D) X.xe { s' with heap := h3 } := by
      intro hds' l' hk
      induction hk with
      | nil =>
        intro w
        refine wpAny_handleBy_nil ?_
        obtain ⟨k1, k2, k3, oe, vs, T, oT, ts', he, hz, hd, h1, hr⟩ := id fl3
        unfold PySem.passOn
        refine wpAny_bind (wpAny_field he hd h1 ?_)
        rw [if_neg (show ¬ ((Value.ref T == Value.none) = true) from by simp)]
        have fin : wpAny (model X.prog X.w) X.A (setFlight (.ref a) X.env.frame) (fun _ s4 => wpAny (model X.prog X.w) X.A (throw (.ref a) : Sem Flow) (SP X pins D) X.xe s4) X.xe { s' with heap := h3 } := by
          rw [hf]
          refine HandSPX.setFlight_upZ fl3 fun h4 hh4 up4 => wpAny_throw (tk _ _ ?_)
          exact ⟨a, B, sI, pins, σ', H', cls, d, rfl, J, nb, (up.trans up3).trans up4, .inr (.inr (by rw [hs]; exact hh4)), na, os, ag, w⟩
        first
          | exact wpAny_bind (wpAny_pure (wpAny_bind fin))
          | exact wpAny_bind fin
      | @cons x n c i ts b₀ suite np pos' hds2 l2 hi hln hc hsu r ih =>
        intro w
        obtain ⟨b, hb1, hyes, hno⟩ := w
        have hloc : Loc X.env.scope n := .inl hln
        refine wpAny_handleBy_cons (codeAny_handlers_test ?_) (by intro q; cases q)
        have LT : PySem.W.Looks (model X.prog X.w) h3 (typeOf (.ref a)) cls := fun A Q E s k q => wpAny_typeOf_ref (k _ _ he3) (by rw [hz3.1]; exact q)
        have LM := PySem.W.exm_one (M := model X.prog X.w) (J3.kIn) LT hb1
        have test : ∀ {Q : Value → Shared → Prop} {E : Value → Shared → Prop}, Q c { s' with heap := h3 } → wpAny (model X.prog X.w) (X.A.mark (some (.ref a))) (eval (.Name x np) X.env) Q E { s' with heap := h3 } := fun {Q E} q => by
          obtain ⟨hg, hdbg, hm | ⟨hm, hv, hnn⟩⟩ := hc
          · exact ld_glob (X := X.suite a ((a, oe3) :: (X.pn ++ pins))) S3 hg hm q hdbg
          · exact ld_blt (X := X.suite a ((a, oe3) :: (X.pn ++ pins))) S3 hg hm hv q hnn hdbg
        refine test (LM.here ?_)
        cases b with
        | true =>
          refine codeAny_handlers_suite_as ?_
          refine HandSPX.lands_againZ fl3 fun h4 fl4 up4 => ?_
          have J4 : Inv X pins σ' H' { s' with heap := h4 } := J.landed nb fl4.1 ((up.trans up3).trans up4) os ag
          obtain ⟨oe4, vs4, he4, hz4, hd4⟩ := fl4.there
          have S4 := J4.suite he4 hd4 na nL nF
          refine store_ok (X := X.suite a ((a, oe4) :: (X.pn ++ pins))) (v := .ref a) S4 hN hi hloc rfl (fun s5 S5 => ?_) (.inr hln)
          refine wpAny_mono ((hsu a oe4 cls d (X.pn ++ pins) hz4 ⟨_, hd4⟩).run [] s5 _ H' _ S5 (hyes rfl a na)) (fun f s6 hsp => ?_) (fun _ _ z => False.elim z)
          have end_ : ∀ {σ6 : L2.St} {H6 : Hp} {Q : Shared → Prop}, Inv (X.suite a ((a, oe4) :: (X.pn ++ pins))) [] σ6 H6 s6 → (∀ s7, Inv X pins (σ6.set i none) H6 s7 → Q s7) →
              wpAny (model X.prog X.w) X.A (do bindName X.env n .none; unbindBehindTheSuite X.env n pos') (fun _ s7 => Q s7) X.xe s6 := fun {σ6 H6 Q} S6 hq => gone_ok (S6.unsuite ok) hN hi hln hq
          cases f with
          | next =>
            obtain ⟨σ6, H6, S6, q6⟩ := hsp
            exact end_ S6 fun s7 J7 => ⟨_, _, J7, q6⟩
          | brk =>
            obtain ⟨σ6, H6, S6, q6⟩ := hsp
            exact end_ S6 fun s7 J7 => ⟨_, _, J7, q6⟩
          | cont =>
            obtain ⟨σ6, H6, S6, q6⟩ := hsp
            exact end_ S6 fun s7 J7 => ⟨_, _, J7, q6⟩
          | ret u =>
            obtain ⟨v6, σ6, H6, S6, r6, q6⟩ := hsp
            exact end_ S6 fun s7 J7 => ⟨_, _, _, J7, r6, q6⟩
        | false =>
          show wpAny _ X.A (handleBy (.ref a) X.env hds2) _ _ _
          exact ih (hno rfl)
    exact go hh w
  · cases f with
    | next =>
      obtain ⟨σ', H', J', q⟩ := hsp
      exact wpAny_execs_nil ⟨σ', H', J'.ofTry ok, q⟩
    | brk =>
      obtain ⟨σ', H', J', q⟩ := hsp
      exact ⟨σ', H', J'.ofTry ok, q⟩
    | cont =>
      obtain ⟨σ', H', J', q⟩ := hsp
      exact ⟨σ', H', J'.ofTry ok, q⟩
    | ret u =>
      obtain ⟨v, σ', H', J', r, q⟩ := hsp
      exact ⟨v, σ', H', J'.ofTry ok, r, q⟩
end
end K3
end
section
set_option Elab.async false
set_option linter.all false
set_option maxRecDepth 100000
set_option exponentiation.threshold 100
namespace K3
open PySem PySem.Spec PyProof.Rows L2
/-! ### things frozen for good -/
/-- what the expression gives is frozen -/
def tFrzE (t : TE) : TE := fun σ H Q => t σ H fun v H' => ∃ d u, H' d = some u ∧ Mut (some u) ∧ ∀ od, Q v (upd H' d (.frz od u))
/-- a thing is frozen before the statement -/
def tFrz (t : TS) : TS := fun D σ H => ∃ d u, H d = some u ∧ Mut (some u) ∧ ∀ od, t D σ (upd H d (.frz od u))
section
variable {X : Cx}
theorem pe_frz {e : Expr} {t : TE} (h : PE X e t) : PE X e (tFrzE t) := by
  refine ⟨fun pins s σ H Q I hw => ?_⟩
  refine thn (h.run pins s σ _ _ I hw) fun v s1 ⟨x, H1, I1, r, d, u, hd, mu, q⟩ => ?_
  obtain ⟨od, I2⟩ := I1.lock hd mu
  exact ⟨x, _, I2, r, q od⟩
theorem ps_frz {st : Stmt} {t : TS} (h : PS X st t) : PS X st (tFrz t) := by
  refine ⟨fun pins s σ H D I hw => ?_⟩
  obtain ⟨d, u, hd, mu, hw⟩ := hw
  obtain ⟨od, I1⟩ := I.lock hd mu
  exact h.run pins s σ _ _ I1 (hw od)
/-- len of a dict, frozen or not -/
def rLenD : List V → Hp → VK → Prop := fun xs H Q => ∃ a kvs, xs = [V.ref a] ∧ Rd H a (.dK kvs) ∧ Q (.int kvs.length) H
theorem call_lenR : CallR X (.builtin "len") rLenD := by
  intro pins s σ H xs us Q I r h
  obtain ⟨a, kvs, rfl, ha, q⟩ := h
  obtain ⟨u, rfl, ru⟩ := vals1 r
  cases ru
  exact d_len I ha fun t s' I' => ⟨.int kvs.length, H, I', ⟨t, rfl⟩, q⟩
end
section
variable {S : Addr → Prop} {H F H' F' : Hp} {p : Addr} {o : HO}
theorem Fz.frz (x : Fz S H F H' F') (hn : H p = none) (hf : F' p = none) : Fz S H F (upd H' p o) (upd F' p o) := (x.set (.inl hn) hf).freeze hn upd_same hf
end
/-! ### dicts whose keys are texts -/
abbrev KVs := List (Key × V)
structure DOk (kvs : KVs) (N : Nat) : Prop where
  nd : (kvs.map (·.1)).Nodup
  st : ∀ p ∈ kvs, ∃ n : Str, p.1 = Sum.inr n
  le : kvs.length ≤ N
abbrev Cell := Hp → Str → Option V → Prop
def UpC (P : Cell) : Prop := ∀ F F' n o, Same F F' → P F n o → P F' n o
def DcK (P : Cell) (F : Hp) (kvs : KVs) (N : Nat) : Prop := DOk kvs N ∧ ∀ n : Str, P F n (valV kvs (Sum.inr n : Key))
def Dc (P : Cell) (N : Nat) (F : Hp) (v : V) : Prop := ∃ a od kvs, v = .ref a ∧ F a = some (.frz od (.dK kvs)) ∧ DcK P F kvs N
theorem DcK.up {P : Cell} (u : UpC P) {F F' : Hp} {kvs : KVs} {N : Nat} (h : DcK P F kvs N) (e : Same F F') : DcK P F' kvs N := ⟨h.1, fun n => u _ _ _ _ e (h.2 n)⟩
theorem Dc.up {P : Cell} (u : UpC P) {F F' : Hp} {v : V} {N : Nat} (h : Dc P N F v) (e : Same F F') : Dc P N F' v := let ⟨a, od, kvs, e1, e2, e3⟩ := h; ⟨a, od, kvs, e1, e _ _ e2, e3.up u e⟩
theorem DOk.nil {N : Nat} : DOk [] N := ⟨List.nodup_nil, fun p hp => (List.not_mem_nil hp).elim, Nat.zero_le _⟩
theorem DOk.mono {kvs : KVs} {N M : Nat} (h : DOk kvs N) (e : N ≤ M) : DOk kvs M := ⟨h.nd, h.st, Nat.le_trans h.le e⟩
theorem valV_at : ∀ {kvs : KVs} {i : Nat} {k : Key} {v : V}, (kvs.map (·.1)).Nodup → kvs[i]? = some (k, v) → valV kvs k = some v
  | p :: r, 0, k, v, nd, e => by
    simp at e
    subst e
    exact valV_pos rfl
  | p :: r, i + 1, k, v, nd, e => by
    rw [List.map_cons] at nd
    obtain ⟨h1, h2⟩ := List.nodup_cons.mp nd
    have e : r[i]? = some (k, v) := by simpa using e
    rw [valV_neg fun z => h1 (by rw [z]; exact List.mem_map.mpr ⟨_, List.mem_of_getElem? e, rfl⟩)]
    exact valV_at h2 e
theorem valV_mem : ∀ {kvs : KVs} {k : Key} {v : V}, valV kvs k = some v → (k, v) ∈ kvs
  | p :: r, k, v, e => by
    by_cases h : p.1 = k
    · rw [valV_pos h] at e
      cases e; subst h
      exact List.mem_cons_self
    · rw [valV_neg h] at e
      exact List.mem_cons_of_mem _ (valV_mem e)
theorem valV_key {kvs : KVs} {k : Key} (h : k ∈ kvs.map (·.1)) : (valV kvs k).isSome = true := by
  rw [← valV_any, List.any_eq_true]
  obtain ⟨p, hp, e⟩ := List.mem_map.mp h
  exact ⟨p, hp, decide_eq_true e⟩
theorem keys_put_old {kvs : KVs} {k : Key} {v : V} (h : (valV kvs k).isSome = true) : (putK kvs k v).map (·.1) = kvs.map (·.1) := by
  unfold putK
  rw [valV_any, if_pos h, List.map_map]
  refine List.map_congr_left fun p _ => ?_
  show (if p.1 = k then (p.1, v) else p).1 = p.1
  by_cases e : p.1 = k
  · rw [if_pos e]
  · rw [if_neg e]
theorem DOk.put {kvs : KVs} {N M : Nat} {n : Str} {v : V} (h : DOk kvs N) (hm : N + (if (valV kvs (Sum.inr n : Key)).isSome = true then 0 else 1) ≤ M) : DOk (putK kvs (Sum.inr n) v) M := by
  by_cases q : (valV kvs (Sum.inr n : Key)).isSome = true
  · rw [if_pos q] at hm
    have ek := keys_put_old (v := v) q
    refine ⟨by rw [ek]; exact h.nd, fun p hp => ?_, ?_⟩
    · have : p.1 ∈ (putK kvs (Sum.inr n) v).map (·.1) := List.mem_map.mpr ⟨p, hp, rfl⟩
      rw [ek] at this
      obtain ⟨p', hp', e⟩ := List.mem_map.mp this
      obtain ⟨m, em⟩ := h.st p' hp'
      exact ⟨m, by rw [← e]; exact em⟩
    · have := congrArg List.length ek
      rw [List.length_map, List.length_map] at this
      have := h.le
      omega
  · rw [if_neg q] at hm
    have q' : valV kvs (Sum.inr n : Key) = none := by cases z : valV kvs (Sum.inr n : Key) with
      | none => rfl
      | some _ => rw [z] at q; exact absurd rfl q
    rw [putK_new v q']
    refine ⟨?_, fun p hp => ?_, ?_⟩
    · rw [List.map_append]
      refine List.nodup_append.mpr ⟨h.nd, by simp, fun a ha b hb => ?_⟩
      simp at hb
      subst hb
      intro e
      subst e
      have := valV_key ha
      rw [q'] at this
      cases this
    · rcases List.mem_append.mp hp with z | z
      · exact h.st p z
      · simp at z; subst z; exact ⟨n, rfl⟩
    · have := h.le
      simp; omega
theorem valV_drop (k j : Key) : ∀ kvs : KVs, valV (dropK kvs k) j = if j = k then none else valV kvs j
  | [] => by by_cases e : j = k <;> simp [e, dropK, valV_nil]
  | p :: r => by
    have ih := valV_drop k j r
    by_cases e : p.1 = k
    · rw [dropK_pos e, ih]
      by_cases h : j = k
      · rw [if_pos h, if_pos h]
      · rw [if_neg h, if_neg h, valV_neg (fun z => h (z.symm.trans e))]
    · rw [dropK_neg e]
      by_cases h : p.1 = j
      · rw [valV_pos h, valV_pos h, if_neg (fun z => e (h.trans z))]
      · rw [valV_neg h, valV_neg h, ih]
theorem DOk.drop {kvs : KVs} {N : Nat} {k : Key} (h : DOk kvs N) : DOk (dropK kvs k) N :=
  ⟨h.nd.sublist ((List.filter_sublist (l := kvs)).map _), fun p hp => h.st p (List.mem_filter.mp hp).1, Nat.le_trans (dropK_le kvs k) h.le⟩
theorem inr_ne {a b : Str} : ((Sum.inr a : Key) = Sum.inr b) ↔ a = b := ⟨fun h => Sum.inr.inj h, fun h => by rw [h]⟩
theorem valV_putS (kvs : KVs) (k j : Str) (y : V) : valV (putK kvs (Sum.inr k : Key) y) (Sum.inr j) = if j = k then some y else valV kvs (Sum.inr j) := by
  rw [valV_put]
  by_cases h : j = k
  · rw [if_pos h, if_pos (by rw [h])]
  · rw [if_neg h, if_neg fun z => h (Sum.inr.inj z)]
theorem valV_dropS (kvs : KVs) (k j : Str) : valV (dropK kvs (Sum.inr k : Key)) (Sum.inr j) = if j = k then none else valV kvs (Sum.inr j) := by
  rw [valV_drop]
  by_cases h : j = k
  · rw [if_pos h, if_pos (by rw [h])]
  · rw [if_neg h, if_neg fun z => h (Sum.inr.inj z)]
/-- rows by name; no row where there is none -/
def pTab (K : PySem.W.Frag) (f : Str → Row) : Cell := fun F n o => match o with
  | some u => RFs K F u (f n)
  | none => f n = []
/-- the factors of a form -/
def pCo (K : PySem.W.Frag) (ring : List Str) (f : Str → Rat) : Cell := fun F n o => match o with
  | some u => n ∈ ring ∧ f n ≠ 0 ∧ IsF K F u (f n)
  | none => f n = 0
theorem upTab {K : PySem.W.Frag} {f : Str → Row} : UpC (pTab K f) := fun F F' n o e h => by
  cases o with
  | none => exact h
  | some u => exact upFs _ _ _ _ e h
theorem upCo {K : PySem.W.Frag} {ring : List Str} {f : Str → Rat} : UpC (pCo K ring f) := fun F F' n o e h => by
  cases o with
  | none => exact h
  | some u => exact ⟨h.1, h.2.1, h.2.2.up e⟩
abbrev TabF (K : PySem.W.Frag) (N : Nat) (f : Str → Row) (F : Hp) (v : V) : Prop := Dc (pTab K f) N F v
abbrev CoF (K : PySem.W.Frag) (ring : List Str) (f : Str → Rat) (F : Hp) (v : V) : Prop := Dc (pCo K ring f) 1000 F v
/-! ### comprehensions {k: .. for k in d} -/
section
variable {K : PySem.W.Frag} {H F : Hp} {σ : L2.St} {vs : List Nat} {tk tv : TE} {Qd : Addr → Hp → Prop} {j : Nat}
theorem dc_K {d : Addr} {od : Obj} {kvs : KVs} (Pv : Nat → KVs → Hp → Prop) (hF : Same F H) (hd0 : F d = some (.frz od (.dK kvs))) (nd : (kvs.map (·.1)).Nodup) (hz : kvs.length < 10000) (h0 : Pv 0 [] F)
    (hw : ∀ x, wipe ((wipe σ vs).set j (some x)) vs = wipe σ vs) (hk : ∀ x H' R, R x H' → tk ((wipe σ vs).set j (some x)) H' R)
    (hs : ∀ i acc H' F' k v, kvs[i]? = some (k, v) → acc.map (·.1) = (kvs.take i).map (·.1) → Fz N0 H F H' F' → Pv i acc F' → ∀ (R : V → Hp → Prop), (∀ y H4 F2, Fz N0 H' F' H4 F2 → Pv (i + 1) (acc ++ [(k, y)]) F2 → R y H4) → tv ((wipe σ vs).set j (some (kV k))) H' R)
    (hd : ∀ D acc H' F', H D = none → Fz N0 H F H' F' → H' D = some (.dK acc) → F' D = none → acc.map (·.1) = kvs.map (·.1) → Pv kvs.length acc F' → Qd D H') :
    ∀ D, H D = none → ∃ W : Nat → Nat → Hp → Prop, (∃ m, W 0 m (upd H D (.dK []))) ∧ ∀ i m H, W i m H →
      ((Itk d od kvs).stop i H ∧ Qd D H) ∨ ((Itk d od kvs).go i H ∧ ∃ Nx : Hp → Prop, (∀ H', Nx H' → ∃ m', m' < m ∧ W (i + 1) m' H') ∧ ∀ x H', (Itk d od kvs).yld i H x H' → gName j x (wipe σ vs) H' fun σ2 H2 => wipe σ2 vs = wipe σ vs ∧ tYes σ2 H2 fun b H3 =>
        if b = true then tk σ2 H3 fun y H4 => tv σ2 H4 fun z H5 => ∃ kvs k, y = kV k ∧ H5 D = some (.dK kvs) ∧ kvs.length < sizeLine ∧ Nx (upd H5 D (.dK (putK kvs k z))) else Nx H3) := by
  intro D hD
  refine ⟨fun i m H' => m = kvs.length - i ∧ i ≤ kvs.length ∧ ∃ acc F', H' D = some (.dK acc) ∧ acc.map (·.1) = (kvs.take i).map (·.1) ∧ F' D = none ∧ Fz N0 H F H' F' ∧ Pv i acc F', ⟨kvs.length, by simp, Nat.zero_le _, [], F, upd_same, rfl, hF.free hD, Fz.raw hF hD, h0⟩, ?_⟩
  rintro i m H' ⟨rfl, hi, acc, F', e1, e2, e3, z, p⟩
  have hdH := z.sub _ _ (z.grow _ _ hd0)
  by_cases hlt : i < kvs.length
  · refine .inr ⟨⟨hdH, hlt⟩, fun H2 => ∃ acc F2, H2 D = some (.dK acc) ∧ acc.map (·.1) = (kvs.take (i + 1)).map (·.1) ∧ F2 D = none ∧ Fz N0 H F H2 F2 ∧ Pv (i + 1) acc F2, fun H2 q => ⟨kvs.length - (i + 1), by omega, rfl, hlt, q⟩, fun x Hx y => ?_⟩
    obtain ⟨rfl, k, v, hkv, rfl⟩ := y
    refine ⟨hw _, ?_⟩
    show tYes _ _ _
    unfold tYes
    refine iteT (hk _ _ _ (hs i acc Hx F' k v hkv e2 z p _ fun y H4 F2 z4 p4 => ?_))
    have eD := z4.same _ _ e1
    have la : acc.length = i := by have := congrArg List.length e2; simp at this; omega
    have hnk : valV acc k = none := by
      cases q : valV acc k with
      | none => rfl
      | some u =>
        have m1 : k ∈ acc.map (·.1) := List.mem_map.mpr ⟨_, valV_mem q, rfl⟩
        rw [e2] at m1
        have nd2 : ((kvs.take i).map (·.1) ++ (kvs.drop i).map (·.1)).Nodup := by rw [← List.map_append, List.take_append_drop]; exact nd
        have m2 : k ∈ (kvs.drop i).map (·.1) := by
          rw [List.drop_eq_getElem_cons hlt, List.map_cons]
          have : kvs[i] = (k, v) := Option.some.inj ((List.getElem?_eq_getElem hlt).symm.trans hkv)
          rw [this]; exact List.mem_cons_self
        exact absurd rfl ((List.nodup_append.mp nd2).2.2 k m1 k m2)
    refine ⟨acc, k, rfl, eD, Nat.lt_of_le_of_lt (by omega : acc.length ≤ 10000) (by decide), acc ++ [(k, y)], F2, by rw [upd_same, putK_new y hnk], ?_, z4.outS e3 e1, Fz.set (z.trans z4) (.inl hD) (z4.outS e3 e1), p4⟩
    rw [List.map_append, e2, List.take_succ, List.map_append, hkv]
    rfl
  · have e : i = kvs.length := by omega
    subst e
    rw [List.take_length] at e2
    exact .inl ⟨⟨hdH, Nat.le_refl _⟩, hd D acc H' F' hD z e1 e3 e2 p⟩
end
/-! ### loops over a dict's keys -/
section
variable {tb : TS} {D : Ends} {σ : L2.St} {H : Hp}
theorem for_K {d : Addr} {od : Obj} {kvs : KVs} {j : Nat} (Pv : Nat → L2.St → Hp → Prop) (h0 : Pv 0 σ H) (hq : ∀ i σ H, Pv i σ H → H d = some (.frz od (.dK kvs)))
    (hs : ∀ i k v σ H, kvs[i]? = some (k, v) → Pv i σ H → tb { D with nx := Pv (i + 1), ct := Pv (i + 1), bk := D.nx } (σ.set j (some (kV k))) H) (hd : ∀ σ H, Pv kvs.length σ H → D.nx σ H) :
    ∃ W : Nat → Nat → L2.St → Hp → Prop, (∃ m, W 0 m σ H) ∧ ∀ i m σ H, W i m σ H →
      ((Itk d od kvs).stop i H ∧ D.nx σ H) ∨ ((Itk d od kvs).go i H ∧ ∃ N : L2.St → Hp → Prop, (∀ σ' H', N σ' H' → ∃ m', m' < m ∧ W (i + 1) m' σ' H') ∧ ∀ x H', (Itk d od kvs).yld i H x H' → gName j x σ H' fun σ2 H2 => tb { D with nx := N, ct := N, bk := D.nx } σ2 H2) := by
  refine ⟨fun i m σ H => m = kvs.length - i ∧ i ≤ kvs.length ∧ Pv i σ H, ⟨kvs.length, by simp, Nat.zero_le _, h0⟩, ?_⟩
  rintro i m σ H ⟨rfl, hi, p⟩
  have q1 := hq i σ H p
  by_cases hlt : i < kvs.length
  · refine .inr ⟨⟨q1, hlt⟩, Pv (i + 1), fun σ' H' p' => ⟨kvs.length - (i + 1), by omega, rfl, hlt, p'⟩, fun v Hx y => ?_⟩
    obtain ⟨rfl, k, v, hkv, rfl⟩ := y
    exact hs i k v σ _ hkv p
  · have e : i = kvs.length := by omega
    subst e
    exact .inl ⟨⟨q1, Nat.le_refl _⟩, hd σ H p⟩
end
end K3
end
section
set_option Elab.async false
set_option linter.all false
set_option maxRecDepth 100000
set_option exponentiation.threshold 100
namespace K3
open PySem PySem.Spec PyProof.Rows L2
/-! ### fractions: both programs' arithmetic -/
abbrev Pl (n : Nat) (i : Int) : Prop := i.natAbs ≤ 2 ^ n
theorem pl_lt {n : Nat} {i : Int} (h : Pl n i) : i.natAbs < 2 ^ (n + 1) := Nat.lt_of_le_of_lt h (Nat.pow_lt_pow_right (by decide) (by omega))
theorem cmulw {i j : Int} {a b : Nat} (h : Pl a i) (h' : Pl b j) (hz : a + b ≤ 900000) : CMulW i j := wide_mul (pl_lt h) (pl_lt h') (by omega) (by omega) (by omega)
theorem cdivw {i j : Int} {a : Nat} (h0 : 0 < j) (h : Pl a j) (hz : a ≤ 8998) : CDivW i j := wide_div h0 (pl_lt h) (by omega) (by omega)
theorem two_ok : 2 ≤ sizeLine := by decide
theorem Sm.n {x : Rat} (h : Sm x) : Pl 4400 x.num := h.1
theorem Sm.d {x : Rat} (h : Sm x) : Pl 4400 (x.den : Int) := h.2
theorem sm_dd {x y : Rat} (hx : Sm x) (hy : Sm y) : Pl 8998 ((x.den : Int) * (y.den : Int)) := Nat.le_trans (natAbs_mul_le hx.d hy.d) (Nat.pow_le_pow_right (by decide) (by decide))
theorem sm_nd {x y : Rat} (hx : Sm x) (hy : Sm y) : Pl 8998 ((x.den : Int) * y.num) := Nat.le_trans (natAbs_mul_le hx.d hy.n) (Nat.pow_le_pow_right (by decide) (by decide))
theorem sm_d8 {x : Rat} (hx : Sm x) : Pl 8998 (x.den : Int) := Nat.le_trans hx.d (Nat.pow_le_pow_right (by decide) (by decide))
section
variable {P : Program} {w : World} {K : PySem.W.Frag} {mg : Str → Option Value} {base : Heap}
theorem tup_ret {H F : Hp} {Q : VK} {x : Rat} (hs : Same F H) (h : Ret N0 H F (fun v F' => IsF K F' v x) Q) (p : Addr) (hp : H p = none) {i j : Int} (e1 : i = x.num) (e2 : j = (x.den : Int)) : Q (.ref p) (upd H p (.tup [.int i, .int j])) := by
  subst e1 e2
  exact h _ _ _ (Fz.nw hs hp) ⟨p, rfl, .inl (.inl upd_same)⟩
def spFraction (K : PySem.W.Frag) : Sp := fun vs H Q _ => ∃ (F : Hp) (p q : Int), vs = [.int p, .int q] ∧ Same F H ∧ q ≠ 0 ∧ Pl 8998 q ∧ Ret N0 H F (fun v F' => IsF K F' v (Rat.divInt p q)) Q
def spBin (K : PySem.W.Frag) (op : Rat → Rat → Rat) (C : Rat → Rat → Prop) : Sp := fun vs H Q _ => ∃ (F : Hp) (a b : V) (x y : Rat), vs = [a, b] ∧ Same F H ∧ IsF K F a x ∧ IsF K F b y ∧ C x y ∧ Ret N0 H F (fun v F' => IsF K F' v (op x y)) Q
def spUn (K : PySem.W.Frag) (op : Rat → Rat) : Sp := fun vs H Q _ => ∃ (F : Hp) (a : V) (x : Rat), vs = [a] ∧ Same F H ∧ IsF K F a x ∧ Ret N0 H F (fun v F' => IsF K F' v (op x)) Q
def cmpI (x y : Rat) : Int := (if decide (y.num * (x.den : Int) < x.num * (y.den : Int)) then 1 else 0) - (if decide (x.num * (y.den : Int) < y.num * (x.den : Int)) then 1 else 0)
def sgn (x : Rat) : Int := (if decide (0 < x.num) then 1 else 0) - (if decide (x.num < 0) then 1 else 0)
theorem sgn_zero (x : Rat) : sgn x = 0 ↔ x = 0 := by
  rw [← num_zero]
  unfold sgn
  by_cases h1 : 0 < x.num
  · by_cases h2 : x.num < 0
    · omega
    · rw [decide_eq_true h1, decide_eq_false h2]; simp only [if_true, Bool.false_eq_true, if_false]; omega
  · by_cases h2 : x.num < 0
    · rw [decide_eq_false h1, decide_eq_true h2]; simp only [if_true, Bool.false_eq_true, if_false]; omega
    · rw [decide_eq_false h1, decide_eq_false h2]; simp only [Bool.false_eq_true, if_false]; omega
theorem cmpI_spec (x y : Rat) : (cmpI x y < 0 ↔ x < y) ∧ (cmpI x y = 0 ↔ x = y) ∧ (cmpI x y ≤ 0 ↔ x ≤ y) ∧ (0 ≤ cmpI x y ↔ y ≤ x) := by
  have e1 := rat_lt x y
  have e2 := rat_lt y x
  have e3 := rat_le x y
  have e4 := rat_le y x
  have e5 : x = y ↔ x ≤ y ∧ y ≤ x := ⟨fun h => by rw [h]; exact ⟨Rat.le_refl, Rat.le_refl⟩, fun h => Rat.le_antisymm h.1 h.2⟩
  unfold cmpI
  by_cases h1 : y.num * (x.den : Int) < x.num * (y.den : Int)
  · by_cases h2 : x.num * (y.den : Int) < y.num * (x.den : Int)
    · omega
    · rw [decide_eq_true h1, decide_eq_false h2, e5]; simp only [if_true, Bool.false_eq_true, if_false]
      refine ⟨?_, ?_, ?_, ?_⟩ <;> (try rw [← e1]) <;> (try rw [← e3]) <;> (try rw [← e4]) <;> omega
  · by_cases h2 : x.num * (y.den : Int) < y.num * (x.den : Int)
    · rw [decide_eq_false h1, decide_eq_true h2, e5]; simp only [if_true, Bool.false_eq_true, if_false]
      refine ⟨?_, ?_, ?_, ?_⟩ <;> (try rw [← e1]) <;> (try rw [← e3]) <;> (try rw [← e4]) <;> omega
    · rw [decide_eq_false h1, decide_eq_false h2, e5]; simp only [Bool.false_eq_true, if_false]
      refine ⟨?_, ?_, ?_, ?_⟩ <;> (try rw [← e1]) <;> (try rw [← e3]) <;> (try rw [← e4]) <;> omega
def spOrder (K : PySem.W.Frag) : Sp := fun vs H Q _ => ∃ (F : Hp) (a b : V) (x y : Rat), vs = [a, b] ∧ Same F H ∧ IsF K F a x ∧ IsF K F b y ∧ Sm x ∧ Sm y ∧ Q (.int (cmpI x y)) H
def spSign (K : PySem.W.Frag) : Sp := fun vs H Q _ => ∃ (F : Hp) (a : V) (x : Rat), vs = [a] ∧ Same F H ∧ IsF K F a x ∧ Q (.int (sgn x)) H
/-- one of two fractions, itself -/
def spPick (K : PySem.W.Frag) (op : Rat → Rat → Bool) : Sp := fun vs H Q _ => ∃ (F : Hp) (a b : V) (x y : Rat), vs = [a, b] ∧ Same F H ∧ IsF K F a x ∧ IsF K F b y ∧ Sm x ∧ Sm y ∧ Q (if op x y then a else b) H
theorem len2 {α : Type} {a b : α} : [a, b].length = 2 := rfl
abbrev CSm : Rat → Rat → Prop := fun x y => Sm x ∧ Sm y

theorem g_fraction (T : Txt K mg) : G P w K mg base CX0 1 "fraction" p_fraction (spFraction K) := by
  obtain ⟨fd, F⟩ := T.df_fraction
  obtain ⟨ds, hv, hb⟩ := F.binds1 (ps := p_fraction) 2 1 (by simp) rfl fun TT kV doc pm an cdv ct us its h1 h2 => match us, its, h1, h2 with
    | [_, _], [_], _, _ => ⟨_, rfl, rfl⟩
  cases hv
  refine ⟨_, fd, ?_, hb, T.g_fraction, F.kp⟩
  refine F.ok sc_fraction (fun vs H Q E h => ?_) (fun cdv A outer s H vs Q E hr h => ?_)
  · obtain ⟨_, p, q, rfl, _⟩ := h
    rfl
  · obtain ⟨F, p, q, rfl, hs, hq, bq, k⟩ := h
    refine ⟨_, PSs.nox (pss_cons (ps_if (pt_cmpR op_eq (pv 1) pe_int (nomark _)) pss_never pss_nil)
  (pss_cons (ps_set (i := 2) sc_fraction.nd rfl (.inl rfl) (pe_callBfun cr_gcd (by rfl) T.t_gcd (pa_cons (pv 0) (pa_cons (pv 1) pa_nil))))
  (pss_cons (ps_if (pt_cmpR op_gt (pv 1) pe_int (nomark _)) (pss_one (ps_ret (pe_tup (pa_cons (pe_op op_fdivW (pv 0) (pv 2)) (pa_cons (pe_op op_fdivW (pv 1) (pv 2)) pa_nil))))) pss_nil)
  (pss_one (ps_ret (pe_tup (pa_cons (pe_op op_fdivW (pe_un un_neg (pv 0)) (pv 2)) (pa_cons (pe_op op_fdivW (pe_un un_neg (pv 1)) (pv 2)) pa_nil)))))))), ?_⟩
    refine ⟨_, rfl, rfl, _, rfl, ite2 (fun e => ?_) (fun e => ?_)⟩
    · exact absurd (V.int.inj (of_decide_eq_true e)) hq
    · have hg := gcd_pos' p q hq
      have cd : ∀ i, CDivW i ((Nat.gcd p.natAbs q.natAbs : Nat) : Int) := fun i => cdivw hg (Nat.le_trans (gcd_le' p q hq) bq) (by decide)
      refine ⟨_, rfl, _, rfl, p, q, rfl, ?_⟩
      refine ⟨_, rfl, _, 0, rfl, rfl, _, rfl, ite2 (fun e => ?_) (fun e => ?_)⟩
      · have hq0 : 0 < q := of_decide_eq_true e
        exact ⟨_, rfl, _, rfl, _, _, rfl, rfl, cd _, _, rfl, _, rfl, _, _, rfl, rfl, cd _, two_ok, fun t ht => tup_ret hs k t ht (frac_pos p q hq0).1 (frac_pos p q hq0).2⟩
      · have hq0 : q < 0 := by have : ¬ 0 < q := fun z => e (decide_eq_true z); omega
        exact ⟨_, rfl, _, rfl, _, rfl, _, _, rfl, rfl, cd _, _, rfl, _, rfl, _, rfl, _, _, rfl, rfl, cd _, two_ok, fun t ht => tup_ret hs k t ht (frac_neg p q hq0).1 (frac_neg p q hq0).2⟩

theorem g_plus (T : Txt K mg) : G P w K mg base CX0 2 "plus" p_plus (spBin K (· + ·) CSm) := by
  refine G.mk' T.df_plus T.g_plus (fun _ _ _ _ _ _ us hl => match us, hl with | [_, _], _ => rfl) fun fd F => ?_
  refine F.ok sc_plus (fun vs H Q E h => ?_) (fun cdv A outer s H vs Q E hr h => ?_)
  · obtain ⟨_, _, _, _, _, rfl, _⟩ := h
    rfl
  · obtain ⟨F, _, _, x, y, rfl, hs, ⟨a, rfl, ha⟩, ⟨b, rfl, hb⟩, ⟨sx, sy⟩, k⟩ := h
    have ha := sq_t hs ha
    have hb := sq_t hs hb
    refine ⟨_, PSs.nox (pss_cons (ps_if (pt_cmpR op_eq (pe_ix ix_tup (pv 0) pe_int (fun _ _ => rfl)) (pe_ix ix_tup (pv 1) pe_int (fun _ _ => rfl)) (nomark _)) (pss_one (ps_ret (pe_g (g_fraction T) (hr.mono (by omega)) (by rfl) pass0 (pa_cons (pe_op op_add (pe_ix ix_tup (pv 0) pe_int (fun _ _ => rfl)) (pe_ix ix_tup (pv 1) pe_int (fun _ _ => rfl))) (pa_cons (pe_ix ix_tup (pv 0) pe_int (fun _ _ => rfl)) pa_nil))))) pss_nil)
  (pss_one (ps_ret (pe_g (g_fraction T) (hr.mono (by omega)) (by rfl) pass0 (pa_cons (pe_op op_add (pe_op op_mulW (pe_ix ix_tup (pv 0) pe_int (fun _ _ => rfl)) (pe_ix ix_tup (pv 1) pe_int (fun _ _ => rfl))) (pe_op op_mulW (pe_ix ix_tup (pv 1) pe_int (fun _ _ => rfl)) (pe_ix ix_tup (pv 0) pe_int (fun _ _ => rfl)))) (pa_cons (pe_op op_mulW (pe_ix ix_tup (pv 0) pe_int (fun _ _ => rfl)) (pe_ix ix_tup (pv 1) pe_int (fun _ _ => rfl))) pa_nil)))))), ?_⟩
    refine ⟨_, rfl, _, _, _, _, rfl, rfl, ha, rfl, _, rfl, _, _, _, _, rfl, rfl, hb, rfl, rfl, _, rfl, ite2 (fun e => ?_) (fun e => ?_)⟩
    · have e : (x.den : Int) = (y.den : Int) := V.int.inj (of_decide_eq_true e)
      refine ⟨_, rfl, _, _, _, _, rfl, rfl, ha, rfl, _, rfl, _, _, _, _, rfl, rfl, hb, rfl, _, _, rfl, rfl, _, rfl, _, _, _, _, rfl, rfl, ha, rfl, F, _, _, rfl, hs, den_ne x, sm_d8 sx, ?_⟩
      rw [add_same x y e]
      exact k
    · refine ⟨_, rfl, _, _, _, _, rfl, rfl, ha, rfl, _, rfl, _, _, _, _, rfl, rfl, hb, rfl, _, _, rfl, rfl, cmulw sx.n sy.d (by decide), _, rfl, _, _, _, _, rfl, rfl, hb, rfl, _, rfl, _, _, _, _, rfl, rfl, ha, rfl, _, _, rfl, rfl, cmulw sy.n sx.d (by decide), _, _, rfl, rfl,
        _, rfl, _, _, _, _, rfl, rfl, ha, rfl, _, rfl, _, _, _, _, rfl, rfl, hb, rfl, _, _, rfl, rfl, cmulw sx.d sy.d (by decide), F, _, _, rfl, hs, Int.mul_ne_zero (den_ne x) (den_ne y), sm_dd sx sy, ?_⟩
      rw [add_gen]
      exact k

theorem g_opposite (T : Txt K mg) : G P w K mg base CX0 1 "opposite" p_opposite (spUn K (- ·)) := by
  refine G.mk' T.df_opposite T.g_opposite (fun _ _ _ _ _ _ us hl => match us, hl with | [_], _ => rfl) fun fd F => ?_
  refine F.ok sc_opposite (fun vs H Q E h => ?_) (fun cdv A outer s H vs Q E hr h => ?_)
  · obtain ⟨_, _, _, rfl, _⟩ := h
    rfl
  · obtain ⟨F, _, x, rfl, hs, ⟨a, rfl, ha⟩, k⟩ := h
    have ha := sq_t hs ha
    refine ⟨_, PSs.nox (pss_one (ps_ret (pe_tup (pa_cons (pe_un un_neg (pe_ix ix_tup (pv 0) pe_int (fun _ _ => rfl))) (pa_cons (pe_ix ix_tup (pv 0) pe_int (fun _ _ => rfl)) pa_nil))))), ?_⟩
    exact ⟨_, rfl, _, _, _, _, rfl, rfl, ha, rfl, _, rfl, _, rfl, _, _, _, _, rfl, rfl, ha, rfl, two_ok, fun t ht => tup_ret hs k t ht (Rat.neg_num x).symm (congrArg Nat.cast (Rat.neg_den x).symm)⟩

theorem g_minus (T : Txt K mg) : G P w K mg base CX0 3 "minus" p_minus (spBin K (· - ·) CSm) := by
  refine G.mk' T.df_minus T.g_minus (fun _ _ _ _ _ _ us hl => match us, hl with | [_, _], _ => rfl) fun fd F => ?_
  refine F.ok sc_minus (fun vs H Q E h => ?_) (fun cdv A outer s H vs Q E hr h => ?_)
  · obtain ⟨_, _, _, _, _, rfl, _⟩ := h
    rfl
  · obtain ⟨F, a, b, x, y, rfl, hs, ha, hb, ⟨sx, sy⟩, k⟩ := h
    refine ⟨_, PSs.nox (pss_one (ps_ret (pe_g (g_plus T) (hr.mono (by omega)) (by rfl) pass0 (pa_cons (pv 0) (pa_cons (pe_g (g_opposite T) (hr.mono (by omega)) (by rfl) pass0 (pa_cons (pv 1) pa_nil)) pa_nil))))), ?_⟩
    refine ⟨_, rfl, _, rfl, F, _, _, rfl, hs, hb, fun v H1 F1 z1 hv => ?_⟩
    refine ⟨F1, _, _, x, -y, rfl, z1.sub, ha.up z1.grow, hv, ⟨sx, bt_neg sy⟩, fun v2 H2 F2 z2 hv2 => ?_⟩
    refine k v2 H2 F2 (z1.trans z2) ?_
    show IsF K F2 v2 (x - y)
    rw [Rat.sub_eq_add_neg]
    exact hv2

theorem g_times (T : Txt K mg) : G P w K mg base CX0 2 "times" p_times (spBin K (· * ·) CSm) := by
  refine G.mk' T.df_times T.g_times (fun _ _ _ _ _ _ us hl => match us, hl with | [_, _], _ => rfl) fun fd F => ?_
  refine F.ok sc_times (fun vs H Q E h => ?_) (fun cdv A outer s H vs Q E hr h => ?_)
  · obtain ⟨_, _, _, _, _, rfl, _⟩ := h
    rfl
  · obtain ⟨F, _, _, x, y, rfl, hs, ⟨a, rfl, ha⟩, ⟨b, rfl, hb⟩, ⟨sx, sy⟩, k⟩ := h
    have ha := sq_t hs ha
    have hb := sq_t hs hb
    refine ⟨_, PSs.nox (pss_one (ps_ret (pe_g (g_fraction T) (hr.mono (by omega)) (by rfl) pass0 (pa_cons (pe_op op_mulW (pe_ix ix_tup (pv 0) pe_int (fun _ _ => rfl)) (pe_ix ix_tup (pv 1) pe_int (fun _ _ => rfl))) (pa_cons (pe_op op_mulW (pe_ix ix_tup (pv 0) pe_int (fun _ _ => rfl)) (pe_ix ix_tup (pv 1) pe_int (fun _ _ => rfl))) pa_nil))))), ?_⟩
    refine ⟨_, rfl, _, _, _, _, rfl, rfl, ha, rfl, _, rfl, _, _, _, _, rfl, rfl, hb, rfl, _, _, rfl, rfl, cmulw sx.n sy.n (by decide),
        _, rfl, _, _, _, _, rfl, rfl, ha, rfl, _, rfl, _, _, _, _, rfl, rfl, hb, rfl, _, _, rfl, rfl, cmulw sx.d sy.d (by decide), F, _, _, rfl, hs, Int.mul_ne_zero (den_ne x) (den_ne y), sm_dd sx sy, ?_⟩
    rw [mul_gen]
    exact k

theorem g_over (T : Txt K mg) : G P w K mg base CX0 2 "over" p_over (spBin K (· / ·) fun x y => Sm x ∧ Sm y ∧ y ≠ 0) := by
  refine G.mk' T.df_over T.g_over (fun _ _ _ _ _ _ us hl => match us, hl with | [_, _], _ => rfl) fun fd F => ?_
  refine F.ok sc_over (fun vs H Q E h => ?_) (fun cdv A outer s H vs Q E hr h => ?_)
  · obtain ⟨_, _, _, _, _, rfl, _⟩ := h
    rfl
  · obtain ⟨F, _, _, x, y, rfl, hs, ⟨a, rfl, ha⟩, ⟨b, rfl, hb⟩, ⟨sx, sy, y0⟩, k⟩ := h
    have ha := sq_t hs ha
    have hb := sq_t hs hb
    refine ⟨_, PSs.nox (pss_one (ps_ret (pe_g (g_fraction T) (hr.mono (by omega)) (by rfl) pass0 (pa_cons (pe_op op_mulW (pe_ix ix_tup (pv 0) pe_int (fun _ _ => rfl)) (pe_ix ix_tup (pv 1) pe_int (fun _ _ => rfl))) (pa_cons (pe_op op_mulW (pe_ix ix_tup (pv 0) pe_int (fun _ _ => rfl)) (pe_ix ix_tup (pv 1) pe_int (fun _ _ => rfl))) pa_nil))))), ?_⟩
    refine ⟨_, rfl, _, _, _, _, rfl, rfl, ha, rfl, _, rfl, _, _, _, _, rfl, rfl, hb, rfl, _, _, rfl, rfl, cmulw sx.n sy.d (by decide),
        _, rfl, _, _, _, _, rfl, rfl, ha, rfl, _, rfl, _, _, _, _, rfl, rfl, hb, rfl, _, _, rfl, rfl, cmulw sx.d sy.n (by decide), F, _, _, rfl, hs, Int.mul_ne_zero (den_ne x) (fun z => y0 ((num_zero y).1 z)), sm_nd sx sy, ?_⟩
    rw [div_gen]
    exact k

theorem g_order (T : Txt K mg) : G P w K mg base CX0 1 "order" p_order (spOrder K) := by
  refine G.mk' T.df_order T.g_order (fun _ _ _ _ _ _ us hl => match us, hl with | [_, _], _ => rfl) fun fd F => ?_
  refine F.ok sc_order (fun vs H Q E h => ?_) (fun cdv A outer s H vs Q E hr h => ?_)
  · obtain ⟨_, _, _, _, _, rfl, _⟩ := h
    rfl
  · obtain ⟨F, _, _, x, y, rfl, hs, ⟨a, rfl, ha⟩, ⟨b, rfl, hb⟩, sx, sy, k⟩ := h
    have ha := sq_t hs ha
    have hb := sq_t hs hb
    refine ⟨_, PSs.nox (pss_cons (ps_set (i := 2) sc_order.nd rfl (.inl rfl) (pe_op op_mulW (pe_ix ix_tup (pv 0) pe_int (fun _ _ => rfl)) (pe_ix ix_tup (pv 1) pe_int (fun _ _ => rfl))))
  (pss_cons (ps_set (i := 3) sc_order.nd rfl (.inl rfl) (pe_op op_mulW (pe_ix ix_tup (pv 1) pe_int (fun _ _ => rfl)) (pe_ix ix_tup (pv 0) pe_int (fun _ _ => rfl))))
  (pss_one (ps_ret (pe_op op_sub (pe_callTy call_int1 (by rfl) T.f_int (by decide +kernel) (pa_cons (pe_cmpR op_gt (pv 2) (pv 3) (nomark _)) pa_nil)) (pe_callTy call_int1 (by rfl) T.f_int (by decide +kernel) (pa_cons (pe_cmpR op_lt (pv 2) (pv 3) (nomark _)) pa_nil))))))), ?_⟩
    exact ⟨_, rfl, _, _, _, _, rfl, rfl, ha, rfl, _, rfl, _, _, _, _, rfl, rfl, hb, rfl, _, _, rfl, rfl, cmulw sx.n sy.d (by decide),
        _, rfl, _, _, _, _, rfl, rfl, hb, rfl, _, rfl, _, _, _, _, rfl, rfl, ha, rfl, _, _, rfl, rfl, cmulw sy.n sx.d (by decide),
        _, rfl, _, rfl, _, _, rfl, rfl, .inr ⟨_, rfl, _, rfl, _, rfl, _, _, rfl, rfl, .inr ⟨_, rfl, _, _, rfl, rfl, k⟩⟩⟩

theorem g_sign (T : Txt K mg) : G P w K mg base CX0 1 "sign" p_sign (spSign K) := by
  refine G.mk' T.df_sign T.g_sign (fun _ _ _ _ _ _ us hl => match us, hl with | [_], _ => rfl) fun fd F => ?_
  refine F.ok sc_sign (fun vs H Q E h => ?_) (fun cdv A outer s H vs Q E hr h => ?_)
  · obtain ⟨_, _, _, rfl, _⟩ := h
    rfl
  · obtain ⟨F, _, x, rfl, hs, ⟨a, rfl, ha⟩, k⟩ := h
    have ha := sq_t hs ha
    refine ⟨_, PSs.nox (pss_one (ps_ret (pe_op op_sub (pe_callTy call_int1 (by rfl) T.f_int (by decide +kernel) (pa_cons (pe_cmpR op_gt (pe_ix ix_tup (pv 0) pe_int (fun _ _ => rfl)) pe_int (nomark _)) pa_nil)) (pe_callTy call_int1 (by rfl) T.f_int (by decide +kernel) (pa_cons (pe_cmpR op_lt (pe_ix ix_tup (pv 0) pe_int (fun _ _ => rfl)) pe_int (nomark _)) pa_nil))))), ?_⟩
    exact ⟨_, rfl, _, _, _, _, rfl, rfl, ha, rfl, _, _, rfl, rfl, .inr ⟨_, rfl, _, rfl, _, _, _, _, rfl, rfl, ha, rfl, _, _, rfl, rfl, .inr ⟨_, rfl, _, _, rfl, rfl, k⟩⟩⟩

theorem g_smaller (T : Txt K mg) : G P w K mg base CX0 2 "smaller" p_smaller (spPick K fun x y => decide (x ≤ y)) := by
  refine G.mk' T.df_smaller T.g_smaller (fun _ _ _ _ _ _ us hl => match us, hl with | [_, _], _ => rfl) fun fd F => ?_
  refine F.ok sc_smaller (fun vs H Q E h => ?_) (fun cdv A outer s H vs Q E hr h => ?_)
  · obtain ⟨_, _, _, _, _, rfl, _⟩ := h
    rfl
  · obtain ⟨F, a, b, x, y, rfl, hs, ha, hb, sx, sy, k⟩ := h
    refine ⟨_, PSs.nox (pss_cons (ps_if (pt_cmpR op_le (pe_g (g_order T) (hr.mono (by omega)) (by rfl) pass0 (pa_cons (pv 0) (pa_cons (pv 1) pa_nil))) pe_int (nomark _)) (pss_one (ps_ret (pv 0))) pss_nil)
  (pss_one (ps_ret (pv 1)))), ?_⟩
    refine ⟨_, rfl, _, rfl, F, _, _, x, y, rfl, hs, ha, hb, sx, sy, _, _, rfl, rfl, _, rfl, ite2 (fun e => ?_) (fun e => ?_)⟩
    · have e : cmpI x y ≤ 0 := of_decide_eq_true e
      rw [if_pos (decide_eq_true ((cmpI_spec x y).2.2.1.1 e))] at k
      exact ⟨_, rfl, k⟩
    · have e : ¬ cmpI x y ≤ 0 := fun z => e (decide_eq_true z)
      rw [if_neg (fun z => e ((cmpI_spec x y).2.2.1.2 (of_decide_eq_true z)))] at k
      exact ⟨_, rfl, k⟩

theorem g_greater (T : Txt K mg) : G P w K mg base CX0 2 "greater" p_greater (spPick K fun x y => decide (y ≤ x)) := by
  refine G.mk' T.df_greater T.g_greater (fun _ _ _ _ _ _ us hl => match us, hl with | [_, _], _ => rfl) fun fd F => ?_
  refine F.ok sc_greater (fun vs H Q E h => ?_) (fun cdv A outer s H vs Q E hr h => ?_)
  · obtain ⟨_, _, _, _, _, rfl, _⟩ := h
    rfl
  · obtain ⟨F, a, b, x, y, rfl, hs, ha, hb, sx, sy, k⟩ := h
    refine ⟨_, PSs.nox (pss_cons (ps_if (pt_cmpR op_ge (pe_g (g_order T) (hr.mono (by omega)) (by rfl) pass0 (pa_cons (pv 0) (pa_cons (pv 1) pa_nil))) pe_int (nomark _)) (pss_one (ps_ret (pv 0))) pss_nil)
  (pss_one (ps_ret (pv 1)))), ?_⟩
    refine ⟨_, rfl, _, rfl, F, _, _, x, y, rfl, hs, ha, hb, sx, sy, _, _, rfl, rfl, _, rfl, ite2 (fun e => ?_) (fun e => ?_)⟩
    · have e : 0 ≤ cmpI x y := of_decide_eq_true e
      rw [if_pos (decide_eq_true ((cmpI_spec x y).2.2.2.1 e))] at k
      exact ⟨_, rfl, k⟩
    · have e : ¬ 0 ≤ cmpI x y := fun z => e (decide_eq_true z)
      rw [if_neg (fun z => e ((cmpI_spec x y).2.2.2.2 (of_decide_eq_true z)))] at k
      exact ⟨_, rfl, k⟩
end
end K3
end
section
set_option Elab.async false
set_option linter.all false
set_option maxRecDepth 100000
set_option exponentiation.threshold 100
namespace K3
open PySem PySem.Spec PyProof.Rows L2
/-! ### the law's own arithmetic -/
section
variable {P : Program} {w : World} {K : PySem.W.Frag} {mg : Str → Option Value} {base : Heap}
def spGcd : Sp := fun vs H Q _ => ∃ a b : Nat, vs = [.int a, .int b] ∧ Q (.int (eg 5000 a b : Nat)) H
theorem g_L_gcd (T : Txt K mg) : G P w K mg base CX0 1 "_law_gcd" p_L_gcd spGcd := by
  refine G.mk' T.df_L_gcd T.g_L_gcd (fun _ _ _ _ _ _ us hl => match us, hl with | [_, _], _ => rfl) fun fd F => ?_
  refine F.ok sc_L_gcd (fun vs H Q E h => ?_) (fun cdv A outer s H vs Q E hr h => ?_)
  · obtain ⟨_, _, rfl, _⟩ := h
    rfl
  · obtain ⟨a, b, rfl, k⟩ := h
    refine ⟨_, PSs.nox (pss_cons (ps_for PassesOwn.never rfl (pi_range1 (by rfl) T.f_range (pa_cons pe_int pa_nil)) (pg_name (i := 2) sc_L_gcd.nd rfl (Or.inl rfl))
    (pss_cons (ps_if (pt_cmpR op_eq (pv 1) pe_int (nomark _)) (pss_one (ps_ret (pv 0))) pss_nil)
  (pss_cons (ps_set (i := 3) sc_L_gcd.nd rfl (.inl rfl) (pe_op op_mod (pe_callTy call_int1 (by rfl) T.f_int (by decide +kernel) (pa_cons (pv 0) pa_nil)) (pv 1)))
  (pss_cons (ps_set (i := 0) sc_L_gcd.nd rfl (.inl rfl) (pv 1))
  (pss_one (ps_set (i := 1) sc_L_gcd.nd rfl (.inl rfl) (pv 3)))))))
  (pss_one (ps_ret (pv 0)))), ?_⟩
    refine ⟨5000, rfl, by decide, by decide, for_range (lo := 0) (n := 5000) (fun i σ H' => H' = H ∧ ∃ (x y : Nat) (r2 r3 : Option V), σ = [some (.int x), some (.int y), r2, r3] ∧ eg (5000 - i) x y = eg 5000 a b)
      ⟨rfl, a, b, none, none, rfl, rfl⟩ (fun i σ H' hi hp => ?_) (fun σ H' hp => ?_)⟩
    · obtain ⟨rfl, x, y, r2, r3, rfl, he⟩ := hp
      have en : 5000 - i = (5000 - (i + 1)) + 1 := by omega
      rw [en, eg] at he
      refine ⟨_, rfl, rfl, _, rfl, ite2 (fun e => ?_) (fun e => ?_)⟩
      · have e : (y : Int) = 0 := V.int.inj (of_decide_eq_true e)
        have e : y = 0 := by omega
        rw [if_pos e] at he
        rw [← he] at k
        exact ⟨_, rfl, k⟩
      · have e : ¬ y = 0 := fun z => e (decide_eq_true (by rw [z]; rfl))
        rw [if_neg e] at he
        refine ⟨_, rfl, .inl ⟨_, rfl, _, rfl, _, _, rfl, rfl, (show (0 : Int) < (y : Int) by omega), ?_⟩⟩
        refine ⟨_, rfl, _, rfl, ?_⟩
        refine ⟨rfl, y, x % y, some (.int (0 + i)), some (.int ((x : Int) % (y : Int))), ?_, he⟩
        rw [show ((x % y : Nat) : Int) = (x : Int) % (y : Int) from Int.natCast_emod x y]
        rfl
    · obtain ⟨rfl, x, y, r2, r3, rfl, he⟩ := hp
      rw [← he] at k
      exact ⟨_, rfl, k⟩
def spRatio (K : PySem.W.Frag) : Sp := fun vs H Q _ => ∃ (F : Hp) (p q : Int), vs = [.int p, .int q] ∧ Same F H ∧ 0 < q ∧ Pl 8998 q ∧ Sl (Rat.divInt p q) ∧ Ret N0 H F (fun v F' => IsF K F' v (Rat.divInt p q)) Q
theorem abs_nat (p : Int) : (if p < 0 then -p else p) = ((p.natAbs : Nat) : Int) := by
  split <;> omega
theorem g_L_ratio (T : Txt K mg) : G P w K mg base CX0 2 "_law_ratio" p_L_ratio (spRatio K) := by
  refine G.mk' T.df_L_ratio T.g_L_ratio (fun _ _ _ _ _ _ us hl => match us, hl with | [_, _], _ => rfl) fun fd F => ?_
  refine F.ok sc_L_ratio (fun vs H Q E h => ?_) (fun cdv A outer s H vs Q E hr h => ?_)
  · obtain ⟨_, _, _, rfl, _⟩ := h
    rfl
  · obtain ⟨F, p, q, rfl, hs, hq, bq, sl, k⟩ := h
    refine ⟨_, PSs.nox (pss_cons (ps_set (i := 2) sc_L_ratio.nd rfl (.inl rfl) (pe_g (g_L_gcd T) (hr.mono (by omega)) (by rfl) pass0 (pa_cons (pe_callB call_abs (by rfl) T.f_abs (by decide +kernel) (pa_cons (pv 0) pa_nil)) (pa_cons (pe_callB call_abs (by rfl) T.f_abs (by decide +kernel) (pa_cons (pv 1) pa_nil)) pa_nil))))
  (pss_cons (ps_if (pt_cmpR op_lt (pv 1) pe_int (nomark _)) pss_never pss_nil)
  (pss_one (ps_ret (pe_tup (pa_cons (pe_op op_fdivW (pv 0) (pv 2)) (pa_cons (pe_op op_fdivW (pv 1) (pv 2)) pa_nil))))))), ?_⟩
    refine ⟨_, rfl, _, rfl, _, rfl, _, rfl, p.natAbs, q.natAbs, ?_, ?_⟩
    · rw [abs_nat, abs_nat]; rfl
    rw [eg_frac p q hq sl]
    have hg := gcd_pos' p q (by omega)
    have cd : ∀ i, CDivW i ((Nat.gcd p.natAbs q.natAbs : Nat) : Int) := fun i => cdivw hg (Nat.le_trans (gcd_le' p q (by omega)) bq) (by decide)
    refine ⟨_, rfl, _, _, rfl, rfl, _, rfl, ite2 (fun e => ?_) (fun e => ?_)⟩
    · have : q < 0 := of_decide_eq_true e
      omega
    · exact ⟨_, rfl, _, rfl, _, _, rfl, rfl, cd _, _, rfl, _, rfl, _, _, rfl, rfl, cd _, two_ok, fun t ht => tup_ret hs k t ht (frac_pos p q hq).1 (frac_pos p q hq).2⟩
abbrev CSl (op : Rat → Rat → Rat) : Rat → Rat → Prop := fun x y => Sm x ∧ Sm y ∧ Sl (op x y)
theorem g_L_add (T : Txt K mg) : G P w K mg base CX0 3 "_law_add" p_L_add (spBin K (· + ·) (CSl (· + ·))) := by
  refine G.mk' T.df_L_add T.g_L_add (fun _ _ _ _ _ _ us hl => match us, hl with | [_, _], _ => rfl) fun fd F => ?_
  refine F.ok sc_L_add (fun vs H Q E h => ?_) (fun cdv A outer s H vs Q E hr h => ?_)
  · obtain ⟨_, _, _, _, _, rfl, _⟩ := h
    rfl
  · obtain ⟨F, _, _, x, y, rfl, hs, ⟨a, rfl, ha⟩, ⟨b, rfl, hb⟩, ⟨sx, sy, sl⟩, k⟩ := h
    have ha := sq_t hs ha
    have hb := sq_t hs hb
    refine ⟨_, PSs.nox (pss_one (ps_ret (pe_g (g_L_ratio T) (hr.mono (by omega)) (by rfl) pass0 (pa_cons (pe_op op_add (pe_op op_mulW (pe_ix ix_tup (pv 0) pe_int (fun _ _ => rfl)) (pe_ix ix_tup (pv 1) pe_int (fun _ _ => rfl))) (pe_op op_mulW (pe_ix ix_tup (pv 1) pe_int (fun _ _ => rfl)) (pe_ix ix_tup (pv 0) pe_int (fun _ _ => rfl)))) (pa_cons (pe_op op_mulW (pe_ix ix_tup (pv 0) pe_int (fun _ _ => rfl)) (pe_ix ix_tup (pv 1) pe_int (fun _ _ => rfl))) pa_nil))))), ?_⟩
    refine ⟨_, rfl, _, _, _, _, rfl, rfl, ha, rfl, _, rfl, _, _, _, _, rfl, rfl, hb, rfl, _, _, rfl, rfl, cmulw sx.n sy.d (by decide), _, rfl, _, _, _, _, rfl, rfl, hb, rfl, _, rfl, _, _, _, _, rfl, rfl, ha, rfl, _, _, rfl, rfl, cmulw sy.n sx.d (by decide), _, _, rfl, rfl,
        _, rfl, _, _, _, _, rfl, rfl, ha, rfl, _, rfl, _, _, _, _, rfl, rfl, hb, rfl, _, _, rfl, rfl, cmulw sx.d sy.d (by decide), F, _, _, rfl, hs, Int.mul_pos (den_pos x) (den_pos y), sm_dd sx sy, ?_, ?_⟩
    · rw [add_gen]; exact sl
    · rw [add_gen]; exact k
theorem g_L_times (T : Txt K mg) : G P w K mg base CX0 3 "_law_times" p_L_times (spBin K (· * ·) (CSl (· * ·))) := by
  refine G.mk' T.df_L_times T.g_L_times (fun _ _ _ _ _ _ us hl => match us, hl with | [_, _], _ => rfl) fun fd F => ?_
  refine F.ok sc_L_times (fun vs H Q E h => ?_) (fun cdv A outer s H vs Q E hr h => ?_)
  · obtain ⟨_, _, _, _, _, rfl, _⟩ := h
    rfl
  · obtain ⟨F, _, _, x, y, rfl, hs, ⟨a, rfl, ha⟩, ⟨b, rfl, hb⟩, ⟨sx, sy, sl⟩, k⟩ := h
    have ha := sq_t hs ha
    have hb := sq_t hs hb
    refine ⟨_, PSs.nox (pss_one (ps_ret (pe_g (g_L_ratio T) (hr.mono (by omega)) (by rfl) pass0 (pa_cons (pe_op op_mulW (pe_ix ix_tup (pv 0) pe_int (fun _ _ => rfl)) (pe_ix ix_tup (pv 1) pe_int (fun _ _ => rfl))) (pa_cons (pe_op op_mulW (pe_ix ix_tup (pv 0) pe_int (fun _ _ => rfl)) (pe_ix ix_tup (pv 1) pe_int (fun _ _ => rfl))) pa_nil))))), ?_⟩
    refine ⟨_, rfl, _, _, _, _, rfl, rfl, ha, rfl, _, rfl, _, _, _, _, rfl, rfl, hb, rfl, _, _, rfl, rfl, cmulw sx.n sy.n (by decide),
        _, rfl, _, _, _, _, rfl, rfl, ha, rfl, _, rfl, _, _, _, _, rfl, rfl, hb, rfl, _, _, rfl, rfl, cmulw sx.d sy.d (by decide), F, _, _, rfl, hs, Int.mul_pos (den_pos x) (den_pos y), sm_dd sx sy, ?_, ?_⟩
    · rw [mul_gen]; exact sl
    · rw [mul_gen]; exact k
theorem g_L_minus (T : Txt K mg) : G P w K mg base CX0 4 "_law_minus" p_L_minus (spBin K (· - ·) (CSl (· - ·))) := by
  refine G.mk' T.df_L_minus T.g_L_minus (fun _ _ _ _ _ _ us hl => match us, hl with | [_, _], _ => rfl) fun fd F => ?_
  refine F.ok sc_L_minus (fun vs H Q E h => ?_) (fun cdv A outer s H vs Q E hr h => ?_)
  · obtain ⟨_, _, _, _, _, rfl, _⟩ := h
    rfl
  · obtain ⟨F, a, _, x, y, rfl, hs, ha, ⟨b, rfl, hb⟩, ⟨sx, sy, sl⟩, k⟩ := h
    have hb := sq_t hs hb
    refine ⟨_, PSs.nox (pss_one (ps_ret (pe_g (g_L_add T) (hr.mono (by omega)) (by rfl) pass0 (pa_cons (pv 0) (pa_cons (pe_tup (pa_cons (pe_un un_neg (pe_ix ix_tup (pv 1) pe_int (fun _ _ => rfl))) (pa_cons (pe_ix ix_tup (pv 1) pe_int (fun _ _ => rfl)) pa_nil))) pa_nil))))), ?_⟩
    refine ⟨_, rfl, _, rfl, _, _, _, _, rfl, rfl, hb, rfl, _, rfl, _, rfl, _, _, _, _, rfl, rfl, hb, rfl, two_ok, fun t ht => ?_⟩
    have z := Fz.nw (o := .tup [.int (-y.num), .int (y.den : Int)]) hs ht
    refine ⟨_, a, .ref t, x, -y, rfl, z.sub, ha.up z.grow, ⟨t, rfl, ?_⟩, ⟨sx, bt_neg sy, ?_⟩, fun v2 H2 F2 z2 hv2 => ?_⟩
    · rw [Rat.neg_num, Rat.neg_den]
      exact .inl (.inl upd_same)
    · show Sl (x + -y)
      rw [← Rat.sub_eq_add_neg]; exact sl
    · refine k v2 H2 F2 (z.trans z2) ?_
      show IsF K F2 v2 (x - y)
      rw [Rat.sub_eq_add_neg]; exact hv2
theorem g_L_order (T : Txt K mg) : G P w K mg base CX0 1 "_law_order" p_L_order (spOrder K) := by
  refine G.mk' T.df_L_order T.g_L_order (fun _ _ _ _ _ _ us hl => match us, hl with | [_, _], _ => rfl) fun fd F => ?_
  refine F.ok sc_L_order (fun vs H Q E h => ?_) (fun cdv A outer s H vs Q E hr h => ?_)
  · obtain ⟨_, _, _, _, _, rfl, _⟩ := h
    rfl
  · obtain ⟨F, _, _, x, y, rfl, hs, ⟨a, rfl, ha⟩, ⟨b, rfl, hb⟩, sx, sy, k⟩ := h
    have ha := sq_t hs ha
    have hb := sq_t hs hb
    refine ⟨_, PSs.nox (pss_cons (ps_set (i := 2) sc_L_order.nd rfl (.inl rfl) (pe_op op_sub (pe_op op_mulW (pe_ix ix_tup (pv 0) pe_int (fun _ _ => rfl)) (pe_ix ix_tup (pv 1) pe_int (fun _ _ => rfl))) (pe_op op_mulW (pe_ix ix_tup (pv 1) pe_int (fun _ _ => rfl)) (pe_ix ix_tup (pv 0) pe_int (fun _ _ => rfl)))))
  (pss_one (ps_ret (pe_op op_sub (pe_callTy call_int1 (by rfl) T.f_int (by decide +kernel) (pa_cons (pe_cmpR op_gt (pv 2) pe_int (nomark _)) pa_nil)) (pe_callTy call_int1 (by rfl) T.f_int (by decide +kernel) (pa_cons (pe_cmpR op_lt (pv 2) pe_int (nomark _)) pa_nil)))))), ?_⟩
    refine ⟨_, rfl, _, _, _, _, rfl, rfl, ha, rfl, _, rfl, _, _, _, _, rfl, rfl, hb, rfl, _, _, rfl, rfl, cmulw sx.n sy.d (by decide),
        _, rfl, _, _, _, _, rfl, rfl, hb, rfl, _, rfl, _, _, _, _, rfl, rfl, ha, rfl, _, _, rfl, rfl, cmulw sy.n sx.d (by decide), _, _, rfl, rfl,
        _, rfl, _, _, rfl, rfl, .inr ⟨_, rfl, _, rfl, _, _, rfl, rfl, .inr ⟨_, rfl, _, _, rfl, rfl, ?_⟩⟩⟩
    have e1 : decide ((0 : Int) < x.num * (y.den : Int) - y.num * (x.den : Int)) = decide (y.num * (x.den : Int) < x.num * (y.den : Int)) := decide_eq_decide.2 (by omega)
    have e2 : decide (x.num * (y.den : Int) - y.num * (x.den : Int) < 0) = decide (x.num * (y.den : Int) < y.num * (x.den : Int)) := decide_eq_decide.2 (by omega)
    show Q (.int ((if decide ((0 : Int) < x.num * (y.den : Int) - y.num * (x.den : Int)) = true then 1 else 0) - (if decide (x.num * (y.den : Int) - y.num * (x.den : Int) < 0) = true then 1 else 0))) H
    rw [e1, e2]
    exact k
end
end K3
end
section
set_option Elab.async false
set_option linter.all false
set_option maxRecDepth 100000
set_option exponentiation.threshold 100
namespace K3
open PySem PySem.Spec PyProof.Rows L2
/-! ### the deck -/
/-- a deck at d: its script (a frozen copy), the place in it, what is left of the last great number, the state -/
def Deck (H F : Hp) (d : Addr) : Prop := ∃ (s : Addr) (ns : List Int) (i : Nat) (r t : Int), H d = some (.lst [.ref s, .int i, .int r, .int t]) ∧ F d = none ∧ F s = some (.lst (ns.map V.int)) ∧ Same F H
section
variable {P : Program} {w : World} {K : PySem.W.Frag} {mg : Str → Option Value} {base : Heap}
theorem Deck.mv {S : Addr → Prop} {H F H' F' : Hp} {d : Addr} (h : Deck H F d) (z : Fz S H F H' F') (n : ¬ S d) : Deck H' F' d := by
  obtain ⟨s, ns, i, r, t, h1, h2, h3, h4⟩ := h
  exact ⟨s, ns, i, r, t, z.keep _ _ n h1, z.outS h2 h1, z.grow _ _ h3, z.sub⟩
def spDeck (K : PySem.W.Frag) : Sp := fun vs H Q _ => ∃ (a : Addr) (ns : List Int), vs = [.ref a] ∧ SqL K H a (ns.map V.int) ∧ ∀ H' F' d, Same F' H' → Deck H' F' d → Q (.ref d) H'
theorem g_L_deck (T : Txt K mg) : G P w K mg base CX0 1 "_law_deck" p_L_deck (spDeck K) := by
  refine G.mk' T.df_L_deck T.g_L_deck (fun _ _ _ _ _ _ us hl => match us, hl with | [_], _ => rfl) fun fd F => ?_
  refine F.ok sc_L_deck (fun vs H Q E h => ?_) (fun cdv A outer s H vs Q E hr h => ?_)
  · obtain ⟨_, _, rfl, _⟩ := h
    rfl
  · obtain ⟨a, ns, rfl, hS, k⟩ := h
    refine ⟨_, PSs.nox (pss_one (ps_ret (pe_lst (pa_cons (pe_callTy call_list_of (by rfl) T.f_list (by decide +kernel) (pa_cons (pv 0) pa_nil)) (pa_cons pe_int (pa_cons pe_int (pa_cons pe_int pa_nil))))))), ?_⟩
    refine ⟨_, rfl, _, _, rfl, .inl hS, fun l hl => ⟨(by decide : 4 ≤ sizeLine), fun d hd => ?_⟩⟩
    have hld : l ≠ d := fun e => by rw [e, upd_same] at hd; cases hd
    have hF : Same (upd (fun _ => none) l (.lst (ns.map V.int))) (upd (upd H l (.lst (ns.map V.int))) d (.lst [.ref l, .int 0, .int 0, .int 7])) := fun b o e => by
      by_cases hb : b = l
      · subst hb
        rw [upd_same] at e
        rw [upd_ne hld, upd_same]; exact e
      · rw [upd_ne hb] at e; cases e
    refine k _ _ d hF ⟨l, ns, 0, 0, 7, upd_same, ?_, upd_same, hF⟩
    rw [upd_ne (Ne.symm hld)]
/-- a number below m; the deck has changed, nothing else -/
def spDraw : Sp := fun vs H Q _ => ∃ (F : Hp) (d : Addr) (m : Nat), vs = [.ref d, .int m] ∧ Deck H F d ∧ 0 < m ∧ m < 1000 ∧ ∀ (n : Nat) H', n < m → Fz (· = d) H F H' F → Deck H' F d → Q (.int n) H'
theorem draw_set {H F : Hp} {d : Addr} {xs : List V} (hs : Same F H) (hf : F d = none) {x : V} (j : Nat) : Fz (· = d) H F (upd H d (.lst (xs.set j x))) F := Fz.set (Fz.refl hs) (.inr rfl) hf
theorem mod_nat (i : Int) (m : Nat) (h : 0 < m) : ∃ n : Nat, n < m ∧ i % (m : Int) = (n : Int) := by
  refine ⟨(i % (m : Int)).toNat, ?_, ?_⟩
  · have := Int.emod_lt_of_pos i (show (0 : Int) < m by omega)
    have := Int.emod_nonneg i (show (m : Int) ≠ 0 by omega)
    omega
  · have := Int.emod_nonneg i (show (m : Int) ≠ 0 by omega)
    omega
theorem g_L_draw (T : Txt K mg) : G P w K mg base CX0 1 "_law_draw" p_L_draw spDraw := by
  refine G.mk' T.df_L_draw T.g_L_draw (fun _ _ _ _ _ _ us hl => match us, hl with | [_, _], _ => rfl) fun fd F => ?_
  refine F.ok sc_L_draw (fun vs H Q E h => ?_) (fun cdv A outer s H vs Q E hr h => ?_)
  · obtain ⟨_, _, _, rfl, _⟩ := h
    rfl
  · obtain ⟨F, d, m, rfl, ⟨sc, ns, i, r, t, hd, hf, hns, hs⟩, m0, m1, k⟩ := h
    have hm : (0 : Int) < (m : Int) := by omega
    have hm2 : (m : Int) < 1073741824 := by omega
    have hl := SqL.of (K := K) hd
    have hn : SqL K H sc (ns.map V.int) := SqL.of (hs _ _ hns)
    refine ⟨_, PSs.nox (pss_cons (ps_if (pt_cmpR op_ge (pe_ix ix_list (pv 0) pe_int (fun _ _ => rfl)) (pv 1) (nomark _)) (pss_cons (ps_set (i := 2) sc_L_draw.nd rfl (.inl rfl) (pe_op op_mod (pe_callTy call_int1 (by rfl) T.f_int (by decide +kernel) (pa_cons (pe_ix ix_list (pv 0) pe_int (fun _ _ => rfl)) pa_nil)) (pv 1)))
  (pss_cons (ps_asg (pe_op op_fdiv (pe_ix ix_list (pv 0) pe_int (fun _ _ => rfl)) (pv 1)) (pg_sub (pv 0) pe_int set_list))
  (pss_one (ps_ret (pv 2))))) pss_nil)
  (pss_cons (ps_set (i := 3) sc_L_draw.nd rfl (.inl rfl) pe_int)
  (pss_cut (ps_if (pt_cmpR op_lt (pe_ix ix_list (pv 0) pe_int (fun _ _ => rfl)) (pe_callB call_len_seq (by rfl) T.f_len (by decide +kernel) (pa_cons (pe_ix ix_list (pv 0) pe_int (fun _ _ => rfl)) pa_nil)) (nomark _)) (pss_one (ps_set (i := 3) sc_L_draw.nd rfl (.inl rfl) (pe_ix ix_list (pe_ix ix_list (pv 0) pe_int (fun _ _ => rfl)) (pe_ix ix_list (pv 0) pe_int (fun _ _ => rfl)) (fun _ _ => rfl)))) pss_nil)
  (pss_cons (ps_asg (pe_op op_add (pe_ix ix_list (pv 0) pe_int (fun _ _ => rfl)) pe_int) (pg_sub (pv 0) pe_int set_list))
  (pss_cons (ps_asg pe_int (pg_sub (pv 0) pe_int set_list))
  (pss_cons (ps_if (pt_cmpR op_ge (pv 3) (pe_op op_pow pe_int pe_int) (nomark _)) (pss_cons (ps_asg (pe_op op_fdiv (pv 3) (pv 1)) (pg_sub (pv 0) pe_int set_list))
  (pss_one (ps_ret (pe_op op_mod (pe_callTy call_int1 (by rfl) T.f_int (by decide +kernel) (pa_cons (pv 3) pa_nil)) (pv 1))))) pss_nil)
  (pss_cons (ps_asg (pe_op op_mod (pe_callTy call_int1 (by rfl) T.f_int (by decide +kernel) (pa_cons (pe_op op_add (pe_op op_add (pe_op op_mul (pe_ix ix_list (pv 0) pe_int (fun _ _ => rfl)) pe_int) (pe_op op_mul (pv 3) pe_int)) (pe_op op_mul (pe_ix ix_list (pv 0) pe_int (fun _ _ => rfl)) pe_int)) pa_nil)) pe_int) (pg_sub (pv 0) pe_int set_list))
  (pss_cons (ps_asg (pe_op op_mod (pe_callTy call_int1 (by rfl) T.f_int (by decide +kernel) (pa_cons (pe_op op_add (pe_op op_mul (pe_ix ix_list (pv 0) pe_int (fun _ _ => rfl)) pe_int) pe_int) pa_nil)) pe_int) (pg_sub (pv 0) pe_int set_list))
  (pss_one (ps_ret (pe_op op_mod (pe_callTy call_int1 (by rfl) T.f_int (by decide +kernel) (pa_cons (pe_op op_fdiv (pe_ix ix_list (pv 0) pe_int (fun _ _ => rfl)) pe_int) pa_nil)) (pv 1)))))))))))), ?_⟩
    refine ⟨_, rfl, _, _, _, _, rfl, rfl, hl, rfl, _, rfl, _, _, rfl, rfl, _, rfl, ite2 (fun e => ?_) (fun e => ?_)⟩
    · refine ⟨_, rfl, _, _, _, _, rfl, rfl, hl, rfl, .inl ⟨_, rfl, _, rfl, _, _, rfl, rfl, hm, ?_⟩⟩
      refine ⟨_, rfl, _, _, _, _, rfl, rfl, hl, rfl, _, rfl, _, _, rfl, rfl, ⟨hm, hm2⟩, _, rfl, _, _, _, _, rfl, rfl, hd, rfl, ?_⟩
      obtain ⟨n, n1, n2⟩ := mod_nat r m m0
      refine ⟨_, rfl, ?_⟩
      have z := draw_set (xs := [.ref sc, .int i, .int r, .int t]) (x := .int (r / (m : Int))) hs hf 2
      have q := k n _ n1 z ⟨sc, ns, i, _, t, upd_same, hf, hns, z.sub⟩
      rw [← n2] at q
      exact q
    · -- the cell
      refine ⟨fun σ H' => ∃ c : Int, σ = [some (.ref d), some (.int m), none, some (.int c)] ∧ H' = H, ?_, fun σ H' ⟨c, e1, e2⟩ => ?_⟩
      · refine ⟨_, rfl, _, _, _, _, rfl, rfl, hl, rfl, _, rfl, _, _, _, _, rfl, rfl, hl, rfl, _, _, rfl, .inl hn, _, _, rfl, rfl, _, rfl, ite2 (fun e => ?_) (fun e => ?_)⟩
        · have e : (i : Int) < ((ns.map V.int).length : Int) := of_decide_eq_true e
          have hi : i < ns.length := by rw [List.length_map] at e; omega
          refine ⟨_, rfl, _, _, _, _, rfl, rfl, hl, rfl, _, rfl, _, _, _, _, rfl, rfl, hl, rfl, _, _, _, .int ns[i], rfl, rfl, hn, atI_nat ?_, ns[i], rfl, rfl⟩
          rw [List.getElem?_map, List.getElem?_eq_getElem hi]; rfl
        · exact ⟨0, rfl, rfl⟩
      · subst e1 e2
        -- deck[1] = deck[1] + 1; deck[2] = 0
        refine ⟨_, rfl, _, _, _, _, rfl, rfl, hl, rfl, _, _, rfl, rfl, _, rfl, _, _, _, _, rfl, rfl, hd, rfl, ?_⟩
        have z1 := draw_set (xs := [.ref sc, .int i, .int r, .int t]) (x := .int ((i : Int) + 1)) hs hf 1
        refine ⟨_, rfl, _, _, _, _, rfl, rfl, upd_same, rfl, ?_⟩
        rw [upd_upd]
        have z2 := draw_set (xs := [.ref sc, .int ((i : Int) + 1), .int r, .int t]) (x := .int 0) hs hf 2
        refine ⟨_, rfl, _, _, rfl, rfl, ⟨by decide, by decide, by decide⟩, _, _, rfl, rfl, _, rfl, ite2 (fun e => ?_) (fun e => ?_)⟩
        · refine ⟨_, rfl, _, rfl, _, _, rfl, rfl, ⟨hm, hm2⟩, _, rfl, _, _, _, _, rfl, rfl, upd_same, rfl, ?_⟩
          rw [upd_upd]
          obtain ⟨n, n1, n2⟩ := mod_nat c m m0
          refine ⟨_, rfl, .inl ⟨_, rfl, _, rfl, _, _, rfl, rfl, hm, ?_⟩⟩
          have z3 := draw_set (xs := [.ref sc, .int ((i : Int) + 1), .int 0, .int t]) (x := .int (c / (m : Int))) hs hf 2
          have q := k n _ n1 z3 ⟨sc, ns, i + 1, _, t, upd_same, hf, hns, z3.sub⟩
          rw [← n2] at q
          exact q
        · have h2 := SqL.of (K := K) (H := upd H' d (.lst [.ref sc, .int ((i : Int) + 1), .int 0, .int t])) (a := d) upd_same
          refine ⟨_, rfl, _, _, _, _, rfl, rfl, h2, rfl, _, _, rfl, rfl, .inr ⟨by decide, by decide⟩, _, rfl, _, _, rfl, rfl, .inr ⟨by decide, by decide⟩, _, _, rfl, rfl, _, rfl, _, _, _, _, rfl, rfl, h2, rfl, _, _, rfl, rfl, .inr ⟨by decide, by decide⟩, _, _, rfl, rfl,
            .inl ⟨_, rfl, _, _, rfl, rfl, (by decide : (0 : Int) < 2147483647), _, rfl, _, _, _, _, rfl, rfl, upd_same, rfl, ?_⟩⟩
          rw [upd_upd]
          have h3 := SqL.of (K := K) (H := upd H' d (.lst [.ref sc, .int ((i : Int) + 1), .int 0, .int ((t * 48271 + c * 69621 + ((i : Int) + 1) * 911) % 2147483647)])) (a := d) upd_same
          refine ⟨_, rfl, _, _, _, _, rfl, rfl, h3, rfl, _, _, rfl, rfl, .inr ⟨by decide, by decide⟩, _, _, rfl, rfl, .inl ⟨_, rfl, _, _, rfl, rfl, (by decide : (0 : Int) < 2147483647), _, rfl, _, _, _, _, rfl, rfl, upd_same, rfl, ?_⟩⟩
          rw [upd_upd]
          have h4 := SqL.of (K := K) (H := upd H' d (.lst [.ref sc, .int ((i : Int) + 1), .int 0, .int ((((t * 48271 + c * 69621 + ((i : Int) + 1) * 911) % 2147483647) * 48271 + 12345) % 2147483647)])) (a := d) upd_same
          obtain ⟨n, n1, n2⟩ := mod_nat (((((t * 48271 + c * 69621 + ((i : Int) + 1) * 911) % 2147483647) * 48271 + 12345) % 2147483647) / 64) m m0
          refine ⟨_, rfl, _, _, _, _, rfl, rfl, h4, rfl, _, _, rfl, rfl, ⟨by decide, by decide⟩, .inl ⟨_, rfl, _, rfl, _, _, rfl, rfl, hm, ?_⟩⟩
          have z3 := draw_set (xs := [.ref sc, .int ((i : Int) + 1), .int 0, .int t]) (x := .int ((((t * 48271 + c * 69621 + ((i : Int) + 1) * 911) % 2147483647) * 48271 + 12345) % 2147483647)) hs hf 3
          have q := k n _ n1 z3 ⟨sc, ns, i + 1, 0, _, upd_same, hf, hns, z3.sub⟩
          rw [← n2] at q
          exact q
end
end K3
end
section
set_option Elab.async false
set_option linter.all false
set_option maxRecDepth 100000
set_option exponentiation.threshold 100
namespace K3
open PySem PySem.Spec PyProof.Rows L2
/-! ### the program's elimination -/
theorem pr_take {α β : Type} {R : α → β → Prop} {acc : List α} {l : List β} {i : Nat} {x : β} {v : α} (h : Paired R acc (l.take i)) (e : l[i]? = some x) (r : R v x) : Paired R (acc ++ [v]) (l.take (i + 1)) := by
  rw [List.take_add_one, e]
  exact pr_snoc h r
theorem pr_all {α β : Type} {R : α → β → Prop} {acc : List α} {l : List β} {n : Nat} (h : Paired R acc (l.take n)) (e : l.length ≤ n) : Paired R acc l := by
  rw [List.take_of_length_le e] at h
  exact h
theorem el_get {c : Nat} {ch row : Row} {i : Nat} {x y : Rat} (h1 : row[i]? = some x) (h2 : ch[i]? = some y) : (el c ch row)[i]? = some (x - at0 row c * y) := by
  unfold el
  rw [List.getElem?_zipWith, h1, h2]
theorem sc_get {c : Nat} {r : Row} {i : Nat} {x : Rat} (h1 : r[i]? = some x) : (sc c r)[i]? = some (x / at0 r c) := by
  unfold sc
  rw [List.getElem?_map, h1]; rfl
/-! rows as data -/
def frD (x : Rat) : PyData := .tuple [.int x.num, .int (x.den : Int)]
def rowD (r : Row) : PyData := .list (r.map frD)
theorem frD_lay (x : Rat) : (frD x).canLay0 = true := by simp [frD, PyData.canLay0, PyData.canLayAll0]
theorem frD_depth (x : Rat) : (frD x).depth = 1 := by simp [frD, PyData.depth, PyData.depthAll]
theorem frDs_lay : ∀ r : Row, PyData.canLayAll0 (r.map frD) = true
  | [] => by simp [PyData.canLayAll0]
  | z :: zs => by simp [PyData.canLayAll0, frD_lay z, frDs_lay zs]
theorem frDs_depth : ∀ r : Row, PyData.depthAll (r.map frD) ≤ 1
  | [] => by simp [PyData.depthAll]
  | z :: zs => by
    have h1 := frDs_depth zs
    have h2 := frD_depth z
    simp only [List.map_cons, PyData.depthAll]
    omega
theorem rowD_lay (r : Row) : (rowD r).canLay0 = true := by simp only [rowD, PyData.canLay0]; exact frDs_lay r
theorem rowD_depth (r : Row) : (rowD r).depth ≤ 2 := by have := frDs_depth r; simp only [rowD, PyData.depth]; omega
theorem rowDs_lay : ∀ R : List Row, PyData.canLayAll0 (R.map rowD) = true
  | [] => by simp [PyData.canLayAll0]
  | z :: zs => by simp [PyData.canLayAll0, rowD_lay z, rowDs_lay zs]
theorem rowDs_depth : ∀ R : List Row, PyData.depthAll (R.map rowD) ≤ 2
  | [] => by simp [PyData.depthAll]
  | z :: zs => by
    have h1 := rowDs_depth zs
    have h2 := rowD_depth z
    simp only [List.map_cons, PyData.depthAll]
    omega
theorem shaped_of {d : PyData} (h : d.canLay0 = true) (h2 : d.depth ≤ 60) : SeqAt.shaped d = true := by
  show (d.canLay0 && decide (d.depth ≤ 64)) = true
  rw [h, Bool.true_and]; exact decide_eq_true (by omega)
theorem rowD_shaped (r : Row) : SeqAt.shaped (rowD r) = true := shaped_of (rowD_lay r) (by have := rowD_depth r; omega)
theorem rowDs_shaped (R : List Row) : SeqAt.shaped (.list (R.map rowD)) = true := shaped_of (by simp only [PyData.canLay0]; exact rowDs_lay R) (by have := rowDs_depth R; simp only [PyData.depth]; omega)
theorem frD_eqv (x y : Rat) : PyData.eqv (frD x) (frD y) = decide (x = y) := by
  have e : PyData.eqv (frD x) (frD y) = ((x.num == y.num) && (((x.den : Int) == (y.den : Int)) && true)) := by simp only [frD, PyData.eqv, PyData.eqvAll]
  rw [e]
  by_cases h : x = y
  · subst h; simp
  · rw [decide_eq_false h]
    by_cases h1 : x.num = y.num
    · by_cases h2 : x.den = y.den
      · exact absurd (Rat.ext h1 h2) h
      · have q : ((x.den : Int) == (y.den : Int)) = false := beq_eq_false_iff_ne.mpr (by omega)
        rw [q, Bool.false_and, Bool.and_false]
    · have q : (x.num == y.num) = false := beq_eq_false_iff_ne.mpr h1
      rw [q, Bool.false_and]
theorem frDs_eqv : ∀ r q : Row, PyData.eqvAll (r.map frD) (q.map frD) = decide (r = q)
  | [], [] => by simp [PyData.eqvAll]
  | [], _ :: _ => by simp [PyData.eqvAll]
  | _ :: _, [] => by simp [PyData.eqvAll]
  | x :: r, y :: q => by
    have ih := frDs_eqv r q
    simp only [List.map_cons, PyData.eqvAll, ih, frD_eqv]
    by_cases h : x = y
    · subst h; by_cases h2 : r = q <;> simp [h2]
    · simp [h]
theorem rowD_eqv (r q : Row) : PyData.eqv (rowD r) (rowD q) = decide (r = q) := by
  simp only [rowD, PyData.eqv]; exact frDs_eqv r q
theorem dp_f {K : PySem.W.Frag} {H : Hp} {v : V} {x : Rat} (h : IsF K H v x) : Dp K H v (frD x) := by
  obtain ⟨a, rfl, ha⟩ := h
  exact .tup ha (.cons (.int _) (.cons (.int _) .nil))
theorem dp_fs {K : PySem.W.Frag} {H : Hp} {vs : List V} {r : Row} (h : Paired (RF K H) vs r) : DpAll K H vs (r.map frD) := by
  induction h with
  | nil => exact .nil
  | cons q _ ih => exact .cons (dp_f q) ih
theorem dp_row {K : PySem.W.Frag} {H : Hp} {v : V} {r : Row} (h : RFs K H v r) : Dp K H v (rowD r) := by
  obtain ⟨a, vs, rfl, ha, hp⟩ := h
  exact .lst (SqL.of ha) (dp_fs hp)
theorem dp_rows {K : PySem.W.Frag} {H : Hp} {vs : List V} {R : List Row} (h : Paired (RFs K H) vs R) : DpAll K H vs (R.map rowD) := by
  induction h with
  | nil => exact .nil
  | cons q _ ih => exact .cons (dp_row q) ih
/-! the rows that are not 0 at c -/
def fl (c : Nat) : List V → List Row → List V
  | v :: vs, r :: rs => if at0 r c ≠ 0 then v :: fl c vs rs else fl c vs rs
  | _, _ => []
theorem fl_snoc (c : Nat) (v : V) (r : Row) : ∀ (vs : List V) (rs : List Row), vs.length = rs.length → fl c (vs ++ [v]) (rs ++ [r]) = fl c vs rs ++ (if at0 r c ≠ 0 then [v] else [])
  | [], [], _ => by by_cases h : at0 r c = 0 <;> simp [fl, h]
  | [], _ :: _, h => by simp at h
  | _ :: _, [], h => by simp at h
  | a :: vs, b :: rs, h => by
    have ih := fl_snoc c v r vs rs (by simpa using h)
    by_cases hb : at0 b c ≠ 0
    · simp only [List.cons_append, fl, if_pos hb, ih]
    · simp only [List.cons_append, fl, if_neg hb, ih]
theorem fl_none (c : Nat) : ∀ (vs : List V) (rs : List Row), pick c rs = none → fl c vs rs = []
  | [], _, _ => rfl
  | _ :: _, [], _ => rfl
  | v :: vs, r :: rs, h => by
    unfold pick at h
    by_cases hr : at0 r c ≠ 0
    · rw [if_pos hr] at h; cases h
    · rw [if_neg hr] at h
      rw [fl, if_neg hr]
      refine fl_none c vs rs ?_
      cases e : pick c rs with
      | none => rfl
      | some p => rw [e] at h; cases h
theorem fl_some (c : Nat) : ∀ (vs : List V) (rs : List Row) (r : Row) (R' : List Row), vs.length = rs.length → pick c rs = some (r, R') → ∃ (j : Nat) (v : V) (tl : List V), fl c vs rs = v :: tl ∧ vs[j]? = some v ∧ rs[j]? = some r ∧ (∀ (m : Nat) (q : Row), m < j → rs[m]? = some q → at0 q c = 0) ∧ R' = rs.eraseIdx j
  | [], [], _, _, _, h => by simp [pick] at h
  | [], _ :: _, _, _, h, _ => by simp at h
  | _ :: _, [], _, _, h, _ => by simp at h
  | v :: vs, q :: rs, r, R', hl, h => by
    unfold pick at h
    by_cases hr : at0 q c ≠ 0
    · rw [if_pos hr] at h
      cases h
      exact ⟨0, v, fl c vs rs, by rw [fl, if_pos hr], rfl, rfl, fun m _ hm => absurd hm (Nat.not_lt_zero m), rfl⟩
    · rw [if_neg hr] at h
      cases e : pick c rs with
      | none => rw [e] at h; cases h
      | some p =>
        rw [e] at h
        obtain ⟨p1, p2⟩ := p
        cases h
        obtain ⟨j, v', tl, h1, h2, h3, h4, h5⟩ := fl_some c vs rs p1 p2 (by simpa using hl) e
        refine ⟨j + 1, v', tl, by rw [fl, if_neg hr, h1], h2, h3, fun m x hm hx => ?_, by rw [h5]; rfl⟩
        cases m with
        | zero =>
          have : q = x := Option.some.inj hx
          subst this
          exact Classical.not_not.mp hr
        | succ m => exact h4 m x (by omega) hx
theorem pr_erase {α β : Type} {R : α → β → Prop} {vs : List α} {xs : List β} (h : Paired R vs xs) (i : Nat) : Paired R (vs.eraseIdx i) (xs.eraseIdx i) := by
  induction h generalizing i with
  | nil => exact .nil
  | cons q t ih =>
    cases i with
    | zero => exact t
    | succ i => exact .cons q (ih i)
section
variable {P : Program} {w : World} {K : PySem.W.Frag} {mg : Str → Option Value} {base : Heap}
def spWRR (K : PySem.W.Frag) : Sp := fun vs H Q _ => ∃ (F : Hp) (a b : V) (c : Nat) (row ch : Row), vs = [a, b, .int c] ∧ Same F H ∧ RFs K F a row ∧ RFs K F b ch ∧ row.length = ch.length ∧ c < row.length ∧ row.length < 1000 ∧ Nice row ∧ Nice ch ∧
  Ret N0 H F (fun v F' => RFs K F' v (el c ch row)) Q
theorem g_with_row_removed (T : Txt K mg) : G P w K mg base CX0 4 "with_row_removed" p_with_row_removed (spWRR K) := by
  refine G.mk' T.df_with_row_removed T.g_with_row_removed (fun _ _ _ _ _ _ us hl => match us, hl with | [_, _, _], _ => rfl) fun fd F => ?_
  refine F.ok sc_with_row_removed (fun vs H Q E h => ?_) (fun cdv A outer s H vs Q E hr h => ?_)
  · obtain ⟨_, _, _, _, _, _, rfl, _⟩ := h
    rfl
  · obtain ⟨F, _, _, c, row, ch, rfl, hs, ⟨a, va, rfl, ha, pa⟩, ⟨b, vb, rfl, hb, pb⟩, hl, hc, hz, nr, nc, k⟩ := h
    refine ⟨_, PSs.nox (pss_cons (ps_set (i := 3) sc_with_row_removed.nd rfl (.inr rfl) (pe_ix ix_list (pv 0) (pv 2) (fun _ _ => rfl)))
  (pss_one (ps_ret (pe_lc (own := [("a", 4), ("b", 5)]) (g := gTup K 2 (gCons (gName 4) (gCons (gName 5) gNil))) (tt := tYes) rfl sc_with_row_removed.nd (pi_zip (by rfl) T.f_zip (pa_cons (pv 0) (pa_cons (pv 1) pa_nil))) (blkOk_by (own := [("a", 4), ("b", 5)]) (N := n_with_row_removed) (sc := defScope s_with_row_removed) (by decide +kernel)) (fun _ _ _ _ _ => (pg_tup rfl (pgs_cons (pg_name (i := 4) sc_with_row_removed.nd rfl (Or.inl rfl)) (pgs_cons (pg_name (i := 5) sc_with_row_removed.nd rfl (Or.inl rfl)) pgs_nil)))) (fun _ _ _ _ _ => pts_nil) (fun _ _ _ _ _ => (pe_g (g_minus T) (hr.mono (by omega)) (by rfl) pass0 (pa_cons (pv 4) (pa_cons (pe_g (g_times T) (hr.mono (by omega)) (by rfl) pass0 (pa_cons (pv 3) (pa_cons (pv 5) pa_nil))) pa_nil)))))))), ?_⟩
    obtain ⟨fv, hfv, hf⟩ := pr_at pa (at0_lt hc)
    refine ⟨_, rfl, _, rfl, _, _, _, _, rfl, rfl, SqL.of (hs _ _ ha), atI_nat hfv, ?_⟩
    have la : va.length = row.length := pr_len pa
    have lb : vb.length = ch.length := pr_len pb
    refine ⟨_, rfl, _, rfl, _, _, _, _, rfl, SqL.of (hs _ _ ha), SqL.of (hs _ _ hb), lc_Z (S := N0) (by omega) (fun i acc F' => Paired (RF K F') acc ((el c ch row).take i)) hs (fun _ z => z.elim) (hs _ _ ha) (fun z => z) (hs _ _ hb) (fun z => z) .nil (by omega) (fun _ _ => rfl)
      (fun i acc H' F' x y hx hy z p R R' hR _ => ?_) (fun D ys H' F' hD z e1 e2 p => ?_)⟩
    · obtain ⟨x', hx', rx⟩ := pr_at' pa hx
      obtain ⟨y', hy', ry⟩ := pr_at' pb hy
      have sx : Sm x' := by rw [← at0_of hx']; exact Sm.of (nr i) (by decide) (by decide)
      have sy : Sm y' := by rw [← at0_of hy']; exact Sm.of (nc i) (by decide) (by decide)
      have sp : Sm (at0 row c * y') := by rw [← at0_of hy']; exact Sm.of (bt_mul (nr c) (nc i)) (by decide) (by decide)
      refine yes ⟨_, rfl, _, rfl, _, rfl, F', _, _, at0 row c, y', rfl, z.sub, hf.up z.grow, ry.up z.grow, ⟨Sm.of (nr c) (by decide) (by decide), sy⟩, fun v1 H1 F1 z1 h1 => ?_⟩
      refine ⟨F1, _, _, x', _, rfl, z1.sub, (rx.up z.grow).up z1.grow, h1, ⟨sx, sp⟩, fun v2 H2 F2 z2 h2 => ?_⟩
      exact hR v2 H2 F2 (z1.trans z2) (pr_take (paired_up upF (z1.trans z2).grow p) (el_get hx' hy') h2)
    · have hp : Paired (RF K F') ys (el c ch row) := pr_all p (by rw [len_el _ _ _ hl, la]; exact Nat.le_refl _)
      exact k _ _ _ (z.freeze hD e1 e2) ⟨D, ys, rfl, upd_same, paired_up upF (same_upd e2) hp⟩
end
end K3
end
section
set_option Elab.async false
set_option linter.all false
set_option maxRecDepth 100000
set_option exponentiation.threshold 100
namespace K3
open PySem PySem.Spec PyProof.Rows L2
theorem sweep_rowB {W n : Nat} {T : List Row} (hW : ∀ r ∈ T, r.length = W) (hb : ∀ r ∈ T, RowB n 0 r) (hnW : n ≤ W) : ∀ i, i ≤ n → (∀ r ∈ (sweep T i).1, RowB n i r) ∧ ∀ r ∈ (sweep T i).2.1, RowB n i r
  | 0, _ => ⟨by simp [sweep], hb⟩
  | i + 1, hi => by
    have ih := sweep_rowB hW hb hnW i (by omega)
    have I := si_sweep hW i (by omega)
    exact step_bound I.wD I.wR (by omega) ih.1 ih.2 (step_sweep1 i _)
theorem mem_pick {c : Nat} {R : List Row} {r : Row} {R' : List Row} (h : pick c R = some (r, R')) : r ∈ R := (pick_perm c R r R' h).2.symm.subset List.mem_cons_self
theorem mem_pick' {c : Nat} {R : List Row} {r : Row} {R' : List Row} (h : pick c R = some (r, R')) : ∀ q ∈ R', q ∈ R := fun q m => (pick_perm c R r R' h).2.symm.subset (List.mem_cons_of_mem _ m)
section
variable {P : Program} {w : World} {K : PySem.W.Frag} {mg : Str → Option Value} {base : Heap}
/-- [with_row_removed(row, chosen, column) for row in ..] -/
theorem lc_wrr {s0 s1 s2 s3 s4 s6 s8 s9 : Option V} {H F : Hp} {a : Addr} {vx : List V} {Xs : List Row} {c W : Nat} {chv : V} {ch : Row} {Qd : Addr → Hp → Prop}
    (hs : Same F H) (ha : H a = some (.lst vx)) (px : Paired (RFs K F) vx Xs) (hch : RFs K F chv ch)
    (hX : ∀ r ∈ Xs, r.length = W ∧ Nice r) (hcl : ch.length = W) (hcn : Nice ch) (hc : c < W) (hW : W < 1000) (hz : Xs.length < 1000)
    (k : ∀ D ys H' F', H D = none → Fz N0 H F H' F' → H' D = some (.lst ys) → F' D = none → Paired (RFs K F') ys (Xs.map (el c ch)) → Qd D H') :
    ∀ D, H D = none → ∃ W : Nat → Nat → Hp → Prop, (∃ m, W 0 m (upd H D (.lst []))) ∧ ∀ i m H, W i m H →
      ((Itl K a).stop i H ∧ Qd D H) ∨ ((Itl K a).go i H ∧ ∃ Nx : Hp → Prop, (∀ H', Nx H' → ∃ m', m' < m ∧ W (i + 1) m' H') ∧ ∀ x H', (Itl K a).yld i H x H' → gName 8 x (wipe [s0, s1, s2, s3, s4, some (.int c), s6, some chv, s8, s9] [8]) H' fun σ2 H2 => wipe σ2 [8] = wipe [s0, s1, s2, s3, s4, some (.int c), s6, some chv, s8, s9] [8] ∧ tYes σ2 H2 fun b H3 =>
        if b = true then tCall (spWRR K) [] E0 (tCons (tVar 8) (tCons (tVar 7) (tCons (tVar 5) tNil))) σ2 H3 fun y H4 => ∃ acc, H4 D = some (.lst acc) ∧ acc.length < sizeLine ∧ Nx (upd H4 D (.lst (acc ++ [y]))) else Nx H3) := by
  have lx := pr_len px
  refine lc_L (S := N0) (fun i acc F' => Paired (RFs K F') acc ((Xs.map (el c ch)).take i)) hs (fun _ z => z.elim) ha (fun z => z) .nil (by omega) (fun _ => rfl) (fun i acc H' F' x hx z p R R' hR _ => ?_) (fun D ys H' F' hD z e1 e2 p => ?_)
  · obtain ⟨x', hx', rx⟩ := pr_at' px hx
    have hm := hX x' (List.mem_of_getElem? hx')
    refine yes ⟨_, rfl, _, rfl, _, rfl, F', _, _, c, x', ch, rfl, z.sub, upFs _ _ _ _ z.grow rx, upFs _ _ _ _ z.grow hch, by rw [hm.1, hcl], by rw [hm.1]; exact hc, by rw [hm.1]; exact hW, hm.2, hcn, fun v1 H1 F1 z1 h1 => ?_⟩
    exact hR v1 H1 F1 z1 (pr_take (paired_up upFs z1.grow p) (by rw [List.getElem?_map, hx']; rfl) h1)
  · exact k D ys H' F' hD z e1 e2 (pr_all p (by rw [List.length_map, lx]; exact Nat.le_refl _))
def spSwept (K : PySem.W.Frag) : Sp := fun vs H Q _ => ∃ (F : Hp) (t : V) (n W : Nat) (T : List Row), vs = [t, .int n] ∧ Same F H ∧ RM K F t T ∧ (∀ r ∈ T, r.length = W) ∧ n ≤ W ∧ W < 1000 ∧ T.length < 1000 ∧ n ≤ 3 ∧ (∀ r ∈ T, RowB n 0 r) ∧
  Ret N0 H F (fun v F' => ∃ a vd vr vp, v = .ref a ∧ SqT K F' a [vd, vr, vp] ∧ RM K F' vd (sweep T n).1 ∧ RM K F' vr (sweep T n).2.1 ∧ IsL RN F' vp (sweep T n).2.2) Q
theorem swept_len {W : Nat} {T : List Row} (h : ∀ r ∈ T, r.length = W) {i : Nat} (hi : i ≤ W) : (sweep T i).1.length ≤ T.length ∧ (sweep T i).2.1.length ≤ T.length := by
  have := (si_sweep h i hi).tot
  omega
theorem nodup3 {a b c : Addr} : True := trivial
theorem g_swept (T : Txt K mg) : G P w K mg base CX0 5 "swept" p_swept (spSwept K) := by
  refine G.mk' T.df_swept T.g_swept (fun _ _ _ _ _ _ us hl => match us, hl with | [_, _], _ => rfl) fun fd F => ?_
  refine F.ok sc_swept (fun vs H Q E h => ?_) (fun cdv A outer s H vs Q E hr h => ?_)
  · obtain ⟨_, _, _, _, _, rfl, _⟩ := h
    rfl
  · obtain ⟨F, _, n, W, Tb, rfl, hs, ⟨ta, vt, rfl, hta, pt⟩, hW, hnW, hW2, hT2, hn3, hB, k⟩ := h
    have lt := pr_len pt
    refine ⟨_, PSs.nox (pss_cons (ps_setLc (i := 2) (own := [("row", 8)]) (g := gName 8) (tt := tYes) rfl sc_swept.nd rfl rfl (sw_true rfl rfl rfl (by decide +kernel)) (pi_list (pv 0)) (blkOk_by (own := [("row", 8)]) (N := n_swept) (sc := defScope s_swept) (by decide +kernel)) (fun _ _ _ _ _ => (pg_name (i := 8) sc_swept.nd rfl (Or.inl rfl))) (fun _ _ _ _ _ => pts_nil) (fun _ _ _ _ _ => (pe_callTy (call_list_ofK (K := K) rfl) (by rfl) T.f_list (by decide +kernel) (pa_cons (pv 8) pa_nil))))
  (pss_cons (ps_set (i := 3) sc_swept.nd rfl (.inl rfl) (pe_lst pa_nil))
  (pss_cons (ps_set (i := 4) sc_swept.nd rfl (.inl rfl) (pe_lst pa_nil))
  (pss_cons (ps_for PassesOwn.never rfl (pi_range1 (by rfl) T.f_range (pa_cons (pv 1) pa_nil)) (pg_name (i := 5) sc_swept.nd rfl (Or.inr rfl))
    (pss_cons (ps_set (i := 6) sc_swept.nd rfl (.inr rfl) (pe_lc (own := [("row", 8)]) (g := gName 8) rfl sc_swept.nd (pi_list (pv 2)) (blkOk_by (own := [("row", 8)]) (N := n_swept) (sc := defScope s_swept) (by decide +kernel)) (fun _ _ _ _ _ => (pg_name (i := 8) sc_swept.nd rfl (Or.inl rfl))) (fun _ _ _ _ _ => (pts_one (pt_cmpR op_ne (pe_g (g_sign T) (hr.mono (by omega)) (by rfl) pass0 (pa_cons (pe_ix (ix_listK (K := K) rfl) (pv 8) (pv 5) (fun _ _ => rfl)) pa_nil)) pe_int (nomark _)))) (fun _ _ _ _ _ => (pv 8))))
  (pss_one (ps_if (pt_cmpR op_gt (pe_callB call_len_seq (by rfl) T.f_len (by decide +kernel) (pa_cons (pv 6) pa_nil)) pe_int (nomark _)) (pss_cons (ps_set (i := 7) sc_swept.nd rfl (.inr rfl) (pe_lc (own := [("value", 9)]) (g := gName 9) (tt := tYes) rfl sc_swept.nd (pi_list (pe_ix ix_list (pv 6) pe_int (fun _ _ => rfl))) (blkOk_by (own := [("value", 9)]) (N := n_swept) (sc := defScope s_swept) (by decide +kernel)) (fun _ _ _ _ _ => (pg_name (i := 9) sc_swept.nd rfl (Or.inl rfl))) (fun _ _ _ _ _ => pts_nil) (fun _ _ _ _ _ => (pe_g (g_over T) (hr.mono (by omega)) (by rfl) pass0 (pa_cons (pv 9) (pa_cons (pe_ix (ix_listK (K := K) rfl) (pe_ix (ix_listK (K := K) rfl) (pv 6) pe_int (fun _ _ => rfl)) (pv 5) (fun _ _ => rfl)) pa_nil))))))
  (pss_cons (ps_expr (pe_bm PySem.F.plainAttrs_list PySem.F.slot_list_remove PySem.F.type_list_remove (mt_removeD (u65 hr)) (pv 2) (pa_cons (pe_ix ix_list (pv 6) pe_int (fun _ _ => rfl)) pa_nil)))
  (pss_cons (ps_setLc (i := 2) (own := [("row", 8)]) (g := gName 8) (tt := tYes) rfl sc_swept.nd rfl rfl (sw_true rfl rfl rfl (by decide +kernel)) (pi_list (pv 2)) (blkOk_by (own := [("row", 8)]) (N := n_swept) (sc := defScope s_swept) (by decide +kernel)) (fun _ _ _ _ _ => (pg_name (i := 8) sc_swept.nd rfl (Or.inl rfl))) (fun _ _ _ _ _ => pts_nil) (fun _ _ _ _ _ => (pe_g (g_with_row_removed T) (hr.mono (by omega)) (by rfl) pass0 (pa_cons (pv 8) (pa_cons (pv 7) (pa_cons (pv 5) pa_nil))))))
  (pss_cons (ps_setLc (i := 3) (own := [("row", 8)]) (g := gName 8) (tt := tYes) rfl sc_swept.nd rfl rfl (sw_true rfl rfl rfl (by decide +kernel)) (pi_list (pv 3)) (blkOk_by (own := [("row", 8)]) (N := n_swept) (sc := defScope s_swept) (by decide +kernel)) (fun _ _ _ _ _ => (pg_name (i := 8) sc_swept.nd rfl (Or.inl rfl))) (fun _ _ _ _ _ => pts_nil) (fun _ _ _ _ _ => (pe_g (g_with_row_removed T) (hr.mono (by omega)) (by rfl) pass0 (pa_cons (pv 8) (pa_cons (pv 7) (pa_cons (pv 5) pa_nil))))))
  (pss_cons (ps_expr (pe_bm PySem.F.plainAttrs_list PySem.F.slot_list_append PySem.F.type_list_append mt_append (pv 3) (pa_cons (pv 7) pa_nil)))
  (pss_one (ps_expr (pe_bm PySem.F.plainAttrs_list PySem.F.slot_list_append PySem.F.type_list_append mt_append (pv 4) (pa_cons (pv 5) pa_nil))))))))) pss_nil))))
  (pss_one (ps_ret (pe_tup (pa_cons (pv 3) (pa_cons (pv 2) (pa_cons (pv 4) pa_nil)))))))))), ?_⟩
    -- rest = [list(row) for row in table]
    refine ⟨_, rfl, ta, rfl, ⟨_, SqL.of (hs _ _ hta)⟩, lc_L (S := N0) (fun i acc F' => Paired (RFs K F') acc (Tb.take i)) hs (fun _ z => z.elim) (hs _ _ hta) (fun z => z) .nil (by omega) (fun _ => rfl) (fun i acc H' F' x hx z p R R' hR _ => ?_) (fun ra vr H1 F1 hra z1 e1 e2 p1 => ?_)⟩
    · obtain ⟨x', hx', b, vb, rfl, hb, pb⟩ := pr_at' pt hx
      refine yes ⟨_, rfl, b, vb, rfl, .inl (SqL.of (z.sub _ _ (z.grow _ _ hb))), fun l hl => ?_⟩
      have zl := Fz.nw (o := .lst vb) z.sub hl
      exact hR _ _ _ zl (pr_take (paired_up upFs zl.grow p) hx' ⟨l, vb, rfl, upd_same, paired_up upF (z.grow.trans zl.grow) pb⟩)
    · have p1 : Paired (RFs K F1) vr Tb := pr_all p1 (by omega)
      -- done = [], pivots = []
      refine ⟨(by decide : 0 ≤ sizeLine), fun da hda => ⟨(by decide : 0 ≤ sizeLine), fun pa hpa => ?_⟩⟩
      have zd := Fz.raw (o := .lst []) z1.sub hda
      have zp := Fz.raw (o := .lst []) zd.sub hpa
      have nrd : ra ≠ da := ne_of_none e1 hda
      have nrp : ra ≠ pa := ne_of_none (by rw [upd_ne nrd]; exact e1) hpa
      have ndp : da ≠ pa := ne_of_none upd_same hpa
      have hda0 : H da = none := z1.same.free hda
      have hpa0 : H pa = none := (z1.trans zd).same.free hpa
      refine ⟨_, rfl, _, rfl, by omega, by omega, for_range (lo := 0) (fun i σ H' => ∃ (s0 r5 r6 r7 : Option V) (ra da pa : Addr) (vr vd : List V) (F' : Hp), σ = [s0, some (.int n), some (.ref ra), some (.ref da), some (.ref pa), r5, r6, r7, none, none] ∧ Fz N0 H F H' F' ∧ (H' ra = some (.lst vr) ∧ F' ra = none ∧ H ra = none) ∧
        (H' da = some (.lst vd) ∧ F' da = none ∧ H da = none) ∧ (H' pa = some (.lst ((sweep Tb i).2.2.map fun p => V.int (p : Nat))) ∧ F' pa = none ∧ H pa = none) ∧ (ra ≠ da ∧ ra ≠ pa ∧ da ≠ pa) ∧ Paired (RFs K F') vr (sweep Tb i).2.1 ∧ Paired (RFs K F') vd (sweep Tb i).1)
        ⟨_, _, _, _, ra, da, pa, vr, [], F1, rfl, (z1.trans zd).trans zp, ⟨by rw [upd_ne nrp, upd_ne nrd]; exact e1, e2, hra⟩, ⟨by rw [upd_ne ndp, upd_same], z1.sub.free hda, hda0⟩, ⟨upd_same, zd.sub.free hpa, hpa0⟩, ⟨nrd, nrp, ndp⟩, p1, .nil⟩ (fun i σ H' hi hp => ?_) (fun σ H' hp => ?_)⟩
      · skip
        obtain ⟨s0, r5, r6, r7, ra, da, pa, vr, vd, F1, rfl, z, ⟨er, fr, hr0⟩, ⟨ed, fd, hd0⟩, ⟨ep, fp, hp0⟩, ⟨n1, n2, n3⟩, pr, pd⟩ := hp
        have hi2 : i < n := by omega
        have I := si_sweep hW i (by omega)
        obtain ⟨bD, bR⟩ := sweep_rowB hW hB hnW i (by omega)
        have lr := pr_len pr
        have ld := pr_len pd
        have lens := swept_len hW (i := i) (by omega)
        show tSeq _ _ _ _ _
        simp only [Int.zero_add]
        -- found
        refine ⟨_, rfl, ra, rfl, ⟨_, SqL.of er⟩, lc_L (S := N0) (fun j acc F' => acc = fl i (vr.take j) ((sweep Tb i).2.1.take j)) z.sub (fun _ z => z.elim) er (fun z => z) rfl (by omega) (fun _ => rfl) (fun j acc H2 F2 x hx z2 p R R' hR hR' => ?_) (fun fa ys H2 F2 hfa z2 e1 e2 p => ?_)⟩
        · obtain ⟨q, hq, b, vb, rfl, hb, pb⟩ := pr_at' pr hx
          have hql : i < q.length := by rw [I.wR q (List.mem_of_getElem? hq)]; omega
          obtain ⟨xv, hxv, rxv⟩ := pr_at pb (at0_lt hql)
          have ftake : fl i (vr.take (j + 1)) ((sweep Tb i).2.1.take (j + 1)) = acc ++ (if at0 q i ≠ 0 then [.ref b] else []) := by
            rw [List.take_add_one, hx, List.take_add_one, hq, p]
            exact fl_snoc i (.ref b) q _ _ (by rw [List.length_take, List.length_take, lr])
          refine ⟨_, rfl, _, rfl, _, _, _, _, rfl, rfl, SqL.of (z2.sub _ _ (z2.grow _ _ hb)), atI_nat hxv, F2, xv, at0 q i, rfl, z2.sub, rxv.up z2.grow, rfl, _, rfl, ?_⟩
          by_cases h0 : at0 q i = 0
          · have e : (!decide (V.int (sgn (at0 q i)) = V.int 0)) = false := by rw [(sgn_zero _).2 h0]; rfl
            rw [e]
            refine iteF (hR' H2 F2 (Fz.refl z2.sub) ?_)
            rw [ftake, if_neg (fun z => z h0), List.append_nil]
          · have e : (!decide (V.int (sgn (at0 q i)) = V.int 0)) = true := by
              rw [decide_eq_false (fun z => h0 ((sgn_zero _).1 (V.int.inj z)))]; rfl
            rw [e]
            refine iteT ⟨_, rfl, hR _ H2 F2 (Fz.refl z2.sub) ?_⟩
            rw [ftake, if_pos h0]
        · have lfl : vr.length ≤ vr.length := Nat.le_refl _
          rw [List.take_of_length_le lfl, List.take_of_length_le (by omega)] at p
          -- the list found is frozen
          have hfaH : H fa = none := z.same.free hfa
          have zf := (z.trans z2).freeze hfaH e1 e2
          have nfr : fa ≠ ra := (ne_of_none er hfa).symm
          have nfd : fa ≠ da := (ne_of_none ed hfa).symm
          have nfp : fa ≠ pa := (ne_of_none ep hfa).symm
          have er2 := z2.same _ _ er
          have ed2 := z2.same _ _ ed
          have ep2 := z2.same _ _ ep
          have fr2 : (upd F2 fa (.lst ys)) ra = none := by rw [upd_ne (Ne.symm nfr)]; exact z2.outS fr er
          have fd2 : (upd F2 fa (.lst ys)) da = none := by rw [upd_ne (Ne.symm nfd)]; exact z2.outS fd ed
          have fp2 : (upd F2 fa (.lst ys)) pa = none := by rw [upd_ne (Ne.symm nfp)]; exact z2.outS fp ep
          have pr2 := paired_up upFs (z2.grow.trans (same_upd (o := .lst ys) e2)) pr
          have pd2 := paired_up upFs (z2.grow.trans (same_upd (o := .lst ys) e2)) pd
          have efa : H2 fa = some (.lst ys) := e1
          generalize hF3 : upd F2 fa (.lst ys) = F3 at zf fr2 fd2 fp2 pr2 pd2
          refine ⟨_, rfl, _, _, rfl, .inl (SqL.of efa), _, _, rfl, rfl, _, rfl, ?_⟩
          cases hpk : pick i (sweep Tb i).2.1 with
          | none =>
            have ey : ys = [] := by rw [p]; exact fl_none i _ _ hpk
            subst ey
            refine ite2 (fun e => absurd (of_decide_eq_true e) (by simp)) (fun _ => ?_)
            have es : sweep Tb (i + 1) = sweep Tb i := by show sweep1 i (sweep Tb i) = _; unfold sweep1; rw [hpk]
            rw [es]
            exact ⟨_, _, _, _, ra, da, pa, vr, vd, F3, rfl, zf, ⟨er2, fr2, hr0⟩, ⟨ed2, fd2, hd0⟩, ⟨ep2, fp2, hp0⟩, ⟨n1, n2, n3⟩, pr2, pd2⟩
          | some pk =>
            obtain ⟨r, R'⟩ := pk
            obtain ⟨j, v, tl, q1, q2, q3, q4, q5⟩ := fl_some i vr _ r R' lr hpk
            have ey : ys = v :: tl := by rw [p]; exact q1
            have hr := (pick_perm i _ r R' hpk).1
            have hrR := mem_pick hpk
            have es : sweep Tb (i + 1) = ((sweep Tb i).1.map (el i (sc i r)) ++ [sc i r], R'.map (el i (sc i r)), (sweep Tb i).2.2 ++ [i]) := by show sweep1 i (sweep Tb i) = _; unfold sweep1; rw [hpk]
            refine ite2 (fun _ => ?_) (fun e => absurd (decide_eq_true (by rw [ey]; simp)) e)
            -- chosen
            obtain ⟨r2, hr2, b, vb, rfl, hb, pb⟩ := pr_at' pr2 q2
            rw [q3] at hr2
            cases hr2
            have lb := pr_len pb
            have lrW : r.length = W := I.wR r hrR
            have f0 : atI ys 0 = some (.ref b) := atI_nat (j := 0) (by rw [ey]; rfl)
            have nr : Nice r := (bR r hrR).nice (by omega)
            have hb3 : H2 b = some (.lst vb) := zf.sub _ _ hb
            obtain ⟨pv, hpv, rpv⟩ := pr_at pb (at0_lt (show i < r.length by omega))
            have nch : Nice (sc i r) := ((bR r hrR).sc' hi2).nice (by omega)
            refine ⟨_, rfl, _, _, _, _, rfl, rfl, SqL.of efa, f0, b, rfl, ⟨_, SqL.of hb3⟩, lc_L (S := N0) (fun j acc F' => Paired (RF K F') acc ((sc i r).take j)) zf.sub (fun _ z => z.elim) hb3 (fun z => z) .nil (by omega) (fun _ => rfl) (fun j2 acc H4 F4 x hx z4 p4 R R' hR _ => ?_) (fun ca vc H4 F4 hca z4 e41 e42 p4 => ?_)⟩
            · obtain ⟨x', hx', rx⟩ := pr_at' pb hx
              have sx : Sm x' := by rw [← at0_of hx']; exact Sm.of (nr j2) (by decide) (by decide)
              refine yes ⟨_, rfl, _, rfl, _, _, _, _, rfl, rfl, SqL.of (z4.same _ _ efa), f0, _, rfl, _, _, _, _, rfl, rfl, SqL.of (z4.same _ _ hb3), atI_nat hpv, F4, _, _, x', at0 r i, rfl, z4.sub, rx.up z4.grow, rpv.up z4.grow, ⟨sx, Sm.of (nr i) (by decide) (by decide), hr⟩, fun v1 H5 F5 z5 h5 => ?_⟩
              exact hR v1 H5 F5 z5 (pr_take (paired_up upF z5.grow p4) (sc_get hx') h5)
            · have p4 : Paired (RF K F4) vc (sc i r) := pr_all p4 (by rw [len_sc, lb]; exact Nat.le_refl _)
              have hcaH : H ca = none := zf.same.free hca
              have z5 := (zf.trans z4).freeze hcaH e41 e42
              have er4 := z4.same _ _ er2
              have ed4 := z4.same _ _ ed2
              have ep4 := z4.same _ _ ep2
              have efa4 := z4.same _ _ efa
              have ncr : ca ≠ ra := (ne_of_none er2 hca).symm
              have ncd : ca ≠ da := (ne_of_none ed2 hca).symm
              have ncp : ca ≠ pa := (ne_of_none ep2 hca).symm
              have fr4 : (upd F4 ca (.lst vc)) ra = none := by rw [upd_ne (Ne.symm ncr)]; exact z4.outS fr2 er2
              have fd4 : (upd F4 ca (.lst vc)) da = none := by rw [upd_ne (Ne.symm ncd)]; exact z4.outS fd2 ed2
              have fp4 : (upd F4 ca (.lst vc)) pa = none := by rw [upd_ne (Ne.symm ncp)]; exact z4.outS fp2 ep2
              have g4 := z4.grow.trans (same_upd (o := .lst vc) e42)
              have pr4 := paired_up upFs g4 pr2
              have pd4 := paired_up upFs g4 pd2
              have hch : RFs K (upd F4 ca (.lst vc)) (.ref ca) (sc i r) := ⟨ca, vc, rfl, upd_same, paired_up upF (same_upd e42) p4⟩
              generalize hF5 : upd F4 ca (.lst vc) = F5 at z5 fr4 fd4 fp4 pr4 pd4 hch g4
              -- rest.remove(found[0])
              have lenD : (sweep Tb i).2.1.length = vr.length := lr.symm
              refine ⟨_, rfl, .inl ⟨rfl, _, SqL.of er4⟩, _, rfl, _, _, _, _, rfl, rfl, SqL.of efa4, f0, ra, vr, .ref b, rowD r, (sweep Tb i).2.1.map rowD, j, rowD r, rfl, rfl, er4, dp_rows (paired_up upFs z5.sub pr4), dp_row (upFs _ _ _ _ (g4.trans z5.sub) ⟨b, vb, rfl, hb, pb⟩), rowDs_shaped _, rowD_shaped _, by rw [List.getElem?_map, q3]; rfl, by rw [rowD_eqv]; exact decide_eq_true rfl, fun m z' hm hz => ?_, ?_⟩
              · rw [List.getElem?_map] at hz
                cases hq : (sweep Tb i).2.1[m]? with
                | none => rw [hq] at hz; cases hz
                | some q =>
                  rw [hq] at hz
                  cases hz
                  rw [rowD_eqv]
                  refine decide_eq_false fun e => hr ?_
                  rw [← e]; exact q4 m q hm hq
              · have z6 : Fz N0 H F (upd H4 ra (.lst (vr.eraseIdx j))) F5 := Fz.set z5 (.inl hr0) fr4
                have pr6 : Paired (RFs K F5) (vr.eraseIdx j) R' := by rw [q5]; exact pr_erase pr4 j
                have hR'len : R'.length ≤ Tb.length := by rw [q5]; have := len_erase (sweep Tb i).2.1 j; omega
                have ed6 : (upd H4 ra (.lst (vr.eraseIdx j))) da = some (.lst vd) := by rw [upd_ne (Ne.symm n1)]; exact ed4
                have ep6 : (upd H4 ra (.lst (vr.eraseIdx j))) pa = some (.lst ((sweep Tb i).2.2.map fun p => V.int (p : Nat))) := by rw [upd_ne (Ne.symm n2)]; exact ep4
                have wR' : ∀ q ∈ R', q.length = W ∧ Nice q := fun q m => ⟨I.wR q (mem_pick' hpk q m), (bR q (mem_pick' hpk q m)).nice (by omega)⟩
                have wD' : ∀ q ∈ (sweep Tb i).1, q.length = W ∧ Nice q := fun q m => ⟨I.wD q m, (bD q m).nice (by omega)⟩
                have lsc : (sc i r).length = W := by rw [len_sc]; exact lrW
                refine ⟨_, rfl, ra, rfl, ⟨_, SqL.of upd_same⟩, lc_wrr (K := K) (W := W) z6.sub upd_same pr6 hch wR' lsc nch (by omega) hW2 (by omega) (fun ra2 vr2 H7 F7 hra2 z7 e71 e72 p7 => ?_)⟩
                have ed7 := z7.same _ _ ed6
                have ep7 := z7.same _ _ ep6
                have fd7 := z7.outS fd4 ed6
                have fp7 := z7.outS fp4 ep6
                have nr7d : ra2 ≠ da := (ne_of_none ed6 hra2).symm
                have nr7p : ra2 ≠ pa := (ne_of_none ep6 hra2).symm
                have hra2H : H ra2 = none := z6.same.free hra2
                have z67 := z6.trans z7
                refine ⟨_, rfl, da, rfl, ⟨_, SqL.of ed7⟩, lc_wrr (K := K) (W := W) z7.sub ed7 (paired_up upFs z7.grow pd4) (upFs _ _ _ _ z7.grow hch) wD' lsc nch (by omega) hW2 (by omega) (fun da2 vd2 H8 F8 hda2 z8 e81 e82 p8 => ?_)⟩
                have er8 := z8.same _ _ e71
                have ep8 := z8.same _ _ ep7
                have fr8 := z8.outS e72 e71
                have fp8 := z8.outS fp7 ep7
                have n8r : da2 ≠ ra2 := (ne_of_none e71 hda2).symm
                have n8p : da2 ≠ pa := (ne_of_none ep7 hda2).symm
                have hda2H : H da2 = none := z67.same.free hda2
                have z678 := z67.trans z8
                have ld8 := pr_len p8
                rw [List.length_map] at ld8
                have sz : ∀ m : Nat, m < 2000 → m < sizeLine := fun m h => Nat.lt_of_lt_of_le h (by decide)
                refine ⟨_, rfl, .inl ⟨rfl, _, SqL.of e81⟩, _, rfl, da2, vd2, _, rfl, rfl, e81, sz _ (by omega), ?_⟩
                have ep9 : (upd H8 da2 (.lst (vd2 ++ [.ref ca]))) pa = some (.lst ((sweep Tb i).2.2.map fun p => V.int (p : Nat))) := by rw [upd_ne (Ne.symm n8p)]; exact ep8
                have lp : ((sweep Tb i).2.2.map fun p => V.int (p : Nat)).length < 2000 := by rw [List.length_map]; have := I.le; omega
                refine ⟨_, rfl, .inl ⟨rfl, _, SqL.of ep9⟩, _, rfl, pa, _, _, rfl, rfl, ep9, sz _ lp, ?_⟩
                have z9 := Fz.set (o := .lst (vd2 ++ [.ref ca])) z678 (.inl hda2H) e82
                have z10 := Fz.set (o := .lst (((sweep Tb i).2.2.map fun p => V.int (p : Nat)) ++ [.int (i : Nat)])) z9 (.inl hp0) fp8
                rw [es]
                refine ⟨_, _, _, _, ra2, da2, pa, vr2, vd2 ++ [.ref ca], F8, rfl, z10, ⟨?_, fr8, hra2H⟩, ⟨?_, e82, hda2H⟩, ⟨?_, fp8, hp0⟩, ⟨Ne.symm n8r, nr7p, n8p⟩, paired_up upFs z8.grow p7, pr_snoc p8 (upFs _ _ _ _ (z7.grow.trans z8.grow) hch)⟩
                · rw [upd_ne nr7p, upd_ne (Ne.symm n8r)]; exact er8
                · rw [upd_ne n8p, upd_same]
                · rw [upd_same, List.map_append]; rfl
      · obtain ⟨s0, r5, r6, r7, ra, da, pa, vr, vd, F1, rfl, z, ⟨er, fr, hr0⟩, ⟨ed, fd, hd0⟩, ⟨ep, fp, hp0⟩, ⟨n1, n2, n3⟩, pr, pd⟩ := hp
        have en : ((n : Int)).toNat = n := Int.toNat_natCast n
        rw [en] at ep pr pd
        have y1 := z.freeze hr0 er fr
        have y2 := y1.freeze hd0 ed (by rw [upd_ne (Ne.symm n1)]; exact fd)
        have y3 := y2.freeze hp0 ep (by rw [upd_ne (Ne.symm n3), upd_ne (Ne.symm n2)]; exact fp)
        refine ⟨_, rfl, _, rfl, _, rfl, (by decide : 3 ≤ sizeLine), fun t ht => ?_⟩
        have y4 := Fz.nw (o := .tup [.ref da, .ref ra, .ref pa]) y3.sub ht
        have g1 : Same F1 (upd F1 ra (.lst vr)) := same_upd fr
        have g2 : Same (upd F1 ra (.lst vr)) (upd (upd F1 ra (.lst vr)) da (.lst vd)) := same_upd (by rw [upd_ne (Ne.symm n1)]; exact fd)
        have g3 : Same (upd (upd F1 ra (.lst vr)) da (.lst vd)) _ := same_upd (o := .lst ((sweep Tb n).2.2.map fun p => V.int (p : Nat))) (by rw [upd_ne (Ne.symm n3), upd_ne (Ne.symm n2)]; exact fp)
        have g := g1.trans (g2.trans (g3.trans y4.grow))
        refine k _ _ _ (y3.trans y4) ⟨t, .ref da, .ref ra, .ref pa, rfl, .inl (.inl upd_same), ⟨da, vd, rfl, y4.grow _ _ ?_, paired_up upFs g pd⟩, ⟨ra, vr, rfl, y4.grow _ _ ?_, paired_up upFs g pr⟩, ⟨pa, _, rfl, y4.grow _ _ upd_same, paired_map _ _⟩⟩
        · rw [upd_ne n3, upd_same]
        · rw [upd_ne n2, upd_ne n1, upd_same]
end
end K3
end
section
set_option Elab.async false
set_option linter.all false
set_option maxRecDepth 100000
set_option exponentiation.threshold 100
namespace K3
open PySem PySem.Spec PyProof.Rows L2
theorem inV_nat (c : Nat) : ∀ P : List Nat, inV (.int (c : Int)) (P.map fun p => V.int (p : Nat)) = decide (c ∈ P)
  | [] => rfl
  | p :: P => by
    have ih := inV_nat c P
    have e : inV (.int (c : Int)) ((p :: P).map fun p => V.int (p : Nat)) = (eqV (.int (p : Int)) (.int (c : Int)) || inV (.int (c : Int)) (P.map fun p => V.int (p : Nat))) := rfl
    rw [e, ih]
    have e2 : eqV (.int (p : Int)) (.int (c : Int)) = decide (p = c) := by
      show ((p : Int) == (c : Int)) = _
      by_cases h : p = c
      · subst h; simp
      · rw [decide_eq_false h]; exact beq_eq_false_iff_ne.mpr (by omega)
    rw [e2]
    by_cases h : p = c
    · subst h; simp
    · by_cases h2 : c ∈ P <;> simp [h, h2, Ne.symm h]
theorem flat_nat (P : List Nat) : (P.map fun p => V.int (p : Nat)).all flatV = true := by
  rw [List.all_eq_true]
  intro v hv
  obtain ⟨p, _, rfl⟩ := List.mem_map.mp hv
  rfl
theorem pr_rep {α β : Type} {R : α → β → Prop} {v : α} {x : β} : ∀ (n : Nat), R v x → Paired R (List.replicate n v) (List.replicate n x)
  | 0, _ => .nil
  | n + 1, h => .cons h (pr_rep n h)
theorem small10 {n : Nat} (h : n ≤ 10000) : n < sizeLine := Nat.lt_of_le_of_lt h (by decide)
theorem small10' {n : Nat} (h : n ≤ 10000) : n ≤ sizeLine := Nat.le_of_lt (small10 h)
section
variable {P : Program} {w : World} {K : PySem.W.Frag} {mg : Str → Option Value} {base : Heap}
theorem isNONE (T : Txt K mg) (F : Hp) : IsF K F (.ref (He.ga K "NONE")) 0 := ⟨_, rfl, T.t_NONE F⟩
theorem isUNIT (T : Txt K mg) (F : Hp) : IsF K F (.ref (He.ga K "UNIT")) 1 := ⟨_, rfl, T.t_UNIT F⟩
def spKernelOf (K : PySem.W.Frag) : Sp := fun vs H Q _ => ∃ (F : Hp) (a b : V) (n W : Nat) (D : List Row) (P : List Nat), vs = [a, b, .int n] ∧ Same F H ∧ RM K F a D ∧ IsL RN F b P ∧ D.length = P.length ∧ (∀ d ∈ D, d.length = W) ∧ n ≤ W ∧ n < 1000 ∧ D.length < 1000 ∧ (∀ p ∈ P, p < n) ∧
  Ret N0 H F (fun v F' => ((∀ f, f < n → f ∈ P) ∧ v = .non) ∨ ∃ f, f < n ∧ f ∉ P ∧ RFs K F' v (kv n f D P)) Q
theorem g_kernel_of (T : Txt K mg) : G P w K mg base CX0 2 "kernel_of" p_kernel_of (spKernelOf K) := by
  refine G.mk' T.df_kernel_of T.g_kernel_of (fun _ _ _ _ _ _ us hl => match us, hl with | [_, _, _], _ => rfl) fun fd F => ?_
  refine F.ok sc_kernel_of (fun vs H Q E h => ?_) (fun cdv A outer s H vs Q E hr h => ?_)
  · obtain ⟨_, _, _, _, _, _, _, rfl, _⟩ := h
    rfl
  · obtain ⟨F, _, _, n, W, D, Pv, rfl, hs, ⟨da, vd, rfl, hda, pd⟩, ⟨pa, vp, rfl, hpa, pp⟩, hlen, hW, hnW, hn, hDl, hlt, k⟩ := h
    have evp : vp = Pv.map fun p => V.int (p : Nat) := paired_eq pp
    subst evp
    have ld := pr_len pd
    refine ⟨_, PSs.nox (pss_cons (ps_setLc (i := 3) (own := [("column", 7)]) (g := gName 7) rfl sc_kernel_of.nd rfl rfl (sw_true rfl rfl rfl (by decide +kernel)) (pi_range1 (by rfl) T.f_range (pa_cons (pv 2) pa_nil)) (blkOk_by (own := [("column", 7)]) (N := n_kernel_of) (sc := defScope s_kernel_of) (by decide +kernel)) (fun _ _ _ _ _ => (pg_name (i := 7) sc_kernel_of.nd rfl (Or.inl rfl))) (fun _ _ _ _ _ => (pts_one (pt_cmpR (op_notIn_seqK (K := K) rfl) (pv 7) (pv 1) (by rfl)))) (fun _ _ _ _ _ => (pv 7)))
  (pss_cons (ps_if (pt_cmpR op_eq (pe_callB call_len_seq (by rfl) T.f_len (by decide +kernel) (pa_cons (pv 3) pa_nil)) pe_int (nomark _)) (pss_one (ps_ret pe_non)) pss_nil)
  (pss_cons (ps_setLc (i := 4) (own := [("column", 7)]) (g := gName 7) (tt := tYes) rfl sc_kernel_of.nd rfl rfl (sw_true rfl rfl rfl (by decide +kernel)) (pi_range1 (by rfl) T.f_range (pa_cons (pv 2) pa_nil)) (blkOk_by (own := [("column", 7)]) (N := n_kernel_of) (sc := defScope s_kernel_of) (by decide +kernel)) (fun _ _ _ _ _ => (pg_name (i := 7) sc_kernel_of.nd rfl (Or.inl rfl))) (fun _ _ _ _ _ => pts_nil) (fun _ _ _ _ _ => (pe_cst T.g_NONE (by rfl))))
  (pss_cons (ps_asg (pe_cst T.g_UNIT (by rfl)) (pg_sub (pv 4) (pe_ix ix_list (pv 3) pe_int (fun _ _ => rfl)) set_list))
  (pss_cons (ps_for PassesOwn.never rfl (pi_zip (by rfl) T.f_zip (pa_cons (pv 0) (pa_cons (pv 1) pa_nil))) (pg_tup rfl (pgs_cons (pg_name (i := 5) sc_kernel_of.nd rfl (Or.inl rfl)) (pgs_cons (pg_name (i := 6) sc_kernel_of.nd rfl (Or.inl rfl)) pgs_nil)))
    (pss_one (ps_asg (pe_g (g_opposite T) (hr.mono (by omega)) (by rfl) pass0 (pa_cons (pe_ix ix_list (pv 5) (pe_ix ix_list (pv 3) pe_int (fun _ _ => rfl)) (fun _ _ => rfl)) pa_nil)) (pg_sub (pv 4) (pv 6) set_list))))
  (pss_one (ps_ret (pv 4)))))))), ?_⟩
    refine ⟨_, rfl, n, rfl, by omega, by omega, lc_R (S := N0) (n := ((n : Nat) : Int).toNat) (fun i acc F' => acc = (((List.range i).filter fun c => decide (c ∉ Pv)).map fun c => V.int (c : Nat))) hs (fun _ z => z.elim) rfl (by omega) (fun _ => rfl) (fun i acc H' F' hi z p R R' hR hR' => ?_) (fun fa ys H1 F1 hfa z1 e1 e2 p1 => ?_)⟩
    · subst p
      have e0 : (0 : Int) + (i : Int) = (i : Int) := Int.zero_add _
      simp only [e0]
      refine ⟨_, rfl, _, rfl, pa, _, rfl, .inl (SqL.of (z.sub _ _ (z.grow _ _ hpa))), rfl, flat_nat Pv, _, rfl, ?_⟩
      rw [inV_nat]
      have er : ((List.range (i + 1)).filter fun c => decide (c ∉ Pv)) = ((List.range i).filter fun c => decide (c ∉ Pv)) ++ (if i ∉ Pv then [i] else []) := by
        rw [List.range_succ, List.filter_append]
        by_cases h : i ∈ Pv <;> simp [h]
      by_cases h : i ∈ Pv
      · rw [decide_eq_true h]
        refine iteF (hR' H' F' (Fz.refl z.sub) ?_)
        rw [er, if_neg (fun q => q h), List.append_nil]
      · rw [decide_eq_false h]
        refine iteT ⟨_, rfl, hR _ H' F' (Fz.refl z.sub) ?_⟩
        rw [er, if_pos h, List.map_append]; rfl
    · rw [Int.toNat_natCast] at p1
      subst p1
      have z2 := z1.freeze hfa e1 e2
      have hfa2 : (upd F1 fa (.lst (((List.range n).filter fun c => decide (c ∉ Pv)).map fun c => V.int (c : Nat)))) fa = _ := upd_same
      generalize upd F1 fa (.lst (((List.range n).filter fun c => decide (c ∉ Pv)).map fun c => V.int (c : Nat))) = F2 at z2 hfa2
      refine ⟨_, rfl, fa, _, rfl, .inl (SqL.of e1), rfl, _, rfl, ite2 (fun e => ?_) (fun e => ?_)⟩
      · have e : ((((List.range n).filter fun c => decide (c ∉ Pv)).map fun c => V.int (c : Nat)).length : Int) = 0 := V.int.inj (of_decide_eq_true e)
        rw [List.length_map] at e
        have e3 : (List.range n).filter (fun c => decide (c ∉ Pv)) = [] := List.eq_nil_of_length_eq_zero (by omega)
        refine k _ _ _ z2 (.inl ⟨fun f hf => ?_, rfl⟩)
        rw [List.filter_eq_nil_iff] at e3
        have := e3 f (List.mem_range.mpr hf)
        exact Classical.not_not.mp fun q => this (decide_eq_true q)
      · cases hfl : (List.range n).filter fun c => decide (c ∉ Pv) with
        | nil => rw [hfl] at e; exact absurd (decide_eq_true rfl) e
        | cons f tl =>
          have hf : f ∈ (List.range n).filter fun c => decide (c ∉ Pv) := by rw [hfl]; exact List.mem_cons_self
          obtain ⟨hf1, hf2⟩ := List.mem_filter.mp hf
          have hf1 : f < n := List.mem_range.mp hf1
          have hf2 : f ∉ Pv := of_decide_eq_true hf2
          rw [hfl] at hfa2 e1
          have f0 : atI ((f :: tl).map fun c => V.int (c : Nat)) 0 = some (.int (f : Nat)) := atI_nat (j := 0) rfl
          -- values = [NONE ..]
          refine ⟨_, rfl, n, rfl, by omega, by omega, lc_R (S := N0) (n := ((n : Nat) : Int).toNat) (fun i acc F' => acc = List.replicate i (.ref (He.ga K "NONE"))) z2.sub (fun _ z => z.elim) rfl (by omega) (fun _ => rfl) (fun i acc H' F' hi z p R R' hR hR' => ?_) (fun va ys H3 F3 hva z3 e31 e32 p3 => ?_)⟩
          · refine yes (hR _ H' F' (Fz.refl z.sub) ?_)
            rw [p, List.replicate_succ']
          · rw [Int.toNat_natCast] at p3
            subst p3
            have hvaH : H va = none := z2.same.free hva
            have z23 := z2.trans z3
            have efa3 := z3.same _ _ e1
            have lrep : (List.replicate n (V.ref (He.ga K "NONE"))).length = n := List.length_replicate ..
            have ixf : ixN (List.replicate n (V.ref (He.ga K "NONE"))).length (f : Int) = some f := by
              rw [lrep]; unfold ixN
              rw [if_pos (by omega), if_pos (by omega), Int.toNat_natCast]
            -- values[free[0]] = UNIT
            refine ⟨_, rfl, _, rfl, _, _, _, _, rfl, rfl, SqL.of efa3, f0, va, _, _, f, rfl, rfl, e31, ixf, ?_⟩
            have z4 := Fz.set (o := .lst ((List.replicate n (V.ref (He.ga K "NONE"))).set f (.ref (He.ga K "UNIT")))) z23 (.inl hvaH) e32
            have p4 : Paired (RF K F3) ((List.replicate n (V.ref (He.ga K "NONE"))).set f (.ref (He.ga K "UNIT"))) ((List.replicate n (0 : Rat)).set f 1) := by
              exact pr_put (pr_rep n (isNONE T F3)) (isUNIT T F3) f
            have nfv : va ≠ fa := (ne_of_none e1 hva).symm
            have hda4 : F3 da = some (.lst vd) := z23.grow _ _ hda
            have hpa4 : F3 pa = some (.lst (Pv.map fun p => V.int (p : Nat))) := z23.grow _ _ hpa
            have hfa4 : F3 fa = some (.lst ((f :: tl).map fun c => V.int (c : Nat))) := z3.grow _ _ hfa2
            have lenz : vd.length = (Pv.map fun p => V.int (p : Nat)).length := by rw [List.length_map]; omega
            refine ⟨_, rfl, _, rfl, da, pa, vd, _, rfl, SqL.of (z4.sub _ _ hda4), SqL.of (z4.sub _ _ hpa4), for_Z lenz (fun i σ H' => ∃ (r5 r6 : Option V) (vv : List V) (cur : Row) (F' : Hp), σ = [some (.ref da), some (.ref pa), some (.int n), some (.ref fa), some (.ref va), r5, r6, none] ∧
                Fz N0 H F H' F' ∧ Same F3 F' ∧ H' va = some (.lst vv) ∧ F' va = none ∧ Paired (RF K F') vv cur ∧ cur.length = n ∧ kvF f ((D.zip Pv).drop i) cur = kv n f D Pv)
              ⟨none, none, _, _, F3, rfl, z4, Same.refl _, upd_same, e32, p4, by simp, rfl⟩ (fun i σ H' hp => ?_) (fun i x y tt σ H' hx hy hp ht => ?_) (fun σ H' hp => ?_)⟩
            · obtain ⟨_, _, _, _, F', rfl, z5, g5, _⟩ := hp
              exact ⟨SqL.of (z5.sub _ _ (g5 _ _ hda4)), SqL.of (z5.sub _ _ (g5 _ _ hpa4))⟩
            · obtain ⟨r5, r6, vv, cur, F', rfl, z5, g5, ev, fv, pv, lc, hk⟩ := hp
              obtain ⟨d, hd, rd⟩ := pr_at' pd hx
              rw [List.getElem?_map] at hy
              cases hq : Pv[i]? with
              | none => rw [hq] at hy; cases hy
              | some q =>
                rw [hq] at hy
                cases hy
                have hqn : q < n := hlt q (List.mem_of_getElem? hq)
                obtain ⟨b, vb, rfl, hb, pb⟩ := rd
                have hfd : f < d.length := by rw [hW d (List.mem_of_getElem? hd)]; omega
                obtain ⟨xv, hxv, rxv⟩ := pr_at pb (at0_lt hfd)
                have zt := Fz.raw (o := .tup [.ref b, .int (q : Nat)]) z5.sub ht
                have g6 := z23.grow.trans g5
                have lv : vv.length = n := by rw [pr_len pv]; exact lc
                have ixq : ∀ l : List V, l.length = n → ixN l.length (q : Int) = some q := fun l hl => by
                  rw [hl]; unfold ixN
                  rw [if_pos (by omega), if_pos (by omega), Int.toNat_natCast]
                refine ⟨_, rfl, _, rfl, _, _, _, _, rfl, rfl, SqL.of (zt.sub _ _ (g5 _ _ hfa4)), f0, _, _, _, _, rfl, rfl, SqL.of (zt.sub _ _ (g6 _ _ hb)), atI_nat hxv, F', _, at0 d f, rfl, zt.sub, rxv.up g6, fun v1 H1' F1' z6 h1 => ?_⟩
                have ev6 := z6.same _ _ (zt.same _ _ ev)
                have fv6 := z6.outS fv (zt.same _ _ ev)
                refine ⟨_, rfl, _, rfl, va, vv, _, q, rfl, rfl, ev6, ixq vv lv, ?_⟩
                have z7 := Fz.set (o := .lst (vv.set q v1)) ((z5.trans zt).trans z6) (.inl hvaH) fv6
                refine ⟨_, _, vv.set q v1, cur.set q (-(at0 d f)), F1', rfl, z7, g5.trans z6.grow, upd_same, fv6, pr_put (paired_up upF z6.grow pv) h1 q, by rw [List.length_set]; exact lc, ?_⟩
                have hz : (D.zip Pv)[i]? = some (d, q) := by rw [List.getElem?_zip_eq_some]; exact ⟨hd, hq⟩
                have hzl : i < (D.zip Pv).length := (List.getElem?_eq_some_iff.mp hz).1
                rw [List.drop_eq_getElem_cons hzl, (List.getElem?_eq_some_iff.mp hz).2] at hk
                exact hk
            · obtain ⟨r5, r6, vv, cur, F', rfl, z5, g5, ev, fv, pv, lc, hk⟩ := hp
              rw [List.drop_of_length_le (by rw [List.length_zip]; omega)] at hk
              have hk : cur = kv n f D Pv := hk
              subst hk
              refine ⟨_, rfl, k _ _ _ (z5.freeze hvaH ev fv) (.inr ⟨f, hf1, hf2, va, vv, rfl, upd_same, paired_up upF (same_upd fv) pv⟩)⟩
end
end K3
end
section
set_option Elab.async false
set_option linter.all false
set_option maxRecDepth 100000
set_option exponentiation.threshold 100
namespace K3
open PySem PySem.Spec PyProof.Rows L2
/-! ### solving -/
def unitRow (n i : Nat) : Row := (List.range n).map fun j => if j = i then 1 else 0
def augT (M : List Row) (r : Row) : List Row := (List.range M.length).map fun i => M.getD i [] ++ (at0 r i :: unitRow M.length i)
theorem augT_at {M : List Row} {r : Row} {i : Nat} {m : Row} (h : M[i]? = some m) : (augT M r)[i]? = some (m ++ (at0 r i :: unitRow M.length i)) := by
  have hi : i < M.length := (List.getElem?_eq_some_iff.mp h).1
  unfold augT
  rw [List.getElem?_map, List.getElem?_range hi]
  show some (M.getD i [] ++ _) = _
  rw [List.getD_eq_getElem?_getD, h]; rfl
theorem augT_len (M : List Row) (r : Row) : (augT M r).length = M.length := by unfold augT; rw [List.length_map, List.length_range]
theorem unit_len (n i : Nat) : (unitRow n i).length = n := by unfold unitRow; rw [List.length_map, List.length_range]
theorem augT_w {M : List Row} {r : Row} {n : Nat} (h : ∀ m ∈ M, m.length = n) : ∀ t ∈ augT M r, t.length = n + (M.length + 1) := fun t ht => by
  obtain ⟨i, hi, e⟩ := List.mem_iff_getElem.mp ht
  rw [augT_len] at hi
  have := augT_at (r := r) (List.getElem?_eq_getElem hi)
  rw [List.getElem?_eq_getElem (by rw [augT_len]; exact hi), e] at this
  have := Option.some.inj this
  rw [this, List.length_append, h _ (List.getElem_mem hi), List.length_cons, unit_len]
theorem augT_ext {M : List Row} {r : Row} {n : Nat} (h : ∀ m ∈ M, m.length = n) : Ext n M (augT M r) := ⟨augT_len M r, h, fun i m e => ⟨_, augT_at e⟩⟩
theorem augT_B {M : List Row} {r : Row} {n : Nat} (h : ∀ m ∈ M, m.length = n) (hM : ∀ m ∈ M, RowB n 0 m) (hr : ∀ j, Bt 41 42 (at0 r j)) : ∀ t ∈ augT M r, RowB n 0 t := fun t ht => by
  obtain ⟨i, hi, e⟩ := List.mem_iff_getElem.mp ht
  rw [augT_len] at hi
  have q := augT_at (r := r) (List.getElem?_eq_getElem hi)
  rw [List.getElem?_eq_getElem (by rw [augT_len]; exact hi), e] at q
  have q := Option.some.inj q
  have hl := h _ (List.getElem_mem hi)
  intro j
  have ea : ∀ (a b : Row) (j : Nat), at0 (a ++ b) j = if j < a.length then at0 a j else at0 b (j - a.length) := fun a b j => by
    unfold at0
    rw [List.getD_eq_getElem?_getD, List.getElem?_append]
    split <;> rfl
  rw [q, ea, hl]
  refine ⟨fun hj => by rw [if_pos hj]; exact (hM _ (List.getElem_mem hi) j).1 hj, fun hj => ?_⟩
  rw [if_neg (by omega)]
  cases j - n with
  | zero => exact hr i
  | succ k =>
    show Bt 41 42 (at0 (unitRow M.length i) k)
    unfold at0 unitRow
    rw [List.getD_eq_getElem?_getD, List.getElem?_map]
    cases (List.range M.length)[k]? with
    | none => exact bt_zero.mono (by decide) (by decide)
    | some z =>
      show Bt 41 42 (if z = i then 1 else 0)
      split
      · exact bt_one.mono (by decide) (by decide)
      · exact bt_zero.mono (by decide) (by decide)
def svF (n : Nat) : List (Row × Nat) → Row → Row
  | [], v => v
  | (d, p) :: l, v => svF n l (v.set p (at0 d n))
theorem svF_full (n : Nat) : ∀ (D : List Row) (a : Row), svF n (D.zip (List.range' a.length D.length)) (a ++ List.replicate D.length 0) = a ++ D.map fun d => at0 d n
  | [], a => by simp [svF]
  | d :: D, a => by
    have e1 : (d :: D).zip (List.range' a.length (d :: D).length) = (d, a.length) :: D.zip (List.range' (a.length + 1) D.length) := by
      rw [List.length_cons, List.range'_succ]; rfl
    have e2 : (a ++ List.replicate (d :: D).length (0 : Rat)).set a.length (at0 d n) = (a ++ [at0 d n]) ++ List.replicate D.length 0 := by
      rw [List.length_cons, List.replicate_succ, List.set_append_right _ _ (Nat.le_refl _), Nat.sub_self]
      simp
    have ih := svF_full n D (a ++ [at0 d n])
    rw [List.length_append, show [at0 d n].length = 1 from rfl] at ih
    rw [e1, svF, e2]
    show svF n (D.zip (List.range' (a.length + 1) D.length)) _ = _
    rw [ih]
    simp
theorem svF_range {n : Nat} {D : List Row} (h : D.length = n) : svF n (D.zip (List.range n)) (List.replicate n 0) = D.map fun d => at0 d n := by
  have := svF_full n D []
  rw [List.length_nil, h] at this
  rw [List.range_eq_range']
  exact this
section
variable {P : Program} {w : World} {K : PySem.W.Frag} {mg : Str → Option Value} {base : Heap}
/-- rows of one width -/
structure Rect (M : List Row) (n : Nat) : Prop where
  w : ∀ m ∈ M, m.length = n
  ne : M ≠ []
  len : M.length ≤ 60
  n : n ≤ 60
def spWidth (K : PySem.W.Frag) : Sp := fun vs H Q _ => ∃ (F : Hp) (a : V) (M : List Row) (n : Nat), vs = [a] ∧ Same F H ∧ RM K F a M ∧ Rect M n ∧ Q (.int n) H
theorem g_width_of (T : Txt K mg) : G P w K mg base CX0 1 "width_of" p_width_of (spWidth K) := by
  refine G.mk' T.df_width_of T.g_width_of (fun _ _ _ _ _ _ us hl => match us, hl with | [_], _ => rfl) fun fd F => ?_
  refine F.ok sc_width_of (fun vs H Q E h => ?_) (fun cdv A outer s H vs Q E hr h => ?_)
  · obtain ⟨_, _, _, _, rfl, _⟩ := h
    rfl
  · obtain ⟨F, _, M, n, rfl, hs, ⟨a, vs, rfl, ha, pm⟩, hM, k⟩ := h
    refine ⟨_, PSs.nox (pss_cons (ps_if (pt_cmpR op_eq (pe_callB call_len_seq (by rfl) T.f_len (by decide +kernel) (pa_cons (pv 0) pa_nil)) pe_int (nomark _)) (pss_one (ps_ret pe_int)) pss_nil)
  (pss_one (ps_ret (pe_callB call_len_seq (by rfl) T.f_len (by decide +kernel) (pa_cons (pe_ix ix_list (pv 0) pe_int (fun _ _ => rfl)) pa_nil))))), ?_⟩
    have lm := pr_len pm
    have ha := hs _ _ ha
    refine ⟨_, rfl, a, vs, rfl, .inl (SqL.of ha), rfl, _, rfl, ite2 (fun e => ?_) (fun e => ?_)⟩
    · have e : (vs.length : Int) = 0 := V.int.inj (of_decide_eq_true e)
      exact absurd (List.eq_nil_of_length_eq_zero (by omega)) hM.ne
    · cases hMe : M with
      | nil => exact absurd hMe hM.ne
      | cons m M' =>
        have h0 : M[0]? = some m := by rw [hMe]; rfl
        obtain ⟨v, hv, b, vb, rfl, hb, pb⟩ := pr_at pm h0
        have hlm : vb.length = n := by rw [pr_len pb]; exact hM.w m (List.mem_of_getElem? h0)
        refine ⟨_, rfl, _, _, _, _, rfl, rfl, SqL.of ha, atI_nat (j := 0) hv, b, vb, rfl, .inl (SqL.of (hs _ _ hb)), ?_⟩
        rw [hlm]; exact k
def spCheckRows (K : PySem.W.Frag) : Sp := fun vs H Q _ => ∃ (F : Hp) (a : V) (M : List Row) (n : Nat), vs = [a, .int n] ∧ Same F H ∧ RM K F a M ∧ Rect M n ∧ Ret N0 H F (fun v _ => v = .non) Q
theorem g_check_rows (T : Txt K mg) : G P w K mg base CX0 1 "check_rows" p_check_rows (spCheckRows K) := by
  refine G.mk' T.df_check_rows T.g_check_rows (fun _ _ _ _ _ _ us hl => match us, hl with | [_, _], _ => rfl) fun fd F => ?_
  refine F.ok sc_check_rows (fun vs H Q E h => ?_) (fun cdv A outer s H vs Q E hr h => ?_)
  · obtain ⟨_, _, _, _, rfl, _⟩ := h
    rfl
  · obtain ⟨F, _, M, n, rfl, hs, ⟨a, vs, rfl, ha, pm⟩, hM, k⟩ := h
    refine ⟨_, PSs.nox (pss_cons (ps_if (pt_val (pe_callB (cr_any rfl) (by rfl) T.f_any (by decide +kernel) (pa_cons (pe_lc (own := [("row", 2)]) (g := gName 2) (tt := tYes) rfl sc_check_rows.nd (pi_list (pv 0)) (blkOk_by (own := [("row", 2)]) (N := n_check_rows) (sc := defScope s_check_rows) (by decide +kernel)) (fun _ _ _ _ _ => (pg_name (i := 2) sc_check_rows.nd rfl (Or.inl rfl))) (fun _ _ _ _ _ => pts_nil) (fun _ _ _ _ _ => (pe_cmpR op_ne (pe_callB (call_len_seqK (K := K) rfl) (by rfl) T.f_len (by decide +kernel) (pa_cons (pv 2) pa_nil)) (pv 1) (nomark _)))) pa_nil))) pss_never pss_nil)
  (pss_one (ps_if (PW.pt (pw_or (pt_cmpR op_gt (pe_callB call_len_seq (by rfl) T.f_len (by decide +kernel) (pa_cons (pv 0) pa_nil)) (pe_glob (v := .int 60) (by rfl) T.i_MOST.choose_spec ⟨_, rfl⟩) (nomark _)) (pw_or1 (pt_cmpR op_gt (pv 1) (pe_glob (v := .int 60) (by rfl) T.i_MOST.choose_spec ⟨_, rfl⟩) (nomark _))))) pss_never pss_nil))), ?_⟩
    have lm := pr_len pm
    have ha' := hs _ _ ha
    have hl60 := hM.len
    refine ⟨_, rfl, a, rfl, ⟨_, SqL.of ha'⟩, lc_L (S := N0) (fun i acc F' => acc = (List.replicate i false).map V.bl) hs (fun _ z => z.elim) ha' (fun z => z) rfl (by omega) (fun _ => rfl) (fun i acc H' F' x hx z p R R' hR hR' => ?_) (fun D ys H' F' hD z e1 e2 p => ?_)⟩
    · obtain ⟨m, hm, b, vb, rfl, hb, pb⟩ := pr_at' pm hx
      have hlm : vb.length = n := by rw [pr_len pb]; exact hM.w m (List.mem_of_getElem? hm)
      refine yes ⟨_, rfl, b, vb, rfl, .inl (SqL.of (z.sub _ _ (z.grow _ _ hb))), _, rfl, rfl, hR _ H' F' (Fz.refl z.sub) ?_⟩
      rw [p, List.replicate_succ', List.map_append, hlm]
      congr 1
      show [V.bl (!decide (V.int (n : Int) = V.int (n : Int)))] = [V.bl false]
      rw [decide_eq_true rfl]; rfl
    · subst p
      have ea : (List.replicate vs.length false).any id = false := by
        rw [List.any_eq_false]; intro b hb; rw [List.eq_of_mem_replicate hb]; simp
      refine ⟨D, _, rfl, SqL.of e1, _, rfl, ?_⟩
      rw [ea]
      refine iteF ?_
      have l1 := z.same _ _ ha'
      refine ⟨_, rfl, a, vs, rfl, .inl (SqL.of l1), _, _, rfl, rfl, _, rfl, ?_⟩
      rw [decide_eq_false (show ¬ (60 : Int) < (vs.length : Int) by omega)]
      refine iteF ⟨_, rfl, _, _, rfl, rfl, _, rfl, ?_⟩
      rw [decide_eq_false (show ¬ (60 : Int) < (n : Int) by have := hM.n; omega)]
      exact iteF (k _ _ _ z rfl)
def spCheckSystem (K : PySem.W.Frag) : Sp := fun vs H Q _ => ∃ (F : Hp) (a b : V) (M : List Row) (r : Row) (n : Nat), vs = [a, b] ∧ Same F H ∧ RM K F a M ∧ RFs K F b r ∧ Rect M n ∧ M.length = r.length ∧ Ret N0 H F (fun v _ => v = .non) Q
theorem g_check_system (T : Txt K mg) : G P w K mg base CX0 2 "check_system" p_check_system (spCheckSystem K) := by
  refine G.mk' T.df_check_system T.g_check_system (fun _ _ _ _ _ _ us hl => match us, hl with | [_, _], _ => rfl) fun fd F => ?_
  refine F.ok sc_check_system (fun vs H Q E h => ?_) (fun cdv A outer s H vs Q E hr h => ?_)
  · obtain ⟨_, _, _, _, _, _, rfl, _⟩ := h
    rfl
  · obtain ⟨F, _, _, M, r, n, rfl, hs, ⟨a, vs, rfl, ha, pm⟩, ⟨b, ws, rfl, hb, pr⟩, hM, hl, k⟩ := h
    refine ⟨_, PSs.nox (pss_cons (ps_if (pt_cmpR op_ne (pe_callB call_len_seq (by rfl) T.f_len (by decide +kernel) (pa_cons (pv 0) pa_nil)) (pe_callB call_len_seq (by rfl) T.f_len (by decide +kernel) (pa_cons (pv 1) pa_nil)) (nomark _)) pss_never pss_nil)
  (pss_one (ps_expr (pe_g (g_check_rows T) (hr.mono (by omega)) (by rfl) pass0 (pa_cons (pv 0) (pa_cons (pe_g (g_width_of T) (hr.mono (by omega)) (by rfl) pass0 (pa_cons (pv 0) pa_nil)) pa_nil)))))), ?_⟩
    have lm := pr_len pm
    have lr := pr_len pr
    have rm : RM K F (.ref a) M := ⟨a, vs, rfl, ha, pm⟩
    refine ⟨_, rfl, a, vs, rfl, .inl (SqL.of (hs _ _ ha)), _, rfl, b, ws, rfl, .inl (SqL.of (hs _ _ hb)), rfl, _, rfl, ?_⟩
    have e : (!decide (V.int (vs.length : Int) = V.int (ws.length : Int))) = false := by rw [decide_eq_true (by rw [lm, lr, hl])]; rfl
    show if (!decide (V.int (vs.length : Int) = V.int (ws.length : Int))) = true then _ else _
    rw [e]
    refine iteF ⟨_, rfl, _, rfl, F, _, M, n, rfl, hs, rm, hM, F, _, M, n, rfl, hs, rm, hM, fun v H' F' z _ => ?_⟩
    exact k _ _ _ z rfl
/-- pivots are all, or one lacks -/
def KerP (K : PySem.W.Frag) (M : List Row) (n : Nat) (v : V) (F' : Hp) : Prop := ((∀ f, f < n → f ∈ (sweep M n).2.2) ∧ v = .non) ∨ ∃ f, f < n ∧ f ∉ (sweep M n).2.2 ∧ RFs K F' v (kv n f (sweep M n).1 (sweep M n).2.2)
def spKernel (K : PySem.W.Frag) : Sp := fun vs H Q _ => ∃ (F : Hp) (a : V) (M : List Row) (n : Nat), vs = [a, .int n] ∧ Same F H ∧ RM K F a M ∧ Rect M n ∧ n ≤ 3 ∧ (∀ m ∈ M, RowB n 0 m) ∧ Ret N0 H F (KerP K M n) Q
theorem g_kernel (T : Txt K mg) : G P w K mg base CX0 6 "kernel" p_kernel (spKernel K) := by
  refine G.mk' T.df_kernel T.g_kernel (fun _ _ _ _ _ _ us hl => match us, hl with | [_, _], _ => rfl) fun fd F => ?_
  refine F.ok sc_kernel (fun vs H Q E h => ?_) (fun cdv A outer s H vs Q E hr h => ?_)
  · obtain ⟨_, _, _, _, rfl, _⟩ := h
    rfl
  · obtain ⟨F, a, M, n, rfl, hs, rm, hM, hn, hB, k⟩ := h
    have hl60 := hM.len
    refine ⟨_, PSs.nox (pss_cons (ps_expr (pe_g (g_check_rows T) (hr.mono (by omega)) (by rfl) pass0 (pa_cons (pv 0) (pa_cons (pv 1) pa_nil))))
  (pss_cons (ps_asg (pe_g (g_swept T) (hr.mono (by omega)) (by rfl) pass0 (pa_cons (pv 0) (pa_cons (pv 1) pa_nil))) (pg_tup rfl (pgs_cons (pg_name (i := 2) sc_kernel.nd rfl (Or.inl rfl)) (pgs_cons (pg_name (i := 3) sc_kernel.nd rfl (Or.inl rfl)) (pgs_cons (pg_name (i := 4) sc_kernel.nd rfl (Or.inl rfl)) pgs_nil)))))
  (pss_one (ps_ret (pe_g (g_kernel_of T) (hr.mono (by omega)) (by rfl) pass0 (pa_cons (pv 2) (pa_cons (pv 4) (pa_cons (pv 1) pa_nil)))))))), ?_⟩
    refine ⟨_, rfl, _, rfl, F, a, M, n, rfl, hs, rm, hM, fun v H1 F1 z1 _ => ?_⟩
    refine ⟨_, rfl, _, rfl, F1, a, n, n, M, rfl, z1.sub, upM _ _ _ _ z1.grow rm, hM.w, Nat.le_refl _, by omega, by omega, hn, hB, fun v H2 F2 z2 hv => ?_⟩
    obtain ⟨t, vd, vr, vp, rfl, ht, hd, hr', hp⟩ := hv
    refine ⟨t, _, rfl, sq_t z2.sub ht, rfl, vd, _, rfl, vr, _, rfl, vp, _, rfl, rfl, ?_⟩
    have I := si_sweep hM.w n (Nat.le_refl _)
    have tot := I.tot
    exact ⟨_, rfl, _, rfl, _, rfl, F2, _, _, n, n, _, _, rfl, z2.sub, hd, hp, I.len, I.wD, Nat.le_refl _, by omega, by omega, I.lt, fun v H3 F3 z3 h3 => k _ _ _ ((z1.trans z2).trans z3) h3⟩
def SolP (K : PySem.W.Frag) (M : List Row) (r : Row) (n : Nat) (v : V) (F' : Hp) : Prop := ∃ t vs, v = .ref t ∧ SqT K F' t vs ∧
  ((∃ xv, vs = [.str "one", xv] ∧ (sweep (augT M r) n).2.2.length = n ∧ RFs K F' xv ((sweep (augT M r) n).1.map fun d => at0 d n)) ∨ ((sweep (augT M r) n).2.2.length < n ∧ ∃ s tl, vs = .str s :: tl ∧ s ≠ "one"))
def spSolve (K : PySem.W.Frag) : Sp := fun vs H Q _ => ∃ (F : Hp) (a b : V) (M : List Row) (r : Row) (n : Nat), vs = [a, b] ∧ Same F H ∧ RM K F a M ∧ RFs K F b r ∧ Rect M n ∧ M.length = n ∧ r.length = n ∧ n ≤ 3 ∧ (∀ m ∈ M, RowB n 0 m) ∧ (∀ j, Bt 41 42 (at0 r j)) ∧ Ret N0 H F (SolP K M r n) Q
theorem g_solve (T : Txt K mg) : G P w K mg base CX0 6 "solve" p_solve (spSolve K) := by
  refine G.mk' T.df_solve T.g_solve (fun _ _ _ _ _ _ us hl => match us, hl with | [_, _], _ => rfl) fun fd F => ?_
  refine F.ok sc_solve (fun vs H Q E h => ?_) (fun cdv A outer s H vs Q E hr h => ?_)
  · obtain ⟨_, _, _, _, _, _, rfl, _⟩ := h
    rfl
  · obtain ⟨F, a0, b0, M, r, n, rfl, hs, rm, rr, hM, hMn, hrn, hn, hB, hBr, k⟩ := h
    refine ⟨_, PSs.nox (pss_cons (ps_expr (pe_g (g_check_system T) (hr.mono (by omega)) (by rfl) pass0 (pa_cons (pv 0) (pa_cons (pv 1) pa_nil))))
  (pss_cons (ps_set (i := 2) sc_solve.nd rfl (.inl rfl) (pe_g (g_width_of T) (hr.mono (by omega)) (by rfl) pass0 (pa_cons (pv 0) pa_nil)))
  (pss_cons (ps_set (i := 3) sc_solve.nd rfl (.inl rfl) (pe_lst pa_nil))
  (pss_cons (ps_for PassesOwn.never rfl (pi_enum (by rfl) T.f_enumerate (pa_cons (pv 0) pa_nil)) (pg_tup rfl (pgs_cons (pg_name (i := 4) sc_solve.nd rfl (Or.inr rfl)) (pgs_cons (pg_name (i := 5) sc_solve.nd rfl (Or.inl rfl)) pgs_nil)))
    (pss_cons (ps_setLc (i := 6) (own := [("other", 13)]) (g := gName 13) (tt := tYes) rfl sc_solve.nd rfl rfl (sw_true rfl rfl rfl (by decide +kernel)) (pi_range1 (by rfl) T.f_range (pa_cons (pe_callB call_len_seq (by rfl) T.f_len (by decide +kernel) (pa_cons (pv 0) pa_nil)) pa_nil)) (blkOk_by (own := [("other", 13)]) (N := n_solve) (sc := defScope s_solve) (by decide +kernel)) (fun _ _ _ _ _ => (pg_name (i := 13) sc_solve.nd rfl (Or.inl rfl))) (fun _ _ _ _ _ => pts_nil) (fun _ _ _ _ _ => (pe_ifExp (pt_cmpR op_eq (pv 13) (pv 4) (nomark _)) (pe_cst T.g_UNIT (by rfl)) (pe_cst T.g_NONE (by rfl)))))
  (pss_one (ps_expr (pe_bm PySem.F.plainAttrs_list PySem.F.slot_list_append PySem.F.type_list_append mt_append (pv 3) (pa_cons (pe_op op_cat (pe_op op_cat (pe_callTy call_list_of (by rfl) T.f_list (by decide +kernel) (pa_cons (pv 5) pa_nil)) (pe_lst (pa_cons (pe_ix ix_list (pv 1) (pv 4) (fun _ _ => rfl)) pa_nil))) (pv 6)) pa_nil))))))
  (pss_cons (ps_asg (pe_g (g_swept T) (hr.mono (by omega)) (by rfl) pass0 (pa_cons (pv 3) (pa_cons (pv 2) pa_nil))) (pg_tup rfl (pgs_cons (pg_name (i := 7) sc_solve.nd rfl (Or.inl rfl)) (pgs_cons (pg_name (i := 8) sc_solve.nd rfl (Or.inl rfl)) (pgs_cons (pg_name (i := 9) sc_solve.nd rfl (Or.inl rfl)) pgs_nil)))))
  (pss_cons (ps_for PassesOwn.never rfl (pi_list (pv 8)) (pg_name (i := 5) sc_solve.nd rfl (Or.inl rfl))
    (pss_one (ps_if (pt_cmpR op_ne (pe_g (g_sign T) (hr.mono (by omega)) (by rfl) pass0 (pa_cons (pe_ix ix_list (pv 5) (pv 2) (fun _ _ => rfl)) pa_nil)) pe_int (nomark _)) (pss_one (ps_ret (pe_tup (pa_cons pe_str (pa_cons (pe_slice sl_list (pv 5) (po_some (pe_op op_add (pv 2) pe_int)) po_none) pa_nil))))) pss_nil)))
  (pss_cons (ps_setLc (i := 10) (own := [("column", 14)]) (g := gName 14) (tt := tYes) rfl sc_solve.nd rfl rfl (sw_true rfl rfl rfl (by decide +kernel)) (pi_range1 (by rfl) T.f_range (pa_cons (pv 2) pa_nil)) (blkOk_by (own := [("column", 14)]) (N := n_solve) (sc := defScope s_solve) (by decide +kernel)) (fun _ _ _ _ _ => (pg_name (i := 14) sc_solve.nd rfl (Or.inl rfl))) (fun _ _ _ _ _ => pts_nil) (fun _ _ _ _ _ => (pe_cst T.g_NONE (by rfl))))
  (pss_cons (ps_for PassesOwn.never rfl (pi_zip (by rfl) T.f_zip (pa_cons (pv 7) (pa_cons (pv 9) pa_nil))) (pg_tup rfl (pgs_cons (pg_name (i := 5) sc_solve.nd rfl (Or.inl rfl)) (pgs_cons (pg_name (i := 11) sc_solve.nd rfl (Or.inl rfl)) pgs_nil)))
    (pss_one (ps_asg (pe_ix ix_list (pv 5) (pv 2) (fun _ _ => rfl)) (pg_sub (pv 10) (pv 11) set_list))))
  (pss_cons (ps_set (i := 12) sc_solve.nd rfl (.inl rfl) (pe_g (g_kernel_of T) (hr.mono (by omega)) (by rfl) pass0 (pa_cons (pv 7) (pa_cons (pv 9) (pa_cons (pv 2) pa_nil)))))
  (pss_cons (ps_if (pt_cmpR op_isN (pv 12) pe_non (nomark _)) (pss_one (ps_ret (pe_tup (pa_cons pe_str (pa_cons (pv 10) pa_nil))))) pss_nil)
  (pss_one (ps_ret (pe_tup (pa_cons pe_str (pa_cons (pv 10) (pa_cons (pv 12) pa_nil)))))))))))))))), ?_⟩
    refine ⟨_, rfl, _, rfl, F, _, _, M, r, n, rfl, hs, rm, rr, hM, by omega, fun v H1 F1 z1 _ => ?_⟩
    have rm1 := upM _ _ _ _ z1.grow rm
    have rr1 := upFs _ _ _ _ z1.grow rr
    refine ⟨_, rfl, F1, _, M, n, rfl, z1.sub, rm1, hM, ?_⟩
    obtain ⟨a, va, rfl, ha, pm⟩ := rm1
    obtain ⟨b, vb, rfl, hb, pb⟩ := rr1
    have la := pr_len pm
    have lb := pr_len pb
    -- table = []
    refine ⟨(by decide : 0 ≤ sizeLine), fun ta hta => ?_⟩
    have zt := Fz.raw (o := .lst []) z1.sub hta
    have htaH : H ta = none := z1.same.free hta
    refine ⟨_, rfl, a, va, rfl, SqL.of (zt.sub _ _ ha), for_E (xs := va) (fun i σ H' => ∃ (r4 r5 r6 : Option V) (vt : List V) (F' : Hp), σ = [some (.ref a), some (.ref b), some (.int n), some (.ref ta), r4, r5, r6, none, none, none, none, none, none, none, none] ∧
        Fz N0 H F H' F' ∧ Same F1 F' ∧ H' ta = some (.lst vt) ∧ F' ta = none ∧ Paired (RFs K F') vt ((augT M r).take i)) ⟨none, none, none, [], F1, rfl, z1.trans zt, Same.refl _, upd_same, z1.sub.free hta, .nil⟩ (fun i σ H' hp => ?_) (fun i x tt σ H' hx hp ht => ?_) (fun σ H' hp => ?_)⟩
    · obtain ⟨_, _, _, _, F', rfl, z5, g5, _⟩ := hp
      exact SqL.of (z5.sub _ _ (g5 _ _ ha))
    · obtain ⟨r4, r5, r6, vt, F', rfl, z5, g5, e5, f5, p5⟩ := hp
      obtain ⟨m, hm, c, vc, rfl, hc, pc⟩ := pr_at' pm hx
      have hi : i < n := by have := (List.getElem?_eq_some_iff.mp hm).1; omega
      have zx := Fz.raw (o := .tup [.int (i : Nat), .ref c]) z5.sub ht
      have hca := zx.sub _ _ (g5 _ _ ha)
      have e5' := zx.same _ _ e5
      -- factors
      refine ⟨_, rfl, a, va, rfl, .inl (SqL.of hca), va.length, rfl, by omega, by omega, lc_R (S := N0) (n := ((va.length : Nat) : Int).toNat) (fun j acc F' => Paired (RF K F') acc ((unitRow n i).take j)) zx.sub (fun _ z => z.elim) .nil (by omega) (fun _ => rfl) (fun j acc H2 F2 hj z p R R' hR hR' => ?_) (fun fa ys H2 F2 hfa z2 e1 e2 p => ?_)⟩
      · have e0 : (0 : Int) + (j : Int) = (j : Int) := Int.zero_add _
        simp only [e0]
        have hjn : j < n := by omega
        have hu : (unitRow n i)[j]? = some (if j = i then 1 else 0) := by unfold unitRow; rw [List.getElem?_map, List.getElem?_range hjn]; rfl
        refine yes ⟨_, rfl, _, rfl, rfl, _, rfl, ite2 (fun e => ?_) (fun e => ?_)⟩
        · have e : (j : Int) = (i : Int) := V.int.inj (of_decide_eq_true e)
          refine hR _ H2 F2 (Fz.refl z.sub) (pr_take p hu ?_)
          rw [if_pos (by omega)]; exact isUNIT T F2
        · have e : ¬ j = i := fun q => e (decide_eq_true (by rw [q]))
          refine hR _ H2 F2 (Fz.refl z.sub) (pr_take p hu ?_)
          rw [if_neg e]; exact isNONE T F2
      · have pu : Paired (RF K F2) ys (unitRow n i) := pr_all p (by rw [unit_len, Int.toNat_natCast]; omega)
        have lu := pr_len pu
        rw [unit_len] at lu
        have e52 := z2.same _ _ e5'
        have hc2 := z2.sub _ _ (z2.grow _ _ (g5 _ _ hc))
        have hlm : m.length = n := hM.w m (List.mem_of_getElem? hm)
        have lc := pr_len pc
        refine ⟨_, rfl, .inl ⟨rfl, _, SqL.of e52⟩, ?_⟩
        -- list(row)
        refine ⟨_, rfl, c, vc, rfl, .inl (SqL.of hc2), fun l1 hl1 => ?_⟩
        have y1 := Fz.raw (o := .lst vc) z2.sub hl1
        have hb3 := y1.sub _ _ (z2.grow _ _ (g5 _ _ hb))
        obtain ⟨sv, hsv, rsv⟩ := pr_at pb (at0_lt (show i < r.length by omega))
        -- [sides[index]]
        refine ⟨_, rfl, _, rfl, _, _, _, _, rfl, rfl, SqL.of hb3, atI_nat hsv, (by decide : 1 ≤ sizeLine), fun l2 hl2 => ?_⟩
        have y2 := Fz.raw (o := .lst [sv]) y1.sub hl2
        have n12 : l1 ≠ l2 := ne_of_none upd_same hl2
        refine ⟨l1, l2, vc, [sv], rfl, rfl, by rw [upd_ne n12, upd_same], upd_same, small10' (by simp; omega), fun l3 hl3 => ?_⟩
        have y3 := Fz.raw (o := .lst (vc ++ [sv])) y2.sub hl3
        have e13 := (y1.trans (y2.trans y3)).same _ _ e1
        refine ⟨_, rfl, l3, fa, _, ys, rfl, rfl, upd_same, e13, small10' (by simp; omega), fun l4 hl4 => ?_⟩
        have y4 := Fz.nw (o := .lst (vc ++ [sv] ++ ys)) y3.sub hl4
        have y := (y1.trans (y2.trans (y3.trans y4)))
        have e54 := y.same _ _ e52
        have f54 := y.outS (z2.outS f5 e5') e52
        have lvt : vt.length ≤ 60 := by rw [pr_len p5, List.length_take]; have := augT_len M r; omega
        refine ⟨ta, vt, _, rfl, rfl, e54, small10 (by omega), ?_⟩
        have zz := (((z5.trans zx).trans z2).trans y)
        have gg := zx.grow.trans (z2.grow.trans y.grow)
        refine ⟨_, _, _, vt ++ [.ref l4], _, rfl, Fz.set zz (.inl htaH) f54, g5.trans gg, upd_same, f54, ?_⟩
        refine pr_take (paired_up upFs gg p5) (augT_at hm) ⟨l4, _, rfl, upd_same, ?_⟩
        have q1 := paired_up upF (g5.trans gg) pc
        have q2 : RF K _ sv (at0 r i) := rsv.up (g5.trans gg)
        have q3 := paired_up upF y.grow pu
        rw [hMn]
        have q4 := pr_app (pr_snoc q1 q2) q3
        rw [List.append_assoc, List.append_assoc] at q4
        rw [List.append_assoc]
        exact q4
    · obtain ⟨r4, r5, r6, vt, F2, rfl, z5, g5, e5, f5, p5⟩ := hp
      have p5 : Paired (RFs K F2) vt (augT M r) := pr_all p5 (by rw [augT_len]; omega)
      have z6 := z5.freeze htaH e5 f5
      have rt : RM K (upd F2 ta (.lst vt)) (.ref ta) (augT M r) := ⟨ta, vt, rfl, upd_same, paired_up upFs (same_upd f5) p5⟩
      generalize upd F2 ta (.lst vt) = F3 at z6 rt
      have hW := augT_w (r := r) hM.w
      have lA := augT_len M r
      refine ⟨_, rfl, _, rfl, F3, _, n, _, augT M r, rfl, z6.sub, rt, hW, by omega, by omega, by omega, hn, augT_B hM.w hB hBr, fun v H4 F4 z7 hv => ?_⟩
      obtain ⟨t, vd, vr, vp, rfl, ht, hd, hr', hp⟩ := hv
      have I := si_sweep hW n (by omega)
      have tot := I.tot
      have Ile := I.le
      have Ilen := I.len
      refine ⟨t, _, rfl, sq_t z7.sub ht, rfl, vd, _, rfl, vr, _, rfl, vp, _, rfl, rfl, ?_⟩
      obtain ⟨xd, wd, rfl, hxd, pd⟩ := hd
      obtain ⟨xr, wr, rfl, hxr, pr⟩ := hr'
      obtain ⟨xp, wp, rfl, hxp, pp⟩ := hp
      have zz := z6.trans z7
      have lwr := pr_len pr
      -- for row in rest
      refine ⟨_, rfl, xr, rfl, ⟨_, SqL.of (z7.sub _ _ hxr)⟩, for_list (xs := wr) (fun i σ H' => ∃ r5, σ = [some (.ref a), some (.ref b), some (.int n), some (.ref ta), r4, r5, r6, some (.ref xd), some (.ref xr), some (.ref xp), none, none, none, none, none] ∧ H' = H4) ⟨_, rfl, rfl⟩ (fun i σ H' _ hp => ?_) (fun i x σ H' hx hp => ?_) (fun σ H' hp => ?_)⟩
      · obtain ⟨_, _, rfl⟩ := hp
        exact SqL.of (z7.sub _ _ hxr)
      · obtain ⟨r5, rfl, rfl⟩ := hp
        obtain ⟨q, hq, c, vc, rfl, hc, pc⟩ := pr_at' pr hx
        have hql : n < q.length := by rw [I.wR q (List.mem_of_getElem? hq)]; omega
        obtain ⟨xv, hxv, rxv⟩ := pr_at pc (at0_lt hql)
        refine ⟨_, rfl, _, rfl, _, _, _, _, rfl, rfl, SqL.of (z7.sub _ _ hc), atI_nat hxv, F4, xv, at0 q n, rfl, z7.sub, rxv, rfl, _, rfl, ite2 (fun e => ?_) (fun e => ?_)⟩
        · refine ⟨_, rfl, _, rfl, _, _, rfl, rfl, _, rfl, c, vc, rfl, SqL.of (z7.sub _ _ hc), fun l hl => ?_⟩
          have y1 := Fz.nw (o := .lst (cutV vc (some ((n : Int) + 1)) none)) z7.sub hl
          refine ⟨(by decide : 2 ≤ sizeLine), fun t2 ht2 => ?_⟩
          have y2 := Fz.nw (o := .tup [.str "none", .ref l]) y1.sub ht2
          refine k _ _ _ (zz.trans (y1.trans y2)) ⟨t2, _, rfl, .inl (.inl upd_same), .inr ⟨?_, _, _, rfl, by decide⟩⟩
          have : i < wr.length := (List.getElem?_eq_some_iff.mp hx).1
          omega
        · exact ⟨_, rfl, rfl⟩
      · obtain ⟨r5, rfl, rfl⟩ := hp
        -- values
        refine ⟨_, rfl, n, rfl, by omega, by omega, lc_R (S := N0) (n := ((n : Nat) : Int).toNat) (fun i acc F' => acc = List.replicate i (.ref (He.ga K "NONE"))) zz.sub (fun _ z => z.elim) rfl (by omega) (fun _ => rfl) (fun i acc H' F' hi z p R R' hR hR' => ?_) (fun ya ys H5 F5 hya z8 e81 e82 p8 => ?_)⟩
        · refine yes (hR _ H' F' (Fz.refl z.sub) ?_)
          rw [p, List.replicate_succ']
        · rw [Int.toNat_natCast] at p8
          subst p8
          have hyaH : H ya = none := zz.same.free hya
          have z9 := zz.trans z8
          have ewp : wp = (sweep (augT M r) n).2.2.map fun p => V.int (p : Nat) := paired_eq pp
          subst ewp
          have lwd := pr_len pd
          have lenz : wd.length = ((sweep (augT M r) n).2.2.map fun p => V.int (p : Nat)).length := by rw [List.length_map]; omega
          have hxd5 := z8.grow _ _ hxd
          have hxp5 := z8.grow _ _ hxp
          have p0 : Paired (RF K F5) (List.replicate n (.ref (He.ga K "NONE"))) (List.replicate n (0 : Rat)) := pr_rep n (isNONE T F5)
          refine ⟨_, rfl, _, rfl, xd, xp, wd, _, rfl, SqL.of (z9.sub _ _ hxd5), SqL.of (z9.sub _ _ hxp5), for_Z lenz (fun i σ H' => ∃ (r5 r11 : Option V) (vv : List V) (cur : Row) (F' : Hp), σ = [some (.ref a), some (.ref b), some (.int n), some (.ref ta), r4, r5, r6, some (.ref xd), some (.ref xr), some (.ref xp), some (.ref ya), r11, none, none, none] ∧
              Fz N0 H F H' F' ∧ Same F5 F' ∧ H' ya = some (.lst vv) ∧ F' ya = none ∧ Paired (RF K F') vv cur ∧ cur.length = n ∧ svF n (((sweep (augT M r) n).1.zip (sweep (augT M r) n).2.2).drop i) cur = svF n ((sweep (augT M r) n).1.zip (sweep (augT M r) n).2.2) (List.replicate n 0))
            ⟨_, none, _, _, F5, rfl, z9, Same.refl _, e81, e82, p0, by simp, rfl⟩ (fun i σ H' hp => ?_) (fun i x y tt σ H' hx hy hp ht => ?_) (fun σ H' hp => ?_)⟩
          · obtain ⟨_, _, _, _, F', rfl, z5, g5, _⟩ := hp
            exact ⟨SqL.of (z5.sub _ _ (g5 _ _ hxd5)), SqL.of (z5.sub _ _ (g5 _ _ hxp5))⟩
          · obtain ⟨r5, r11, vv, cur, F', rfl, z10, g10, ev, fv, pv, lc, hk⟩ := hp
            obtain ⟨d, hd, c, vc, rfl, hc, pc⟩ := pr_at' pd hx
            rw [List.getElem?_map] at hy
            cases hq : (sweep (augT M r) n).2.2[i]? with
            | none => rw [hq] at hy; cases hy
            | some q =>
              rw [hq] at hy
              cases hy
              have hqn : q < n := I.lt q (List.mem_of_getElem? hq)
              have hnd : n < d.length := by rw [I.wD d (List.mem_of_getElem? hd)]; omega
              obtain ⟨xv, hxv, rxv⟩ := pr_at pc (at0_lt hnd)
              have zt := Fz.raw (o := .tup [.ref c, .int (q : Nat)]) z10.sub ht
              have g6 := z8.grow.trans g10
              have lv : vv.length = n := by rw [pr_len pv]; exact lc
              have ixq : ixN vv.length (q : Int) = some q := by
                rw [lv]; unfold ixN
                rw [if_pos (by omega), if_pos (by omega), Int.toNat_natCast]
              have ev6 := zt.same _ _ ev
              refine ⟨_, rfl, _, rfl, _, _, _, _, rfl, rfl, SqL.of (zt.sub _ _ (g6 _ _ hc)), atI_nat hxv, _, rfl, _, rfl, ya, vv, _, q, rfl, rfl, ev6, ixq, ?_⟩
              have z11 := Fz.set (o := .lst (vv.set q xv)) (z10.trans zt) (.inl hyaH) fv
              refine ⟨_, _, vv.set q xv, cur.set q (at0 d n), F', rfl, z11, g10, upd_same, fv, pr_put pv (rxv.up g6) q, by rw [List.length_set]; exact lc, ?_⟩
              have hz : ((sweep (augT M r) n).1.zip (sweep (augT M r) n).2.2)[i]? = some (d, q) := by rw [List.getElem?_zip_eq_some]; exact ⟨hd, hq⟩
              have hzl := (List.getElem?_eq_some_iff.mp hz).1
              rw [List.drop_eq_getElem_cons hzl, (List.getElem?_eq_some_iff.mp hz).2] at hk
              exact hk
          · obtain ⟨r5, r11, vv, cur, F', rfl, z10, g10, ev, fv, pv, lc, hk⟩ := hp
            rw [List.drop_of_length_le (by rw [List.length_zip]; omega)] at hk
            have z12 := z10.freeze hyaH ev fv
            have rv : RFs K (upd F' ya (.lst vv)) (.ref ya) cur := ⟨ya, vv, rfl, upd_same, paired_up upF (same_upd fv) pv⟩
            have gx := g10.trans (same_upd (o := .lst vv) fv)
            generalize upd F' ya (.lst vv) = F6 at z12 rv gx
            have rd6 : RM K F6 (.ref xd) (sweep (augT M r) n).1 := ⟨xd, wd, rfl, gx _ _ hxd5, paired_up upFs (z8.grow.trans gx) pd⟩
            have rp6 : IsL RN F6 (.ref xp) (sweep (augT M r) n).2.2 := ⟨xp, _, rfl, gx _ _ hxp5, paired_map _ _⟩
            refine ⟨_, rfl, _, rfl, _, rfl, F6, _, _, n, _, _, _, rfl, z12.sub, rd6, rp6, I.len, I.wD, by omega, by omega, by omega, I.lt, fun v H7 F7 z13 h13 => ?_⟩
            refine ⟨_, rfl, rfl, _, rfl, ?_⟩
            rcases h13 with ⟨hall, rfl⟩ | ⟨f, hf1, hf2, rk⟩
            · refine iteT ⟨_, rfl, (by decide : 2 ≤ sizeLine), fun t2 ht2 => ?_⟩
              have y2 := Fz.nw (o := .tup [.str "one", .ref ya]) z13.sub ht2
              have full : (sweep (augT M r) n).2.2.length = n := by
                rcases Nat.lt_or_ge (sweep (augT M r) n).2.2.length n with h | h
                · obtain ⟨f, hf1, hf2⟩ := I.free h
                  exact absurd (hall f hf1) hf2
                · omega
              refine k _ _ _ (z12.trans (z13.trans y2)) ⟨t2, _, rfl, .inl (.inl upd_same), .inl ⟨_, rfl, full, ?_⟩⟩
              have ec : cur = (sweep (augT M r) n).1.map fun d => at0 d n := by
                rw [← svF_range (by omega), ← I.full full]
                exact hk
              rw [← ec]
              exact upFs _ _ _ _ (z13.grow.trans y2.grow) rv
            · obtain ⟨ka, vk, rfl, _⟩ := rk
              refine iteF ⟨_, rfl, _, rfl, (by decide : 3 ≤ sizeLine), fun t2 ht2 => ?_⟩
              have y2 := Fz.nw (o := .tup [.str "several", .ref ya, .ref ka]) z13.sub ht2
              refine k _ _ _ (z12.trans (z13.trans y2)) ⟨t2, _, rfl, .inl (.inl upd_same), .inr ⟨?_, _, _, rfl, by decide⟩⟩
              rcases Nat.lt_or_ge (sweep (augT M r) n).2.2.length n with h | h
              · exact h
              · have := I.full (by omega)
                rw [this] at hf2
                exact absurd (List.mem_range.mpr hf1) hf2
end
end K3
end
section
set_option Elab.async false
set_option linter.all false
set_option maxRecDepth 100000
set_option exponentiation.threshold 100
namespace K3
open PySem PySem.Spec PyProof.Rows L2
/-! ### forms, as the program keeps them -/
theorem sub_len {α : Type} [DecidableEq α] : ∀ (ns ring : List α), ns.Nodup → (∀ n ∈ ns, n ∈ ring) → ns.length ≤ ring.length
  | [], _, _, _ => Nat.zero_le _
  | n :: ns, ring, nd, h => by
    obtain ⟨h1, h2⟩ := List.nodup_cons.mp nd
    have hm := h n List.mem_cons_self
    have ih := sub_len ns (ring.erase n) h2 fun m hm' => (List.mem_erase_of_ne fun (z : m = n) => h1 (by rw [← z]; exact hm')).mpr (h m (List.mem_cons_of_mem _ hm'))
    have e := List.length_erase_of_mem hm
    have := List.length_pos_of_mem hm
    rw [List.length_cons]; omega
theorem paired_val {R : Key → V → V → Prop} : ∀ {acc kvs : KVs}, Paired (fun p q => p.1 = q.1 ∧ R q.1 p.2 q.2) acc kvs → ∀ k, (valV kvs k = none ∧ valV acc k = none) ∨ ∃ v u, valV kvs k = some v ∧ valV acc k = some u ∧ R k u v
  | _, _, .nil, k => .inl ⟨rfl, rfl⟩
  | _, _, .cons (a := p) (b := q) ⟨h1, h2⟩ t, k => by
    by_cases e : q.1 = k
    · refine .inr ⟨q.2, p.2, valV_pos e, valV_pos (h1.trans e), ?_⟩
      rw [← e]; exact h2
    · rw [valV_neg e, valV_neg (fun z => e (h1.symm.trans z))]
      exact paired_val t k
theorem DOk.of_keys {acc kvs : KVs} {N : Nat} (h : DOk kvs N) (e : acc.map (·.1) = kvs.map (·.1)) : DOk acc N := by
  refine ⟨by rw [e]; exact h.nd, fun p hp => ?_, ?_⟩
  · have : p.1 ∈ acc.map (·.1) := List.mem_map.mpr ⟨p, hp, rfl⟩
    rw [e] at this
    obtain ⟨p', hp', e'⟩ := List.mem_map.mp this
    obtain ⟨m, em⟩ := h.st p' hp'
    exact ⟨m, by rw [← e']; exact em⟩
  · have := congrArg List.length e
    rw [List.length_map, List.length_map] at this
    have := h.le
    omega
section
variable {K : PySem.W.Frag} {F : Hp} {ring : List Str} {f : Str → Rat} {kvs : KVs} {N : Nat}
theorem co_key (h : DcK (pCo K ring f) F kvs N) {k : Key} {v : V} (e : valV kvs k = some v) : ∃ n, k = Sum.inr n ∧ n ∈ ring ∧ f n ≠ 0 ∧ IsF K F v (f n) := by
  obtain ⟨n, en⟩ := h.1.st _ (valV_mem e)
  have en : k = Sum.inr n := en
  subst en
  have q := h.2 n
  rw [e] at q
  exact ⟨n, rfl, q.1, q.2.1, q.2.2⟩
theorem co_none (h : DcK (pCo K ring f) F kvs N) {n : Str} (e : valV kvs (Sum.inr n : Key) = none) : f n = 0 := by
  have q := h.2 n
  rw [e] at q
  exact q
theorem co_len (h : DcK (pCo K ring f) F kvs N) : kvs.length ≤ ring.length := by
  have key : ∀ p ∈ kvs, ∃ n, p.1 = Sum.inr n ∧ n ∈ ring := fun p hp => by
    obtain ⟨i, hi, e⟩ := List.getElem_of_mem hp
    obtain ⟨n, h1, h2, _⟩ := co_key h (valV_at h.1.nd (show kvs[i]? = some (p.1, p.2) by rw [List.getElem?_eq_getElem hi, e]))
    exact ⟨n, h1, h2⟩
  let g : Key × V → Str := fun p => match p.1 with | .inr n => n | .inl _ => ⟨#[]⟩
  have := sub_len (kvs.map g) ring ?_ ?_
  · rw [List.length_map] at this; exact this
  · have nd := h.1.nd
    clear h
    induction kvs with
    | nil => simp
    | cons p r ih =>
      rw [List.map_cons] at nd ⊢
      obtain ⟨h1, h2⟩ := List.nodup_cons.mp nd
      refine List.nodup_cons.mpr ⟨fun hm => ?_, ih (fun q hq => key q (List.mem_cons_of_mem _ hq)) h2⟩
      obtain ⟨q, hq, e⟩ := List.mem_map.mp hm
      obtain ⟨n, en, _⟩ := key p List.mem_cons_self
      obtain ⟨m, em, _⟩ := key q (List.mem_cons_of_mem _ hq)
      have e : (match q.1 with | .inr n => n | .inl _ => (⟨#[]⟩ : Str)) = (match p.1 with | .inr n => n | .inl _ => (⟨#[]⟩ : Str)) := e
      rw [en, em] at e
      have e : m = n := e
      exact h1 (List.mem_map.mpr ⟨q, hq, by rw [em, en, e]⟩)
  · intro n hn
    obtain ⟨p, hp, e⟩ := List.mem_map.mp hn
    obtain ⟨m, em, hm⟩ := key p hp
    have e : (match p.1 with | .inr n => n | .inl _ => (⟨#[]⟩ : Str)) = n := e
    rw [em] at e
    have e : m = n := e
    exact e ▸ hm
theorem co_empty {c : Rat} (h : DcK (pCo K ring f) F kvs N) : kvs.length = 0 ↔ noF ring (f, c) = true := by
  rw [noF_iff]
  constructor
  · intro e n _
    refine co_none h ?_
    rw [List.length_eq_zero_iff.mp e]; rfl
  · intro e
    cases hk : kvs with
    | nil => rfl
    | cons p r =>
      exfalso
      obtain ⟨n, h1, h2, h3, _⟩ := co_key h (valV_at (i := 0) (k := p.1) (v := p.2) h.1.nd (by rw [hk]; rfl))
      exact h3 (e n h2)
theorem co_norm (h : DcK (pCo K ring f) F kvs N) {M : Nat} (hM : ring.length ≤ M) : DcK (pCo K ring f) F kvs M := ⟨⟨h.1.nd, h.1.st, Nat.le_trans (co_len h) hM⟩, h.2⟩
end
def FmF (K : PySem.W.Frag) (ring : List Str) (F : Hp) (v : V) (g : Fm Str) : Prop := ∃ a d c, v = .ref a ∧ SqT K F a [d, c] ∧ CoF K ring g.1 F d ∧ IsF K F c g.2
theorem FmF.up {K : PySem.W.Frag} {ring : List Str} {F F' : Hp} {v : V} {g : Fm Str} (h : FmF K ring F v g) (e : Same F F') : FmF K ring F' v g := let ⟨a, d, c, e1, e2, e3, e4⟩ := h; ⟨a, d, c, e1, sq_t e e2, e3.up upCo e, e4.up e⟩
def OfF (K : PySem.W.Frag) (ring : List Str) (F : Hp) (v : V) : Option (Fm Str) → Prop
  | some g => FmF K ring F v g
  | none => v = .non
structure FSm (g : Fm Str) : Prop where
  f : ∀ n, Sm (g.1 n)
  c : Sm g.2
theorem neg_num (x : Rat) : (x * (-1)).num = -x.num ∧ (x * (-1)).den = x.den := by
  have : x * (-1) = -x := by grind
  rw [this]
  exact ⟨Rat.neg_num x, Rat.neg_den x⟩
theorem Sm.neg {x : Rat} (h : Sm x) : Sm (x * (-1)) := by
  obtain ⟨h1, h2⟩ := h
  refine ⟨?_, ?_⟩
  · rw [(neg_num x).1, Int.natAbs_neg]; exact h1
  · rw [(neg_num x).2]; exact h2
theorem sm0 : Sm 0 := ⟨by decide +kernel, by decide +kernel⟩
theorem sm1 : Sm 1 := ⟨by decide +kernel, by decide +kernel⟩
theorem co_nil {K : PySem.W.Frag} {ring : List Str} {F : Hp} {p : Addr} {od : Obj} : CoF K ring (fun _ => 0) (upd F p (.frz od (.dK []))) (.ref p) := ⟨p, od, [], rfl, upd_same, DOk.nil, fun n => rfl⟩
theorem fz_dict {S : Addr → Prop} {H F : Hp} {p : Addr} {o u : HO} (h : Same F H) (hp : H p = none) : Fz S H F (upd (upd H p o) p u) (upd F p u) := ((Fz.raw h hp).frz hp (h.free hp)).to
theorem dget_frz {H : Hp} {a : Addr} {od : Obj} {kvs : KVs} {k : Key} {v : V} (h : H a = some (.frz od (.dK kvs))) (e : valV kvs k = some v) : DGet H a (kV k) (some v) := .inl ⟨kvs, k, .inr ⟨od, h⟩, rfl, e.symm⟩
theorem dget_any {H : Hp} {a : Addr} {kvs : KVs} {k : Key} (h : Rd H a (.dK kvs)) : DGet H a (kV k) (valV kvs k) := .inl ⟨kvs, k, h, rfl, rfl⟩
section
variable {P : Program} {w : World} {K : PySem.W.Frag} {mg : Str → Option Value} {base : Heap}
def spScaled (K : PySem.W.Frag) : Sp := fun vs H Q _ => ∃ (F : Hp) (a b : V) (ring : List Str) (g : Fm Str) (k : Rat), vs = [a, b] ∧ Same F H ∧ FmF K ring F a g ∧ IsF K F b k ∧ FSm g ∧ Sm k ∧ ring.length ≤ 1000 ∧ Ret N0 H F (fun v F' => FmF K ring F' v (scF g k)) Q
theorem g_scaled (T : Txt K mg) : G P w K mg base CX0 5 "scaled" p_scaled (spScaled K) := by
  refine G.mk' T.df_scaled T.g_scaled (fun _ _ _ _ _ _ us hl => match us, hl with | [_, _], _ => rfl) fun fd F => ?_
  refine F.ok sc_scaled (fun vs H Q E h => ?_) (fun cdv A outer s H vs Q E hr h => ?_)
  · obtain ⟨_, _, _, _, _, _, rfl, _⟩ := h
    rfl
  · obtain ⟨F, _, b, ring, g, k, rfl, hs, ⟨t, d, c, rfl, ht, ⟨da, od, kvs, rfl, hda, hK⟩, hc⟩, hb, hg, hkS, hr', kk⟩ := h
    refine ⟨_, PSs.nox (pss_cons (ps_asg (pv 0) (pg_tup rfl (pgs_cons (pg_name (i := 2) sc_scaled.nd rfl (Or.inr rfl)) (pgs_cons (pg_name (i := 3) sc_scaled.nd rfl (Or.inl rfl)) pgs_nil))))
  (pss_cons (ps_if (pt_cmpR op_eq (pe_g (g_sign T) (hr.mono (by omega)) (by rfl) pass0 (pa_cons (pv 1) pa_nil)) pe_int (nomark _)) (pss_one (ps_ret (pe_tup (pa_cons (pe_frz pe_dnewK) (pa_cons (pe_cst T.g_NONE (by rfl)) pa_nil))))) pss_nil)
  (pss_one (ps_ret (pe_tup (pa_cons (pe_frz (pe_dc (own := [("name", 4)]) (g := gName 4) (tt := tYes) rfl sc_scaled.nd (pi_keys (pv 2)) (blkOk_by (own := [("name", 4)]) (N := n_scaled) (sc := defScope s_scaled) (by decide +kernel)) (fun _ _ _ _ _ => (pg_name (i := 4) sc_scaled.nd rfl (Or.inl rfl))) (fun _ _ _ _ _ => pts_nil) (fun _ _ _ _ _ => (pv 4)) (fun _ _ _ _ _ => (pe_g (g_times T) (hr.mono (by omega)) (by rfl) pass0 (pa_cons (pe_dget (hu_of hr) (pv 2) (pv 4) (fun _ _ => rfl)) (pa_cons (pv 1) pa_nil)))))) (pa_cons (pe_g (g_times T) (hr.mono (by omega)) (by rfl) pass0 (pa_cons (pv 3) (pa_cons (pv 1) pa_nil))) pa_nil))))))), ?_⟩
    refine ⟨_, rfl, t, _, rfl, sq_t hs ht, rfl, _, _, rfl, _, _, rfl, rfl, ?_⟩
    refine ⟨_, rfl, F, _, k, rfl, hs, hb, rfl, _, rfl, ite2 (fun e => ?_) (fun e => ?_)⟩
    · have ek : k = 0 := (sgn_zero k).1 (V.int.inj (of_decide_eq_true e))
      subst ek
      refine fun p hp => ⟨p, _, upd_same, True.intro, fun od => ⟨two_ok, fun q hq => ?_⟩⟩
      have z1 := fz_dict (S := N0) (o := .dK []) (u := .frz od (.dK [])) hs hp
      have z2 := Fz.nw (o := .tup [.ref p, .ref (He.ga K "NONE")]) z1.sub hq
      refine kk _ _ _ (z1.trans z2) ⟨q, _, _, rfl, .inl (.inl upd_same), ?_, ?_⟩
      · have e1 : (scF g 0).1 = fun _ => 0 := funext fun n => Rat.mul_zero _
        rw [e1]
        exact co_nil.up upCo z2.grow
      · have e2 : (scF g 0).2 = 0 := Rat.mul_zero _
        rw [e2]
        exact isNONE T _
    · have ek : k ≠ 0 := fun z => e (decide_eq_true (by rw [(sgn_zero k).2 z]))
      have hdH := hs _ _ hda
      have hkl : kvs.length < 10000 := by have := hK.1.le; omega
      refine ⟨_, rfl, da, od, rfl, .inl ⟨kvs, hdH, dc_K (fun i acc F' => Paired (fun p q => p.1 = q.1 ∧ ∀ n, q.1 = Sum.inr n → IsF K F' p.2 (g.1 n * k)) acc (kvs.take i)) hs hda hK.1.nd hkl .nil (fun _ => rfl) (fun x H' R q => ⟨_, rfl, q⟩) (fun i acc H' F' ky v hkv ha z p R hR => ?_) (fun D acc H1 F1 hD z1 e1 e2 ek p => ?_)⟩⟩
      · have hv := valV_at hK.1.nd hkv
        obtain ⟨n, rfl, hn, hne, hv2⟩ := co_key hK hv
        refine ⟨_, rfl, _, rfl, da, v, rfl, dget_frz (z.same _ _ hdH) hv, _, rfl, F', _, _, _, _, rfl, z.sub, hv2.up z.grow, hb.up z.grow, ⟨hg.f n, hkS⟩, fun y H4 F2 z4 hy => hR y H4 F2 z4 ?_⟩
        refine pr_take (L2.Paired.mapP p fun _ _ h => ⟨h.1, fun m hm => (h.2 m hm).up z4.grow⟩) hkv ⟨rfl, fun m hm => ?_⟩
        cases hm
        exact hy
      · have p := pr_all p (Nat.le_refl _)
        refine ⟨D, _, e1, True.intro, fun od' => ?_⟩
        have z2 := z1.frz (o := .frz od' (.dK acc)) hD e2
        refine ⟨_, rfl, _, rfl, _, _, _, _, _, rfl, z2.sub, hc.up z2.grow, hb.up z2.grow, ⟨hg.c, hkS⟩, fun y H4 F4 z4 hy => ⟨two_ok, fun q hq => ?_⟩⟩
        have z5 := Fz.nw (o := .tup [.ref D, y]) z4.sub hq
        refine kk _ _ _ (z2.trans (z4.trans z5)) ⟨q, _, _, rfl, .inl (.inl upd_same), ?_, hy.up z5.grow⟩
        refine Dc.up upCo (F := upd F1 D (.frz od' (.dK acc))) ⟨D, od', acc, rfl, upd_same, hK.1.of_keys ek, fun n => ?_⟩ (z4.grow.trans z5.grow)
        rcases paired_val (R := fun q u _ => ∀ n, q = Sum.inr n → IsF K F1 u (g.1 n * k)) p (Sum.inr n) with ⟨h1, h2⟩ | ⟨v, u, h1, h2, h3⟩
        · rw [h2]
          show g.1 n * k = 0
          rw [co_none hK h1, Rat.zero_mul]
        · rw [h2]
          obtain ⟨m, hm, hr1, hr2, _⟩ := co_key hK h1
          cases hm
          refine ⟨hr1, fun z => ?_, (h3 n rfl).up (same_upd e2)⟩
          rcases Rat.mul_eq_zero.mp z with z | z
          · exact hr2 z
          · exact absurd z (by assumption)
end
end K3
end
section
set_option Elab.async false
set_option linter.all false
set_option maxRecDepth 100000
set_option exponentiation.threshold 100
namespace K3
open PySem PySem.Spec PyProof.Rows L2
/-! ### added, multiplied, chosen, combined -/
def addG (g h : Fm Str) : Fm Str := (fun x => g.1 x + h.1 x, g.2 + h.2)
open Classical in
/-- the factors behind so many names of the second -/
noncomputable def adF (f g : Str → Rat) (ks : List Key) : Str → Rat := fun n => f n + if (Sum.inr n : Key) ∈ ks then g n else 0
theorem paired_same : ∀ {a b : KVs}, Paired (fun p q => p.1 = q.1 ∧ p.2 = q.2) a b → a = b
  | _, _, .nil => rfl
  | _, _, .cons (a := p) (b := q) h t => by
    rw [paired_same t]
    have : p = q := Prod.ext h.1 h.2
    rw [this]
section
variable {P : Program} {w : World} {K : PySem.W.Frag} {mg : Str → Option Value} {base : Heap}
def spAdded (K : PySem.W.Frag) : Sp := fun vs H Q _ => ∃ (F : Hp) (a b : V) (ring : List Str) (g h : Fm Str), vs = [a, b] ∧ Same F H ∧ FmF K ring F a g ∧ FmF K ring F b h ∧ FSm g ∧ FSm h ∧ ring.length ≤ 1000 ∧ Ret N0 H F (fun v F' => FmF K ring F' v (addG g h)) Q
theorem co_put {ring : List Str} {f f' : Str → Rat} {F : Hp} {kvs : KVs} {n : Str} {u : V} (h : DcK (pCo K ring f) F kvs ring.length) (hn : n ∈ ring) (hu : IsF K F u (f' n)) (h0 : f' n ≠ 0) (he : ∀ m, m ≠ n → f' m = f m) :
    DcK (pCo K ring f') F (putK kvs (Sum.inr n) u) ring.length := by
  refine co_norm (N := ring.length + 1) ⟨h.1.put (by split <;> omega), fun m => ?_⟩ (Nat.le_refl _)
  rw [valV_putS]
  by_cases e : m = n
  · subst e
    rw [if_pos rfl]
    exact ⟨hn, h0, hu⟩
  · rw [if_neg e]
    have q := h.2 m
    cases z : valV kvs (Sum.inr m : Key) with
    | none => rw [z] at q; show f' m = 0; rw [he m e]; exact q
    | some v => rw [z] at q; show m ∈ ring ∧ f' m ≠ 0 ∧ IsF K F v (f' m); rw [he m e]; exact q
theorem co_drop {ring : List Str} {f f' : Str → Rat} {F : Hp} {kvs : KVs} {n : Str} (h : DcK (pCo K ring f) F kvs ring.length) (h0 : f' n = 0) (he : ∀ m, m ≠ n → f' m = f m) :
    DcK (pCo K ring f') F (dropK kvs (Sum.inr n)) ring.length := by
  refine ⟨h.1.drop, fun m => ?_⟩
  rw [valV_dropS]
  by_cases e : m = n
  · subst e
    rw [if_pos rfl]
    exact h0
  · rw [if_neg e]
    have q := h.2 m
    cases z : valV kvs (Sum.inr m : Key) with
    | none => rw [z] at q; show f' m = 0; rw [he m e]; exact q
    | some v => rw [z] at q; show m ∈ ring ∧ f' m ≠ 0 ∧ IsF K F v (f' m); rw [he m e]; exact q
theorem adF_nil (f g : Str → Rat) : adF f g [] = f := funext fun n => by simp [adF]; grind
theorem adF_ne {f g : Str → Rat} {kvs : KVs} {i : Nat} {n : Str} {v : V} (e : kvs[i]? = some (Sum.inr n, v)) (m : Str) (hm : m ≠ n) : adF f g ((kvs.take (i + 1)).map (·.1)) m = adF f g ((kvs.take i).map (·.1)) m := by
  have this : ((Sum.inr m : Key) ∈ (kvs.take (i + 1)).map (·.1)) ↔ (Sum.inr m : Key) ∈ (kvs.take i).map (·.1) := by
    rw [List.take_succ, e, List.map_append, List.mem_append]
    exact ⟨fun z => z.resolve_right fun q => hm (Sum.inr.inj (List.mem_singleton.mp q)), .inl⟩
  unfold adF
  by_cases q : (Sum.inr m : Key) ∈ (kvs.take i).map (·.1)
  · rw [if_pos q, if_pos (this.mpr q)]
  · rw [if_neg q, if_neg (fun z => q (this.mp z))]
theorem adF_at {f g : Str → Rat} {kvs : KVs} {i : Nat} {n : Str} {v : V} (nd : (kvs.map (·.1)).Nodup) (e : kvs[i]? = some (Sum.inr n, v)) : adF f g ((kvs.take (i + 1)).map (·.1)) n = f n + g n ∧ adF f g ((kvs.take i).map (·.1)) n = f n := by
  unfold adF
  have hi : i < kvs.length := (List.getElem?_eq_some_iff.mp e).1
  constructor
  · rw [if_pos]
    rw [List.take_succ, e, List.map_append]
    exact List.mem_append_right _ List.mem_cons_self
  · rw [if_neg]
    · grind
    · intro m1
      have nd2 : ((kvs.take i).map (·.1) ++ (kvs.drop i).map (·.1)).Nodup := by rw [← List.map_append, List.take_append_drop]; exact nd
      have m2 : (Sum.inr n : Key) ∈ (kvs.drop i).map (·.1) := by
        rw [List.drop_eq_getElem_cons hi, List.map_cons]
        have : kvs[i] = (Sum.inr n, v) := Option.some.inj ((List.getElem?_eq_getElem hi).symm.trans e)
        rw [this]; exact List.mem_cons_self
      exact absurd rfl ((List.nodup_append.mp nd2).2.2 _ m1 _ m2)
theorem adF_all {f g : Str → Rat} {F : Hp} {kvs : KVs} {N : Nat} {ring : List Str} (h : DcK (pCo K ring g) F kvs N) : adF f g (kvs.map (·.1)) = fun n => f n + g n := by
  funext n
  unfold adF
  by_cases e : (Sum.inr n : Key) ∈ kvs.map (·.1)
  · rw [if_pos e]
  · rw [if_neg e]
    have : valV kvs (Sum.inr n : Key) = none := by
      cases z : valV kvs (Sum.inr n : Key) with
      | none => rfl
      | some v => exact absurd (List.mem_map.mpr ⟨_, valV_mem z, rfl⟩) e
    rw [co_none h this]
theorem g_added (T : Txt K mg) : G P w K mg base CX0 5 "added" p_added (spAdded K) := by
  refine G.mk' T.df_added T.g_added (fun _ _ _ _ _ _ us hl => match us, hl with | [_, _], _ => rfl) fun fd F => ?_
  refine F.ok sc_added (fun vs H Q E h => ?_) (fun cdv A outer s H vs Q E hr h => ?_)
  · obtain ⟨_, _, _, _, _, _, rfl, _⟩ := h
    rfl
  · obtain ⟨F, _, _, ring, g, h, rfl, hs, ⟨t1, _, c1, rfl, ht1, ⟨d1, o1, k1, rfl, hd1, hK1⟩, hc1⟩, ⟨t2, _, c2, rfl, ht2, ⟨d2, o2, k2, rfl, hd2, hK2⟩, hc2⟩, hg, hh, hr', kk⟩ := h
    have l1 := co_len hK1
    have l2 := co_len hK2
    refine ⟨_, PSs.nox (pss_cons (ps_setDc (i := 2) (own := [("name", 3)]) (g := gName 3) (tt := tYes) rfl sc_added.nd rfl rfl (sw_trueD rfl rfl rfl (by decide +kernel)) (pi_keys (pe_ix ix_tup (pv 0) pe_int (fun _ _ => rfl))) (blkOk_by (own := [("name", 3)]) (N := n_added) (sc := defScope s_added) (by decide +kernel)) (fun _ _ _ _ _ => (pg_name (i := 3) sc_added.nd rfl (Or.inl rfl))) (fun _ _ _ _ _ => pts_nil) (fun _ _ _ _ _ => (pv 3)) (fun _ _ _ _ _ => (pe_dget (hu_of hr) (pe_ix (ix_tupK (K := K) rfl) (pv 0) pe_int (fun _ _ => rfl)) (pv 3) (fun _ _ => rfl))))
  (pss_cons (ps_for PassesOwn.never rfl (pi_keys (pe_ix ix_tup (pv 1) pe_int (fun _ _ => rfl))) (pg_name (i := 3) sc_added.nd rfl (Or.inl rfl))
    (pss_cons (ps_set (i := 4) sc_added.nd rfl (.inl rfl) (pe_g (g_plus T) (hr.mono (by omega)) (by rfl) pass0 (pa_cons (pe_dget2 (hu_of hr) (pv 2) (pv 3) (pe_cst T.g_NONE (by rfl)) ⟨rfl, rfl, rfl, rfl⟩) (pa_cons (pe_dget (hu_of hr) (pe_ix ix_tup (pv 1) pe_int (fun _ _ => rfl)) (pv 3) (fun _ _ => rfl)) pa_nil))))
  (pss_one (ps_if (pt_cmpR op_eq (pe_g (g_sign T) (hr.mono (by omega)) (by rfl) pass0 (pa_cons (pv 4) pa_nil)) pe_int (nomark _)) (pss_one (ps_ddel (pv 2) (pv 3))) (pss_one (ps_dput (hu_of hr) (pv 2) (pv 3) (pv 4) rfl))))))
  (pss_one (ps_ret (pe_tup (pa_cons (pe_frz (pv 2)) (pa_cons (pe_g (g_plus T) (hr.mono (by omega)) (by rfl) pass0 (pa_cons (pe_ix ix_tup (pv 0) pe_int (fun _ _ => rfl)) (pa_cons (pe_ix ix_tup (pv 1) pe_int (fun _ _ => rfl)) pa_nil))) pa_nil))))))), ?_⟩
    -- factors = a copy
    refine ⟨_, rfl, t1, _, _, _, rfl, rfl, sq_t hs ht1, rfl, d1, o1, rfl, .inl ⟨k1, hs _ _ hd1, dc_K (fun i acc F' => Paired (fun p q => p.1 = q.1 ∧ p.2 = q.2) acc (k1.take i)) hs hd1 hK1.1.nd (by omega) .nil (fun _ => rfl) (fun x H' R q => ⟨_, rfl, q⟩) (fun i acc H' F' ky v hkv ha z p R hR => ?_) (fun D acc H1 F1 hD z1 e1 e2 ek p => ?_)⟩⟩
    · have hv := valV_at hK1.1.nd hkv
      refine ⟨_, rfl, t1, _, _, _, rfl, rfl, sq_t (hs.trans z.same) ht1, rfl, _, rfl, d1, v, rfl, dget_frz (z.same _ _ (hs _ _ hd1)) hv, hR _ H' F' (Fz.refl z.sub) (pr_take p hkv ⟨rfl, rfl⟩)⟩
    · have p := pr_all p (Nat.le_refl _)
      have ea : acc = k1 := paired_same p
      subst ea
      have hd2H := z1.sub _ _ (z1.grow _ _ hd2)
      have hDH := hD
      -- for name in second[0]
      refine ⟨_, rfl, t2, _, _, _, rfl, rfl, sq_t (hs.trans z1.same) ht2, rfl, d2, o2, rfl, .inl ⟨k2, hd2H, for_K (fun i σ H' => ∃ (r3 r4 : Option V) (cur : KVs) (F' : Hp), σ = [some (.ref t1), some (.ref t2), some (.ref D), r3, r4] ∧
        Fz N0 H F H' F' ∧ Same F1 F' ∧ H' D = some (.dK cur) ∧ F' D = none ∧ DcK (pCo K ring (adF g.1 h.1 ((k2.take i).map (·.1)))) F' cur ring.length)
        ⟨none, none, _, F1, rfl, z1, Same.refl _, e1, e2, ?_⟩ (fun i σ H' hp => ?_) (fun i ky v σ H' hkv hp => ?_) (fun σ H' hp => ?_)⟩⟩
      · rw [List.take_zero, List.map_nil, adF_nil]
        exact co_norm (hK1.up upCo z1.grow) (Nat.le_refl _)
      · obtain ⟨_, _, _, F', rfl, z, g', _⟩ := hp
        exact z.sub _ _ (g' _ _ (z1.grow _ _ hd2))
      · obtain ⟨r3, r4, cur, F', rfl, z, g', eD, fD, hC⟩ := hp
        have hv := valV_at hK2.1.nd hkv
        obtain ⟨n, rfl, hn, hne, hv2⟩ := co_key hK2 hv
        have gg := z1.grow.trans g'
        have hHF := gg.trans z.sub
        obtain ⟨eA1, eA0⟩ := adF_at (f := g.1) (g := h.1) hK2.1.nd hkv
        have hcur : IsF K F' ((valV cur (Sum.inr n : Key)).getD (.ref (He.ga K "NONE"))) (g.1 n) := by
          have q := hC.2 n
          cases q' : valV cur (Sum.inr n : Key) with
          | none => rw [q'] at q; have q : adF g.1 h.1 ((k2.take i).map (·.1)) n = 0 := q; rw [eA0] at q; rw [q]; exact isNONE T F'
          | some u => rw [q'] at q; have q := q.2.2; rw [eA0] at q; exact q
        have lc := hC.1.le
        refine ⟨_, rfl, D, rfl, .inl ⟨cur, .inl eD⟩, _, rfl, _, dget_any (.inl eD), _, rfl, t2, _, _, _, rfl, rfl, sq_t hHF ht2, rfl, _, rfl, d2, v, rfl, dget_frz (hHF _ _ hd2) hv, F', _, _, _, _, rfl, z.sub, hcur, hv2.up gg, ⟨hg.f n, hh.f n⟩, fun y H4 F4 z4 hy => ?_⟩
        have eD4 := z4.same _ _ eD
        have fD4 := z4.outS fD eD
        refine ⟨_, rfl, F4, _, _, rfl, z4.sub, hy, rfl, _, rfl, ite2 (fun e => ?_) (fun e => ?_)⟩
        · have e0 : g.1 n + h.1 n = 0 := (sgn_zero _).1 (V.int.inj (of_decide_eq_true e))
          have hsome : (valV cur (Sum.inr n : Key)).isSome = true := by
            cases q' : valV cur (Sum.inr n : Key) with
            | some u => rfl
            | none =>
              have q := hC.2 n
              rw [q'] at q
              have q : adF g.1 h.1 ((k2.take i).map (·.1)) n = 0 := q
              rw [eA0] at q
              exact absurd (by rw [q, Rat.zero_add] at e0; exact e0) hne
          refine ⟨_, rfl, _, rfl, D, cur, Sum.inr n, rfl, eD4, rfl, hsome, ?_⟩
          refine ⟨_, _, _, F4, rfl, Fz.set (z.trans z4) (.inl hDH) fD4, g'.trans z4.grow, upd_same, fD4, ?_⟩
          exact co_drop (hC.up upCo z4.grow) (by rw [eA1]; exact e0) (adF_ne hkv)
        · have e0 : g.1 n + h.1 n ≠ 0 := fun z => e (decide_eq_true (by rw [(sgn_zero _).2 z]))
          refine ⟨_, rfl, _, rfl, _, rfl, D, _, rfl, .inl ⟨cur, Sum.inr n, eD4, rfl, small10 (by omega), rfl⟩, ?_⟩
          refine ⟨_, _, _, F4, rfl, Fz.set (z.trans z4) (.inl hDH) fD4, g'.trans z4.grow, upd_same, fD4, ?_⟩
          exact co_put (hC.up upCo z4.grow) hn (by rw [eA1]; exact hy) (by rw [eA1]; exact e0) (adF_ne hkv)
      · obtain ⟨r3, r4, cur, F', rfl, z, g', eD, fD, hC⟩ := hp
        rw [List.take_length, adF_all hK2] at hC
        refine ⟨_, rfl, D, _, eD, True.intro, fun od' => ?_⟩
        have z2 := z.frz (o := .frz od' (.dK cur)) hDH fD
        have gg := (z1.grow.trans g').trans (same_upd (o := .frz od' (.dK cur)) fD)
        have hHF := gg.trans z2.sub
        refine ⟨_, rfl, t1, _, _, _, rfl, rfl, sq_t hHF ht1, rfl, _, rfl, t2, _, _, _, rfl, rfl, sq_t hHF ht2, rfl, _, _, _, _, _, rfl, z2.sub, hc1.up gg, hc2.up gg, ⟨hg.c, hh.c⟩, fun y H4 F4 z4 hy => ⟨two_ok, fun q hq => ?_⟩⟩
        have z5 := Fz.nw (o := .tup [.ref D, y]) z4.sub hq
        refine kk _ _ _ (z2.trans (z4.trans z5)) ⟨q, _, _, rfl, .inl (.inl upd_same), ?_, hy.up z5.grow⟩
        exact Dc.up upCo (F := upd F' D (.frz od' (.dK cur))) ⟨D, od', cur, rfl, upd_same, co_norm (hC.up upCo (same_upd fD)) (by omega)⟩ (z4.grow.trans z5.grow)
end
end K3
end
section
set_option Elab.async false
set_option linter.all false
set_option maxRecDepth 100000
set_option exponentiation.threshold 100
namespace K3
open PySem PySem.Spec PyProof.Rows L2
/-! ### multiplied, chosen, combined -/
def BinW.str : BinW → Str
  | .add => "add" | .subtract => "subtract" | .multiply => "multiply" | .min => "min" | .max => "max"
theorem strT {A B : Prop} {a b : Str} (h : a = b) (q : A) : if decide (V.str a = V.str b) = true then A else B := by rw [if_pos (decide_eq_true (by rw [h]))]; exact q
theorem strF {A B : Prop} {a b : Str} (h : a ≠ b) (q : B) : if decide (V.str a = V.str b) = true then A else B := by rw [if_neg fun z => h (V.str.inj (of_decide_eq_true z))]; exact q
theorem FSm.neg {g : Fm Str} (h : FSm g) : FSm (scF g (-1)) := ⟨fun n => (h.f n).neg, h.c.neg⟩
theorem smM : Sm (-1) := ⟨by decide +kernel, by decide +kernel⟩
section
variable {P : Program} {w : World} {K : PySem.W.Frag} {mg : Str → Option Value} {base : Heap}
def spComb (K : PySem.W.Frag) (ok : BinW → Prop) (wd : BinW → List V) : Sp := fun vs H Q _ => ∃ (F : Hp) (a b : V) (ring : List Str) (g h : Fm Str) (wo : BinW), vs = wd wo ++ [a, b] ∧ ok wo ∧ Same F H ∧ FmF K ring F a g ∧ FmF K ring F b h ∧ FSm g ∧ FSm h ∧ ring.length ≤ 1000 ∧ Ret N0 H F (fun v F' => OfF K ring F' v (comb ring wo g h)) Q
abbrev spMultiplied (K : PySem.W.Frag) : Sp := spComb K (fun w => w = .multiply) fun _ => []
abbrev spChosen (K : PySem.W.Frag) : Sp := spComb K (fun w => w = .min ∨ w = .max) fun w => [.str w.str]
abbrev spCombined2 (K : PySem.W.Frag) : Sp := spComb K (fun _ => True) fun w => [.str w.str]
theorem len_zero {n : Nat} : (decide (V.int (n : Int) = V.int 0)) = decide (n = 0) := by
  by_cases h : n = 0
  · subst h; rfl
  · rw [decide_eq_false h]; exact decide_eq_false fun z => h (by have := V.int.inj z; omega)
theorem g_multiplied (T : Txt K mg) : G P w K mg base CX0 6 "multiplied" p_multiplied (spMultiplied K) := by
  refine G.mk' T.df_multiplied T.g_multiplied (fun _ _ _ _ _ _ us hl => match us, hl with | [_, _], _ => rfl) fun fd F => ?_
  refine F.ok sc_multiplied (fun vs H Q E h => ?_) (fun cdv A outer s H vs Q E hr h => ?_)
  · obtain ⟨_, _, _, _, _, _, _, rfl, _⟩ := h
    rfl
  · obtain ⟨F, _, _, ring, g, h, _, rfl, rfl, hs, rg, rh, hg, hh, hr', kk⟩ := h
    have rg' := rg
    have rh' := rh
    obtain ⟨t1, _, c1, rfl, ht1, ⟨d1, o1, k1, rfl, hd1, hK1⟩, hc1⟩ := rg
    obtain ⟨t2, _, c2, rfl, ht2, ⟨d2, o2, k2, rfl, hd2, hK2⟩, hc2⟩ := rh
    have em1 := co_empty (c := g.2) hK1
    have em2 := co_empty (c := h.2) hK2
    refine ⟨_, PSs.nox (pss_cons (ps_if (pt_cmpR op_eq (pe_callB call_lenR (by rfl) T.f_len (by decide +kernel) (pa_cons (pe_ix ix_tup (pv 0) pe_int (fun _ _ => rfl)) pa_nil)) pe_int (nomark _)) (pss_one (ps_ret (pe_g (g_scaled T) (hr.mono (by omega)) (by rfl) pass0 (pa_cons (pv 1) (pa_cons (pe_ix ix_tup (pv 0) pe_int (fun _ _ => rfl)) pa_nil))))) pss_nil)
  (pss_cons (ps_if (pt_cmpR op_eq (pe_callB call_lenR (by rfl) T.f_len (by decide +kernel) (pa_cons (pe_ix ix_tup (pv 1) pe_int (fun _ _ => rfl)) pa_nil)) pe_int (nomark _)) (pss_one (ps_ret (pe_g (g_scaled T) (hr.mono (by omega)) (by rfl) pass0 (pa_cons (pv 0) (pa_cons (pe_ix ix_tup (pv 1) pe_int (fun _ _ => rfl)) pa_nil))))) pss_nil)
  (pss_one (ps_ret (pe_glob (v := V.non) (by rfl) T.t_NO_FORM rfl))))), ?_⟩
    refine ⟨_, rfl, t1, _, _, _, rfl, rfl, sq_t hs ht1, rfl, d1, k1, rfl, .inr ⟨o1, hs _ _ hd1⟩, rfl, _, rfl, ?_⟩
    refine ite2 (fun e => ?_) (fun e => ?_)
    · rw [len_zero] at e
      have e1 : noF ring g = true := em1.1 (of_decide_eq_true e)
      refine ⟨_, rfl, _, rfl, t1, _, _, _, rfl, rfl, sq_t hs ht1, rfl, F, _, _, ring, h, g.2, rfl, hs, rh', hc1, hh, hg.c, hr', fun v H' F' z hv => kk _ _ _ z ?_⟩
      show OfF K ring F' v (if noF ring g = true then some (scF h g.2) else _)
      rw [if_pos e1]
      exact hv
    · rw [len_zero] at e
      have e1 : ¬ noF ring g = true := fun z => e (decide_eq_true (em1.2 z))
      refine ⟨_, rfl, t2, _, _, _, rfl, rfl, sq_t hs ht2, rfl, d2, k2, rfl, .inr ⟨o2, hs _ _ hd2⟩, rfl, _, rfl, ?_⟩
      refine ite2 (fun e' => ?_) (fun e' => ?_)
      · rw [len_zero] at e'
        have e2 : noF ring h = true := em2.1 (of_decide_eq_true e')
        refine ⟨_, rfl, _, rfl, t2, _, _, _, rfl, rfl, sq_t hs ht2, rfl, F, _, _, ring, g, h.2, rfl, hs, rg', hc2, hg, hh.c, hr', fun v H' F' z hv => kk _ _ _ z ?_⟩
        show OfF K ring F' v (if noF ring g = true then _ else if noF ring h = true then some (scF g h.2) else none)
        rw [if_neg e1, if_pos e2]
        exact hv
      · rw [len_zero] at e'
        have e2 : ¬ noF ring h = true := fun z => e' (decide_eq_true (em2.2 z))
        refine kk _ _ _ (Fz.refl hs) ?_
        show OfF K ring F .non (if noF ring g = true then _ else if noF ring h = true then _ else none)
        rw [if_neg e1, if_neg e2]
        rfl
theorem gt_zero {n : Nat} : (decide ((0 : Int) < (n : Int))) = !decide (n = 0) := by
  by_cases h : n = 0
  · subst h; rfl
  · rw [decide_eq_false h]; exact decide_eq_true (by omega)
theorem g_chosen (T : Txt K mg) : G P w K mg base CX0 6 "chosen" p_chosen (spChosen K) := by
  refine G.mk' T.df_chosen T.g_chosen (fun _ _ _ _ _ _ us hl => match us, hl with | [_, _, _], _ => rfl) fun fd F => ?_
  refine F.ok sc_chosen (fun vs H Q E h => ?_) (fun cdv A outer s H vs Q E hr h => ?_)
  · obtain ⟨_, _, _, _, _, _, _, rfl, _⟩ := h
    rfl
  · obtain ⟨F, _, _, ring, g, h, wo, rfl, hwo, hs, rg, rh, hg, hh, hr', kk⟩ := h
    have rg' := rg
    have rh' := rh
    obtain ⟨t1, _, c1, rfl, ht1, ⟨d1, o1, k1, rfl, hd1, hK1⟩, hc1⟩ := rg
    obtain ⟨t2, _, c2, rfl, ht2, ⟨d2, o2, k2, rfl, hd2, hK2⟩, hc2⟩ := rh
    have em1 := co_empty (c := g.2) hK1
    have em2 := co_empty (c := h.2) hK2
    have hcomb : comb ring wo g h = if noF ring g && noF ring h then some (fun _ => 0, binV wo g.2 h.2) else none := by
      rcases hwo with rfl | rfl <;> rfl
    rw [hcomb] at kk
    have no : ¬ (noF ring g && noF ring h) = true → Ret N0 H F (fun v F' => OfF K ring F' v none) Q := fun z => by rw [if_neg z] at kk; exact kk
    have yes' : (noF ring g && noF ring h) = true → Ret N0 H F (fun v F' => FmF K ring F' v (fun _ => 0, binV wo g.2 h.2)) Q := fun z => by rw [if_pos z] at kk; exact kk
    have done : ∀ (c : V) (p q : Addr) (od : Obj) (H3 : Hp), noF ring g = true → noF ring h = true → H p = none → H3 = upd (upd (upd H p (.dK [])) p (.frz od (.dK []))) q (.tup [.ref p, c]) → upd (upd H p (.dK [])) p (.frz od (.dK [])) q = none → IsF K (upd F p (.frz od (.dK []))) c (binV wo g.2 h.2) → Q (.ref q) H3 := by
      intro c p q od H3 e1 e2 hp eH hq hc
      subst eH
      have z1 := fz_dict (S := N0) (o := .dK []) (u := .frz od (.dK [])) hs hp
      have z2 := Fz.nw (o := .tup [.ref p, c]) z1.sub hq
      exact yes' (by rw [e1, e2]; rfl) _ _ _ (z1.trans z2) ⟨q, _, _, rfl, .inl (.inl upd_same), co_nil.up upCo z2.grow, hc.up z2.grow⟩
    refine ⟨_, PSs.nox (pss_cons (ps_if (PW.pt (pw_or (pt_cmpR op_gt (pe_callB call_lenR (by rfl) T.f_len (by decide +kernel) (pa_cons (pe_ix ix_tup (pv 1) pe_int (fun _ _ => rfl)) pa_nil)) pe_int (nomark _)) (pw_or1 (pt_cmpR op_gt (pe_callB call_lenR (by rfl) T.f_len (by decide +kernel) (pa_cons (pe_ix ix_tup (pv 2) pe_int (fun _ _ => rfl)) pa_nil)) pe_int (nomark _))))) (pss_one (ps_ret (pe_glob (v := V.non) (by rfl) T.t_NO_FORM rfl))) pss_nil)
  (pss_cons (ps_if (pt_cmpR op_eq (pv 0) pe_str (nomark _)) (pss_one (ps_ret (pe_tup (pa_cons (pe_frz pe_dnewK) (pa_cons (pe_g (g_smaller T) (hr.mono (by omega)) (by rfl) pass0 (pa_cons (pe_ix ix_tup (pv 1) pe_int (fun _ _ => rfl)) (pa_cons (pe_ix ix_tup (pv 2) pe_int (fun _ _ => rfl)) pa_nil))) pa_nil))))) pss_nil)
  (pss_one (ps_ret (pe_tup (pa_cons (pe_frz pe_dnewK) (pa_cons (pe_g (g_greater T) (hr.mono (by omega)) (by rfl) pass0 (pa_cons (pe_ix ix_tup (pv 1) pe_int (fun _ _ => rfl)) (pa_cons (pe_ix ix_tup (pv 2) pe_int (fun _ _ => rfl)) pa_nil))) pa_nil))))))), ?_⟩
    refine ⟨_, rfl, t1, _, _, _, rfl, rfl, sq_t hs ht1, rfl, d1, k1, rfl, .inr ⟨o1, hs _ _ hd1⟩, _, _, rfl, rfl, _, rfl, ite2 (fun e => ?_) (fun e => ?_)⟩
    · rw [gt_zero] at e
      have e1 : ¬ noF ring g = true := fun z => by rw [decide_eq_true (em1.2 z)] at e; cases e
      exact iteT (no (by simp [e1]) _ _ _ (Fz.refl hs) rfl)
    · rw [gt_zero] at e
      have e1 : noF ring g = true := em1.1 (by
        cases q : decide (k1.length = 0) with
        | true => exact of_decide_eq_true q
        | false => rw [q] at e; exact absurd rfl e)
      refine ⟨_, rfl, t2, _, _, _, rfl, rfl, sq_t hs ht2, rfl, d2, k2, rfl, .inr ⟨o2, hs _ _ hd2⟩, _, _, rfl, rfl, _, rfl, ite2 (fun e => ?_) (fun e => ?_)⟩
      · rw [gt_zero] at e
        have e2 : ¬ noF ring h = true := fun z => by rw [decide_eq_true (em2.2 z)] at e; cases e
        exact no (by simp [e2]) _ _ _ (Fz.refl hs) rfl
      · rw [gt_zero] at e
        have e2 : noF ring h = true := em2.1 (by
          cases q : decide (k2.length = 0) with
          | true => exact of_decide_eq_true q
          | false => rw [q] at e; exact absurd rfl e)
        have go : ∀ (p : Addr) (od : Obj), H p = none → Same F (upd (upd H p (.dK [])) p (.frz od (.dK []))) := fun p od hp => (fz_dict (S := N0) (o := .dK []) (u := .frz od (.dK [])) hs hp).same |> fun z => hs.trans z
        have c1' := cmpI_spec g.2 h.2
        rcases hwo with rfl | rfl
        · refine ⟨_, rfl, rfl, _, rfl, strT rfl ?_⟩
          refine fun p hp => ⟨p, _, upd_same, True.intro, fun od => ?_⟩
          have z1 := fz_dict (S := N0) (o := .dK []) (u := .frz od (.dK [])) hs hp
          refine ⟨_, rfl, t1, _, _, _, rfl, rfl, sq_t (go p od hp) ht1, rfl, _, rfl, t2, _, _, _, rfl, rfl, sq_t (go p od hp) ht2, rfl, _, _, _, g.2, h.2, rfl, z1.sub, hc1.up z1.grow, hc2.up z1.grow, hg.c, hh.c, ⟨two_ok, fun q hq => done _ p q od _ e1 e2 hp rfl hq ?_⟩⟩
          show IsF K _ (if _ then c1 else c2) (if g.2 ≤ h.2 then g.2 else h.2)
          by_cases q : g.2 ≤ h.2
          · simp only [q, decide_true, if_true]; exact hc1.up z1.grow
          · simp only [q, decide_false, if_false]; exact hc2.up z1.grow
        · refine ⟨_, rfl, rfl, _, rfl, strF (by decide +kernel) ?_⟩
          refine fun p hp => ⟨p, _, upd_same, True.intro, fun od => ?_⟩
          have z1 := fz_dict (S := N0) (o := .dK []) (u := .frz od (.dK [])) hs hp
          refine ⟨_, rfl, t1, _, _, _, rfl, rfl, sq_t (go p od hp) ht1, rfl, _, rfl, t2, _, _, _, rfl, rfl, sq_t (go p od hp) ht2, rfl, _, _, _, g.2, h.2, rfl, z1.sub, hc1.up z1.grow, hc2.up z1.grow, hg.c, hh.c, ⟨two_ok, fun q hq => done _ p q od _ e1 e2 hp rfl hq ?_⟩⟩
          show IsF K _ (if _ then c1 else c2) (if h.2 ≤ g.2 then g.2 else h.2)
          by_cases q : h.2 ≤ g.2
          · simp only [q, decide_true, if_true]; exact hc1.up z1.grow
          · simp only [q, decide_false, if_false]; exact hc2.up z1.grow
theorem g_combined2 (T : Txt K mg) : G P w K mg base CX0 7 "combined_rings" p_combined2 (spCombined2 K) := by
  refine G.mk' T.df_combined2 T.g_combined2 (fun _ _ _ _ _ _ us hl => match us, hl with | [_, _, _], _ => rfl) fun fd F => ?_
  refine F.ok sc_combined2 (fun vs H Q E h => ?_) (fun cdv A outer s H vs Q E hr h => ?_)
  · obtain ⟨_, _, _, _, _, _, _, rfl, _⟩ := h
    rfl
  · obtain ⟨F, a, b, ring, g, h, wo, rfl, _, hs, rg, rh, hg, hh, hr', kk⟩ := h
    refine ⟨_, PSs.nox (pss_cons (ps_if (pt_cmpR op_eq (pv 0) pe_str (nomark _)) (pss_one (ps_ret (pe_g (g_added T) (hr.mono (by omega)) (by rfl) pass0 (pa_cons (pv 1) (pa_cons (pv 2) pa_nil))))) pss_nil)
  (pss_cons (ps_if (pt_cmpR op_eq (pv 0) pe_str (nomark _)) (pss_one (ps_ret (pe_g (g_added T) (hr.mono (by omega)) (by rfl) pass0 (pa_cons (pv 1) (pa_cons (pe_g (g_scaled T) (hr.mono (by omega)) (by rfl) pass0 (pa_cons (pv 2) (pa_cons (pe_g (g_opposite T) (hr.mono (by omega)) (by rfl) pass0 (pa_cons (pe_cst T.g_UNIT (by rfl)) pa_nil)) pa_nil))) pa_nil))))) pss_nil)
  (pss_cons (ps_if (pt_cmpR op_eq (pv 0) pe_str (nomark _)) (pss_one (ps_ret (pe_g (g_multiplied T) (hr.mono (by omega)) (by rfl) pass0 (pa_cons (pv 1) (pa_cons (pv 2) pa_nil))))) pss_nil)
  (pss_one (ps_ret (pe_g (g_chosen T) (hr.mono (by omega)) (by rfl) pass0 (pa_cons (pv 0) (pa_cons (pv 1) (pa_cons (pv 2) pa_nil))))))))), ?_⟩
    cases wo with
    | add => exact ⟨_, rfl, rfl, _, rfl, strT rfl ⟨_, rfl, _, rfl, F, a, b, ring, g, h, rfl, hs, rg, rh, hg, hh, hr', fun v H' F' z hv => kk _ _ _ z hv⟩⟩
    | subtract =>
      refine ⟨_, rfl, rfl, _, rfl, strF (by decide +kernel) ⟨_, rfl, rfl, _, rfl, strT rfl ?_⟩⟩
      refine ⟨_, rfl, _, rfl, F, _, 1, rfl, hs, isUNIT T F, fun v1 H1 F1 z1 h1 => ⟨F1, b, v1, ring, h, -1, rfl, z1.sub, rh.up z1.grow, h1, hh, smM, hr', fun v2 H2 F2 z2 h2 => ⟨F2, a, v2, ring, g, scF h (-1), rfl, z2.sub, rg.up (z1.grow.trans z2.grow), h2, hg, hh.neg, hr', fun v3 H3 F3 z3 h3 => kk _ _ _ (z1.trans (z2.trans z3)) ?_⟩⟩⟩
      show FmF K ring F3 v3 (fun x => g.1 x - h.1 x, g.2 - h.2)
      have e : addG g (scF h (-1)) = (fun x => g.1 x - h.1 x, g.2 - h.2) := by
        refine Prod.ext (funext fun n => ?_) ?_
        · show g.1 n + h.1 n * (-1) = g.1 n - h.1 n; grind
        · show g.2 + h.2 * (-1) = g.2 - h.2; grind
      rw [← e]; exact h3
    | multiply =>
      refine ⟨_, rfl, rfl, _, rfl, strF (by decide +kernel) ⟨_, rfl, rfl, _, rfl, strF (by decide +kernel) ⟨_, rfl, rfl, _, rfl, strT rfl ?_⟩⟩⟩
      exact ⟨_, rfl, _, rfl, F, a, b, ring, g, h, .multiply, rfl, rfl, hs, rg, rh, hg, hh, hr', kk⟩
    | min =>
      refine ⟨_, rfl, rfl, _, rfl, strF (by decide +kernel) ⟨_, rfl, rfl, _, rfl, strF (by decide +kernel) ⟨_, rfl, rfl, _, rfl, strF (by decide +kernel) ?_⟩⟩⟩
      exact ⟨_, rfl, _, rfl, _, rfl, F, a, b, ring, g, h, .min, rfl, .inl rfl, hs, rg, rh, hg, hh, hr', kk⟩
    | max =>
      refine ⟨_, rfl, rfl, _, rfl, strF (by decide +kernel) ⟨_, rfl, rfl, _, rfl, strF (by decide +kernel) ⟨_, rfl, rfl, _, rfl, strF (by decide +kernel) ?_⟩⟩⟩
      exact ⟨_, rfl, _, rfl, _, rfl, F, a, b, ring, g, h, .max, rfl, .inr rfl, hs, rg, rh, hg, hh, hr', kk⟩
end
end K3
end
section
set_option Elab.async false
set_option linter.all false
set_option maxRecDepth 100000
set_option exponentiation.threshold 100
namespace K3
open PySem PySem.Spec PyProof.Rows L2
/-! ### methods, classes, exceptions as their users see them -/
structure Gm (P : Program) (w : World) (K : PySem.W.Frag) (mg : Str → Option Value) (base : Heap) (CX : CXT) (k : Nat) (C : Addr) (m : Str) (ps : List Str) (sp : Sp) : Prop where
  ex : ∃ f fd, FnOk P w K mg base CX k f fd ps sp ∧ Binds K fd ps [] ∧ Meth K C m f
structure Gk (P : Program) (w : World) (K : PySem.W.Frag) (mg : Str → Option Value) (base : Heap) (CX : CXT) (k : Nat) (C : Addr) (ps : List Str) (sp : Sp) : Prop where
  ex : ∃ f fd, FnOk P w K mg base CX k f fd ps sp ∧ Binds K fd ps [] ∧ Mk K C f
structure Gx (P : Program) (w : World) (K : PySem.W.Frag) (mg : Str → Option Value) (base : Heap) (CX : CXT) (k : Nat) (x : Str) (ps : List Str) (sp : Sp) : Prop where
  ex : ∃ fd, FnOk P w K mg base CX k (He.ma K (He.ga K x) "__init__") fd ps sp ∧ Binds K fd ps []
section
variable {X : Cx} {CX : CXT} {k : Nat} {C : Addr} {ps : List Str} {sp : Sp} {E : XK} {x m : Str} {p pos apos : Pos} {e o : Expr} {es : List Expr} {ta : TE} {t : TA}
theorem pe_gm {pl : Sem Bool} (he : PE X o ta) (c : Cls X.K C) (g : Gm X.prog X.w X.K X.mg X.base CX k C m ps sp) (hr : Room k X.A) (hx : Passes CX X E) (ha : PA X (e :: es) t)
    (hst : starEach (e :: es) X.env = (false, eval e X.env) :: starEach es X.env := by rfl) (hpl : (backTo pos (starEach es X.env)).any (·.1) = false := by rfl)
    (ht : eval (.Call (.Attribute o m apos) (e :: es) [] pos) X.env = (do
      let ov ← eval o X.env
      standAt apos.atName
      let (f, first) ← holding [ov] (getMethod ov m pl)
      callWith pos f first (backTo pos (starEach (e :: es) X.env)) (backToKw pos (keywordEach [] X.env))) := by rfl) :
    PE X (.Call (.Attribute o m apos) (e :: es) [] pos) (tMeth C m sp [] E ta t) := by
  obtain ⟨f, fd, F, b, M⟩ := g.ex
  exact pe_meth he c M F hr b .nil hx ha hst hpl ht
theorem pe_gk (g : Gk X.prog X.w X.K X.mg X.base CX k C ps sp) (hr : Room (k + 1) X.A) (hg : Gl X x) (hm : X.mg x = some (.ref C)) (hx : Passes CX X E)
    (ha : PA X (e :: es) t) (hdb : (x == ("__debug__" : Str)) = false := by decide) (he : starEach (e :: es) X.env = (false, eval e X.env) :: starEach es X.env := by rfl) (hpl : (backTo pos (starEach es X.env)).any (·.1) = false := by rfl) :
    PE X (.Call (.Name x p) (e :: es) [] pos) (tMake C sp [] E t) := by
  obtain ⟨f, fd, F, b, M⟩ := g.ex
  exact pe_make M F hr hg hm b .nil hx ha hdb he hpl
theorem pmk_g (T : ExcOk X.K x) (g : Gx X.prog X.w X.K X.mg X.base CX k x ps sp) (hr : Room (k + 1) X.A) (hx : Passes CX X (fun _ _ _ => False)) (hg : Gl X x) (hm : X.mg x = some (.ref (He.ga X.K x))) (ha : PA X (e :: es) t)
    (hdb : (x == ("__debug__" : Str)) = false := by decide) (he : starEach (e :: es) X.env = (false, eval e X.env) :: starEach es X.env := by rfl) (hpl : (backTo pos (starEach es X.env)).any (·.1) = false := by rfl) :
    PMk X (.Call (.Name x p) (e :: es) [] pos) (tMkO (He.ga X.K x) sp [] t) := by
  obtain ⟨fd, F, b⟩ := g.ex
  exact pmk_oex T.o T.i T.t F hr b .nil hx hg hm ha hdb he hpl
end
section
variable {P : Program} {w : World} {K : PySem.W.Frag} {mg : Str → Option Value} {base : Heap} {CX : CXT} {k : Nat} {C : Addr} {m : Str} {ps : List Str} {sp : Sp} {name qual : Str} {st : Stmt} {f : Addr}
theorem Gm.mk' (hd : ∃ fd, FunD K name qual (defArgs st) (defBody st) (defScope st) [] [] f fd) (M : Meth K C m f)
    (hb : ∀ (kV doc pm : Value) (an : Option Addr) (cdv ct : Value) (us : List Value), us.length = ps.length → bindArgs (PySem.W.fnOf name qual (defArgs st) (defBody st) (defScope st) .none kV doc pm an cdv ct) ⟨us, []⟩ = pure (ps.zip us))
    (h : ∀ fd, FunD K name qual (defArgs st) (defBody st) (defScope st) [] [] f fd → FnOk P w K mg base CX k f fd ps sp) : Gm P w K mg base CX k C m ps sp := by
  obtain ⟨fd, F⟩ := hd
  exact ⟨f, fd, h fd F, F.bindsN hb, M⟩
theorem Gk.mk' (hd : ∃ fd, FunD K name qual (defArgs st) (defBody st) (defScope st) [] [] f fd) (M : Mk K C f)
    (hb : ∀ (kV doc pm : Value) (an : Option Addr) (cdv ct : Value) (us : List Value), us.length = ps.length → bindArgs (PySem.W.fnOf name qual (defArgs st) (defBody st) (defScope st) .none kV doc pm an cdv ct) ⟨us, []⟩ = pure (ps.zip us))
    (h : ∀ fd, FunD K name qual (defArgs st) (defBody st) (defScope st) [] [] f fd → FnOk P w K mg base CX k f fd ps sp) : Gk P w K mg base CX k C ps sp := by
  obtain ⟨fd, F⟩ := hd
  exact ⟨f, fd, h fd F, F.bindsN hb, M⟩
theorem Gx.mk' {x : Str} (hd : ∃ fd, FunD K name qual (defArgs st) (defBody st) (defScope st) [] [] (He.ma K (He.ga K x) "__init__") fd)
    (hb : ∀ (kV doc pm : Value) (an : Option Addr) (cdv ct : Value) (us : List Value), us.length = ps.length → bindArgs (PySem.W.fnOf name qual (defArgs st) (defBody st) (defScope st) .none kV doc pm an cdv ct) ⟨us, []⟩ = pure (ps.zip us))
    (h : ∀ fd, FunD K name qual (defArgs st) (defBody st) (defScope st) [] [] (He.ma K (He.ga K x) "__init__") fd → FnOk P w K mg base CX k (He.ma K (He.ga K x) "__init__") fd ps sp) : Gx P w K mg base CX k x ps sp := by
  obtain ⟨fd, F⟩ := hd
  exact ⟨fd, h fd F, F.bindsN hb⟩
end
/-! exceptions: their fields -/
section
variable {P : Program} {w : World} {K : PySem.W.Frag} {mg : Str → Option Value} {base : Heap}
/-- the __init__ of an exception with such fields -/
def spX (C : Addr) (ns : List Str) : Sp := fun vs H Q _ => ∃ (a : Addr) (ys : List V), vs = .ref a :: ys ∧ ys.length = ns.length ∧ H a = some (exo a C none) ∧
  ∀ dx H', H dx = none → dx ≠ a → H' a = some (exo a C (some dx)) → H' dx = some (exd dx (ns.zip ys).reverse) → (∀ b, b ≠ a → b ≠ dx → H' b = H b) → Q .non H'
theorem gx_MissingRate (T : Txt K mg) : Gx P w K mg base CX0 1 "MissingRate" p_MissingRate_init (spX (He.ga K "MissingRate") ["name", "day"]) := by
  refine Gx.mk' T.df_MissingRate_init (fun _ _ _ _ _ _ us hl => match us, hl with | [_, _, _], _ => rfl) fun fd F => ?_
  refine F.ok sc_MissingRate_init (fun vs H Q E h => ?_) (fun cdv A outer s H vs Q E hr h => ?_)
  · obtain ⟨a, ys, rfl, hl, _⟩ := h
    match ys, hl with
    | [_, _], _ => rfl
  · obtain ⟨a, ys, rfl, hl, ha, k⟩ := h
    match ys, hl with
    | [y1, y2], _ =>
      refine ⟨_, PSs.nox (pss_cons (ps_ost (pv 0) (pv 1)) (pss_one (ps_ost (pv 0) (pv 2)))), ?_⟩
      refine ⟨_, rfl, _, rfl, a, _, rfl, T.e_MissingRate.o, T.n_MissingRate_name, .inl ⟨ha, fun dx hdx ne => ?_⟩⟩
      refine ⟨_, rfl, _, rfl, a, _, rfl, T.e_MissingRate.o, T.n_MissingRate_day, .inr ⟨dx, [("name", y1)], upd_same, by rw [upd_ne ne, upd_same], by simp, ?_⟩⟩
      refine k dx _ hdx ne (by rw [upd_ne (Ne.symm ne), upd_same]) upd_same fun b h1 h2 => by rw [upd_ne h2, upd_ne h1, upd_ne h2]
theorem gx_NoSingleRate (T : Txt K mg) : Gx P w K mg base CX0 1 "NoSingleRate" p_NoSingleRate_init (spX (He.ga K "NoSingleRate") ["ring", "weights"]) := by
  refine Gx.mk' T.df_NoSingleRate_init (fun _ _ _ _ _ _ us hl => match us, hl with | [_, _, _], _ => rfl) fun fd F => ?_
  refine F.ok sc_NoSingleRate_init (fun vs H Q E h => ?_) (fun cdv A outer s H vs Q E hr h => ?_)
  · obtain ⟨a, ys, rfl, hl, _⟩ := h
    match ys, hl with
    | [_, _], _ => rfl
  · obtain ⟨a, ys, rfl, hl, ha, k⟩ := h
    match ys, hl with
    | [y1, y2], _ =>
      refine ⟨_, PSs.nox (pss_cons (ps_ost (pv 0) (pv 1)) (pss_one (ps_ost (pv 0) (pv 2)))), ?_⟩
      refine ⟨_, rfl, _, rfl, a, _, rfl, T.e_NoSingleRate.o, T.n_NoSingleRate_ring, .inl ⟨ha, fun dx hdx ne => ?_⟩⟩
      refine ⟨_, rfl, _, rfl, a, _, rfl, T.e_NoSingleRate.o, T.n_NoSingleRate_weights, .inr ⟨dx, [("ring", y1)], upd_same, by rw [upd_ne ne, upd_same], by simp, ?_⟩⟩
      refine k dx _ hdx ne (by rw [upd_ne (Ne.symm ne), upd_same]) upd_same fun b h1 h2 => by rw [upd_ne h2, upd_ne h1, upd_ne h2]
theorem gx_NotStraight (T : Txt K mg) : Gx P w K mg base CX0 1 "NotStraight" p_NotStraight_init (spX (He.ga K "NotStraight") ["name"]) := by
  refine Gx.mk' T.df_NotStraight_init (fun _ _ _ _ _ _ us hl => match us, hl with | [_, _], _ => rfl) fun fd F => ?_
  refine F.ok sc_NotStraight_init (fun vs H Q E h => ?_) (fun cdv A outer s H vs Q E hr h => ?_)
  · obtain ⟨a, ys, rfl, hl, _⟩ := h
    match ys, hl with
    | [_], _ => rfl
  · obtain ⟨a, ys, rfl, hl, ha, k⟩ := h
    match ys, hl with
    | [y1], _ =>
      refine ⟨_, PSs.nox (pss_one (ps_ost (pv 0) (pv 1))), ?_⟩
      refine ⟨_, rfl, _, rfl, a, _, rfl, T.e_NotStraight.o, T.n_NotStraight_name, .inl ⟨ha, fun dx hdx ne => ?_⟩⟩
      refine k dx _ hdx ne upd_same (by rw [upd_ne ne, upd_same]; rfl) fun b h1 h2 => by rw [upd_ne h1, upd_ne h2]
/-- the exception made -/
theorem mk_x {C : Addr} {ns : List Str} {vs : List V} {H1 : Hp} {Q : XK} (hl : vs.length = ns.length) (q : ∀ d, H1 d = none → Q (.ref C) (some d) (upd H1 d (.xd (ns.zip vs).reverse))) :
    ∀ a, H1 a = none → spX C ns (.ref a :: (vs ++ [])) (upd H1 a (exo a C none))
      (fun v H2 => v = .non ∧ ∃ (d : Addr) (fs : List (Str × V)), H2 a = some (exo a C (some d)) ∧ H2 d = some (exd d fs) ∧ H1 d = none ∧ Q (.ref C) (some d) (upd (del H2 a) d (.xd fs))) (fun _ _ _ => False) := by
  intro a ha
  refine ⟨a, vs, by rw [List.append_nil], hl, upd_same, fun dx H' hdx ne e1 e2 e3 => ⟨rfl, dx, _, e1, e2, by rw [upd_ne ne] at hdx; exact hdx, ?_⟩⟩
  rw [upd_ne ne] at hdx
  have e : upd (del H' a) dx (.xd (ns.zip vs).reverse) = upd H1 dx (.xd (ns.zip vs).reverse) := by
    funext b
    by_cases h : b = dx
    · subst h; rw [upd_same, upd_same]
    · rw [upd_ne h, upd_ne h]
      by_cases h2 : b = a
      · subst h2; rw [del_same, ha]
      · rw [del_ne h2, e3 b h2 h, upd_ne h2]
  rw [e]
  exact q dx hdx
end
/-! ### expressions as they lie -/
def CmpW.str : CmpW → Str
  | .less => "less" | .atmost => "atmost" | .equal => "equal"
def TimW.str : TimW → Str
  | .ever => "ever" | .always => "always" | .before => "before"
section
variable (K : PySem.W.Frag) (F : Hp)
def TpIn (v : V) (xs : List V) : Prop := ∃ a, v = .ref a ∧ SqT K F a xs
def LfIn : V → Leaf Str → Prop
  | v, .pct x => ∃ u, TpIn K F v [.str "percent", u] ∧ IsF K F u x
  | v, .num x => ∃ u, TpIn K F v [.str "number", u] ∧ IsF K F u x
  | v, .fact n => TpIn K F v [.str "fact", .str n]
  | v, .rate n => TpIn K F v [.str "rate", .str n]
def TrIn : V → Tr Str → Prop
  | v, .tru => TpIn K F v [.str "true"]
  | v, .fls => TpIn K F v [.str "false"]
  | v, .cmp w p q => ∃ u1 u2, TpIn K F v [.str w.str, u1, u2] ∧ LfIn K F u1 p ∧ LfIn K F u2 q
  | v, .not c => ∃ u, TpIn K F v [.str "not", u] ∧ TrIn u c
  | v, .and c d => ∃ u1 u2, TpIn K F v [.str "and", u1, u2] ∧ TrIn u1 c ∧ TrIn u2 d
  | v, .or c d => ∃ u1 u2, TpIn K F v [.str "or", u1, u2] ∧ TrIn u1 c ∧ TrIn u2 d
  | v, .tim w k c => ∃ u, TpIn K F v [.str w.str, .int (k : Nat), u] ∧ TrIn u c
def PxIn (pl : Option (Px Str)) : V → Px Str → Prop
  | v, .leaf l => LfIn K F v l
  | v, .ite c p q => ∃ u0 u1 u2, TpIn K F v [.str "if", u0, u1, u2] ∧ TrIn K F u0 c ∧ PxIn pl u1 p ∧ PxIn pl u2 q
  | v, .bin w p q => ∃ u1 u2, TpIn K F v [.str w.str, u1, u2] ∧ PxIn pl u1 p ∧ PxIn pl u2 q
  | v, .part p => TpIn K F v [.str "name", .str "part"] ∧ pl = some p
end
section
variable {K : PySem.W.Frag} {F F' : Hp}
theorem TpIn.up {v : V} {xs : List V} (h : TpIn K F v xs) (e : Same F F') : TpIn K F' v xs := let ⟨a, e1, e2⟩ := h; ⟨a, e1, sq_t e e2⟩
theorem LfIn.up {v : V} : ∀ {l : Leaf Str}, LfIn K F v l → Same F F' → LfIn K F' v l
  | .pct _, ⟨u, h1, h2⟩, e => ⟨u, h1.up e, h2.up e⟩
  | .num _, ⟨u, h1, h2⟩, e => ⟨u, h1.up e, h2.up e⟩
  | .fact _, h, e => TpIn.up h e
  | .rate _, h, e => TpIn.up h e
theorem TrIn.up : ∀ {c : Tr Str} {v : V}, TrIn K F v c → Same F F' → TrIn K F' v c
  | .tru, _, h, e => TpIn.up h e
  | .fls, _, h, e => TpIn.up h e
  | .cmp _ _ _, _, ⟨u1, u2, h, h1, h2⟩, e => ⟨u1, u2, h.up e, h1.up e, h2.up e⟩
  | .not _, _, ⟨u, h, h1⟩, e => ⟨u, h.up e, TrIn.up h1 e⟩
  | .and _ _, _, ⟨u1, u2, h, h1, h2⟩, e => ⟨u1, u2, h.up e, TrIn.up h1 e, TrIn.up h2 e⟩
  | .or _ _, _, ⟨u1, u2, h, h1, h2⟩, e => ⟨u1, u2, h.up e, TrIn.up h1 e, TrIn.up h2 e⟩
  | .tim _ _ _, _, ⟨u, h, h1⟩, e => ⟨u, h.up e, TrIn.up h1 e⟩
theorem PxIn.up {pl : Option (Px Str)} : ∀ {p : Px Str} {v : V}, PxIn K F pl v p → Same F F' → PxIn K F' pl v p
  | .leaf _, _, h, e => LfIn.up h e
  | .ite _ _ _, _, ⟨u0, u1, u2, h, h0, h1, h2⟩, e => ⟨u0, u1, u2, h.up e, h0.up e, PxIn.up h1 e, PxIn.up h2 e⟩
  | .bin _ _ _, _, ⟨u1, u2, h, h1, h2⟩, e => ⟨u1, u2, h.up e, PxIn.up h1 e, PxIn.up h2 e⟩
  | .part _, _, ⟨h, h1⟩, e => ⟨h.up e, h1⟩
end
/-- the lets of a bond: none, or one by the name part -/
def LetsIn (K : PySem.W.Frag) (F : Hp) (v : V) (pl : Option (Px Str)) : Prop := ∃ a vs, v = .ref a ∧ F a = some (.lst vs) ∧ match pl with
  | none => vs = []
  | some p => ∃ t u, vs = [.ref t] ∧ SqT K F t [.str "part", u] ∧ PxIn K F (some p) u p
theorem LetsIn.up {K : PySem.W.Frag} {F F' : Hp} {v : V} {pl : Option (Px Str)} (h : LetsIn K F v pl) (e : Same F F') : LetsIn K F' v pl := by
  obtain ⟨a, vs, rfl, h1, h2⟩ := h
  refine ⟨a, vs, rfl, e _ _ h1, ?_⟩
  cases pl with
  | none => exact h2
  | some p =>
    obtain ⟨t, u, h3, h4, h5⟩ := h2
    exact ⟨t, u, h3, sq_t e h4, h5.up e⟩
/-- a history -/
def HiF (K : PySem.W.Frag) (F : Hp) (v : V) (W : Wd Str) : Prop := ∃ a dx x0 x3 vf vr, v = .ref a ∧ F a = some (.ins (He.ga K "History") dx [("lets", x0), ("facts", vf), ("rates", vr), ("known", x3)]) ∧ TabF K 100 W.facts F vf ∧ TabF K 100 W.rates F vr
theorem HiF.up {K : PySem.W.Frag} {F F' : Hp} {v : V} {W : Wd Str} (h : HiF K F v W) (e : Same F F') : HiF K F' v W := by
  obtain ⟨a, dx, x0, x3, vf, vr, h0, h1, h2, h3⟩ := h
  exact ⟨a, dx, x0, x3, vf, vr, h0, e _ _ h1, h2.up upTab e, h3.up upTab e⟩
/-- what the worlds must keep -/
structure WB (W : Wd Str) (day : Nat) : Prop where
  lo : ∀ n : Str, n = "low" ∨ n = "top" → day < (W.facts n).length
  fs : ∀ (n : Str) (j : Nat) (x : Rat), (W.facts n)[j]? = some x → Sm x
  rs : ∀ (n : Str) (j : Nat) (x : Rat), (W.rates n)[j]? = some x → Sm x
  sm : day < 1000
theorem WB.le {W : Wd Str} {d e : Nat} (h : WB W d) (q : e ≤ d) : WB W e := ⟨fun n hn => Nat.lt_of_le_of_lt q (h.lo n hn), h.fs, h.rs, Nat.lt_of_le_of_lt q h.sm⟩
def Leaf.Fit : Leaf Str → Prop
  | .pct x => Sm x ∧ Sm (x * (1 / 100))
  | .num x => Sm x
  | .fact n => n = "low" ∨ n = "top"
  | .rate _ => True
def Tr.Fit : Tr Str → Prop
  | .tru => True
  | .fls => True
  | .cmp _ a b => a.Fit ∧ b.Fit
  | .not c => c.Fit
  | .and c d => c.Fit ∧ d.Fit
  | .or c d => c.Fit ∧ d.Fit
  | .tim _ k c => k < 1000 ∧ c.Fit
theorem lfv_sm {W : Wd Str} {day : Nat} (h : WB W day) {l : Leaf Str} (f : l.Fit) {x : Rat} (e : lfv W day l = .ok x) : Sm x := by
  cases l with
  | pct y => cases e; exact f.2
  | num y => cases e; exact f
  | fact n =>
    simp only [lfv] at e
    cases q : (W.facts n)[day]? with
    | none => rw [q] at e; cases e
    | some y => rw [q] at e; cases e; exact h.fs n day x q
  | rate n =>
    simp only [lfv] at e
    cases q : (W.rates n)[day]? with
    | none => rw [q] at e; cases e
    | some y => rw [q] at e; cases e; exact h.rs n day x q
end K3
end
section
set_option Elab.async false
set_option linter.all false
set_option maxRecDepth 100000
set_option exponentiation.threshold 100
namespace K3
open PySem PySem.Spec PyProof.Rows L2
/-! ### histories, evaluated -/
theorem fz_made {H F H2 : Hp} {x dx C : Addr} {o : HO} (h : Same F H) (hx : H x = none) (hd : H dx = none) (k : ∀ b u, b ≠ x → upd (upd H dx (.own x)) x (.ins C dx []) b = some u → H2 b = some u) (e : H2 x = some o) : Fz N0 H F H2 (upd F x o) := by
  have kk : ∀ b u, H b = some u → H2 b = some u := fun b u q => k b u (ne_of_none q hx) (by rw [upd_ne (ne_of_none q hx), upd_ne (ne_of_none q hd)]; exact q)
  have hf := h.free hx
  refine ⟨fun b u _ q => kk b u q, same_upd hf, fun b u q => ?_, fun b u q => ?_, fun b q => ?_⟩
  · by_cases z : b = x
    · subst z; rw [upd_same] at q; cases q; exact e
    · rw [upd_ne z] at q; exact kk b u (h b u q)
  · by_cases z : b = x
    · subst z; exact .inr hx
    · rw [upd_ne z] at q; exact .inl q
  · cases z : H b with
    | none => exact absurd z q
    | some u => rw [kk b u z]; simp
theorem pf {f : Str} {v : V} : ∀ {fs : List (Str × V)} {n : Nat}, fs.length ≤ n → (putF f v fs).length ≤ n + 1
  | [], n, _ => by simp [putF]
  | (g, x) :: r, n, h => by
    rw [putF]
    split
    · simp at h ⊢; omega
    · cases n with
      | zero => simp at h
      | succ n =>
        have := pf (f := f) (v := v) (fs := r) (n := n) (by simpa using h)
        rw [List.length_cons]; omega
section
variable {P : Program} {w : World} {K : PySem.W.Frag} {mg : Str → Option Value} {base : Heap}
abbrev HIS (K : PySem.W.Frag) : Addr := He.ga K "History"
def spHiInit (K : PySem.W.Frag) : Sp := fun vs H Q _ => ∃ (F : Hp) (x dx : Addr) (l f r : V) (pl : Option (Px Str)), vs = [.ref x, l, f, r] ∧ Same F H ∧ F x = none ∧ H x = some (.ins (HIS K) dx []) ∧ LetsIn K F l pl ∧
  ∀ (H' : Hp) (x0 x3 : V), (∀ b o, b ≠ x → H b = some o → H' b = some o) → H' x = some (.ins (HIS K) dx [("lets", x0), ("facts", f), ("rates", r), ("known", x3)]) → Q .non H'
theorem gk_History (T : Txt K mg) : Gk P w K mg base CX0 1 (HIS K) p_History_init (spHiInit K) := by
  refine Gk.mk' T.df_History_init T.mk_History (fun _ _ _ _ _ _ us hl => match us, hl with | [_, _, _, _], _ => rfl) fun fd F => ?_
  refine F.ok sc_History_init (fun vs H Q E h => ?_) (fun cdv A outer s H vs Q E hr h => ?_)
  · obtain ⟨_, _, _, _, _, _, _, rfl, _⟩ := h
    rfl
  · obtain ⟨F, x, dx, l, f, r, pl, rfl, hs, fx, hx, ⟨a, vl, rfl, ha, hl⟩, k⟩ := h
    refine ⟨_, PSs.nox (pss_cons (ps_fld (pv 0) (pe_callTy (call_dictP rfl) (by rfl) T.f_dict (by decide +kernel) (pa_cons (pv 1) pa_nil)) rfl)
  (pss_cons (ps_fld (pv 0) (pv 2) rfl)
  (pss_cons (ps_fld (pv 0) (pv 3) rfl)
  (pss_one (ps_fld (pv 0) pe_dnewK rfl))))), ?_⟩
    have step : ∀ (kvs : KVs) (ps : List Addr), vl = ps.map V.ref → Paired (fun p kv => SqT K H p [kV kv.1, kv.2]) ps kvs → ∃ (a' : Addr) (ps : List Addr) (kvs : KVs), [V.ref a] = [.ref a'] ∧ SqL K H a' (ps.map V.ref) ∧ Paired (fun p kv => SqT K H p [kV kv.1, kv.2]) ps kvs ∧ True := by
      intro kvs ps e pr
      subst e
      exact ⟨a, ps, kvs, rfl, SqL.of (hs _ _ ha), pr, True.intro⟩
    have hps : ∃ (ps : List Addr) (kvs : KVs), vl = ps.map V.ref ∧ Paired (fun p kv => SqT K H p [kV kv.1, kv.2]) ps kvs := by
      cases pl with
      | none => exact ⟨[], [], hl, .nil⟩
      | some p =>
        obtain ⟨t, u, e1, e2, _⟩ := hl
        exact ⟨[t], [(Sum.inr "part", u)], e1, .cons (sq_t hs e2) .nil⟩
    obtain ⟨ps, kvs, rfl, pr⟩ := hps
    refine ⟨_, rfl, a, ps, kvs, rfl, SqL.of (hs _ _ ha), pr, fun p hp => ?_⟩
    have nx : x ≠ p := ne_of_none hx hp
    refine ⟨_, rfl, x, _, dx, _, rfl, by rw [upd_ne nx]; exact hx, T.c_History, T.n_History_lets, by simp, ?_⟩
    refine ⟨_, rfl, _, rfl, x, _, dx, _, rfl, upd_same, T.c_History, T.n_History_facts, Nat.lt_of_le_of_lt (pf (n := 0) (Nat.le_refl _)) (by decide), ?_⟩
    refine ⟨_, rfl, _, rfl, x, _, dx, _, rfl, upd_same, T.c_History, T.n_History_rates, Nat.lt_of_le_of_lt (pf (pf (n := 0) (Nat.le_refl _))) (by decide), ?_⟩
    refine fun q hq => ⟨_, rfl, x, _, dx, _, rfl, by rw [upd_ne (ne_of_none upd_same hq), upd_same], T.c_History, T.n_History_known, Nat.lt_of_le_of_lt (pf (pf (pf (n := 0) (Nat.le_refl _)))) (by decide), ?_⟩
    have nxq : x ≠ q := ne_of_none upd_same hq
    refine k _ (.ref p) (.ref q) (fun b o hb e => ?_) upd_same
    have h1 : b ≠ p := ne_of_none e hp
    have h2 : b ≠ q := ne_of_none (by rw [upd_ne hb, upd_ne hb, upd_ne hb, upd_ne h1]; exact e) hq
    rw [upd_ne hb, upd_ne h2, upd_ne hb, upd_ne hb, upd_ne hb, upd_ne h1]
    exact e
theorem tab_get {f : Str → Row} {N : Nat} {H F : Hp} {kvs : KVs} {l : Addr} (hK : DcK (pTab K f) F kvs N) (hs : Same F H) (hl : H l = none) (n : Str) :
    ∃ p ys, (valV kvs (Sum.inr n : Key)).getD (.ref l) = .ref p ∧ upd H l (.lst []) p = some (.lst ys) ∧ Paired (RF K F) ys (f n) := by
  have q := hK.2 n
  cases z : valV kvs (Sum.inr n : Key) with
  | none =>
    rw [z] at q
    have q : f n = [] := q
    exact ⟨l, [], rfl, upd_same, by rw [q]; exact .nil⟩
  | some u =>
    rw [z] at q
    obtain ⟨a, vs, rfl, h1, h2⟩ := q
    exact ⟨a, vs, rfl, by rw [upd_ne (ne_of_none (hs _ _ h1) hl)]; exact hs _ _ h1, h2⟩
theorem tab_at {f : Str → Row} {N : Nat} {F : Hp} {kvs : KVs} (hK : DcK (pTab K f) F kvs N) {n : Str} {i : Nat} {x : Rat} (e : (f n)[i]? = some x) :
    ∃ a vs v, valV kvs (Sum.inr n : Key) = some (.ref a) ∧ F a = some (.lst vs) ∧ vs[i]? = some v ∧ IsF K F v x := by
  have q := hK.2 n
  cases z : valV kvs (Sum.inr n : Key) with
  | none =>
    rw [z] at q
    have q : f n = [] := q
    rw [q] at e; simp at e
  | some u =>
    rw [z] at q
    obtain ⟨a, vs, rfl, h1, h2⟩ := q
    obtain ⟨v, hv, rv⟩ := pr_at h2 e
    exact ⟨a, vs, v, rfl, h1, hv, rv⟩
def ErrM (K : PySem.W.Frag) (H F : Hp) (E : XK) (m : Str × Nat) : Prop := ∀ d H' F', Fz N0 H F H' F' → H' d = some (.xd [("day", .int (m.2 : Nat)), ("name", .str m.1)]) → E (.ref (He.ga K "MissingRate")) (some d) H'
def spFact (K : PySem.W.Frag) : Sp := fun vs H Q _ => ∃ (F : Hp) (wv : V) (W : Wd Str) (n : Str) (day : Nat) (x : Rat), vs = [wv, .str n, .int (day : Nat)] ∧ Same F H ∧ HiF K F wv W ∧ (W.facts n)[day]? = some x ∧ Ret N0 H F (fun v F' => IsF K F' v x) Q
def spRate (K : PySem.W.Frag) : Sp := fun vs H Q E => ∃ (F : Hp) (wv : V) (W : Wd Str) (n : Str) (day : Nat), vs = [wv, .str n, .int (day : Nat)] ∧ Same F H ∧ HiF K F wv W ∧
  match (W.rates n)[day]? with
  | some x => Ret N0 H F (fun v F' => IsF K F' v x) Q
  | none => ErrM K H F E (n, day)
theorem gm_History_fact (T : Txt K mg) : Gm P w K mg base CX0 1 (HIS K) "fact" p_History_fact (spFact K) := by
  refine Gm.mk' T.df_History_fact T.m_History_fact (fun _ _ _ _ _ _ us hl => match us, hl with | [_, _, _], _ => rfl) fun fd F => ?_
  refine F.ok sc_History_fact (fun vs H Q E h => ?_) (fun cdv A outer s H vs Q E hr h => ?_)
  · obtain ⟨_, _, _, _, _, _, rfl, _⟩ := h
    rfl
  · obtain ⟨F, _, W, n, day, x, rfl, hs, ⟨wa, dx, x0, x3, vf, vr, rfl, hw, ⟨da, od, kvs, rfl, hd, hK⟩, _⟩, hx, k⟩ := h
    have hlt := (List.getElem?_eq_some_iff.mp hx).1
    refine ⟨_, PSs.nox (pss_cons (ps_if (pt_cmpR op_ge (pv 2) (pe_callB call_len_seq (by rfl) T.f_len (by decide +kernel) (pa_cons (pe_dget2 (hu_of hr) (pe_fld (pv 0) rfl) (pv 1) (pe_lst pa_nil) ⟨rfl, rfl, rfl, rfl⟩) pa_nil)) (nomark _)) pss_never pss_nil)
  (pss_one (ps_ret (pe_ix ix_list (pe_dget (hu_of hr) (pe_fld (pv 0) rfl) (pv 1) (fun _ _ => rfl)) (pv 2) (fun _ _ => rfl))))), ?_⟩
    refine ⟨_, rfl, _, rfl, wa, _, dx, _, _, rfl, hs _ _ hw, T.c_History, T.n_History_facts, rfl, da, rfl, .inl ⟨kvs, .inr ⟨od, hs _ _ hd⟩⟩, _, rfl, (by decide : 0 ≤ sizeLine), fun l hl => ?_⟩
    obtain ⟨p, ys, e1, e2, e3⟩ := tab_get hK hs hl n
    have z1 := Fz.raw (o := .lst []) hs hl
    refine ⟨_, dget_any (k := Sum.inr n) (.inr ⟨od, z1.same _ _ (hs _ _ hd)⟩), ?_⟩
    rw [e1]
    have ly := pr_len e3
    refine ⟨p, ys, rfl, .inl (SqL.of e2), _, _, rfl, rfl, _, rfl, ite2 (fun e => ?_) (fun e => ?_)⟩
    · have := of_decide_eq_true e
      omega
    · obtain ⟨a, vs, v, q1, q2, q3, q4⟩ := tab_at hK hx
      refine ⟨_, rfl, wa, _, dx, _, _, rfl, z1.sub _ _ hw, T.c_History, T.n_History_facts, rfl, _, rfl, da, _, rfl, dget_frz (z1.sub _ _ hd) q1, _, rfl, _, _, _, _, rfl, rfl, SqL.of (z1.sub _ _ q2), atI_nat q3, ?_⟩
      exact k _ _ _ z1 q4
theorem gm_History_rate (T : Txt K mg) : Gm P w K mg base (L2.CX P w) 3 (HIS K) "rate" p_History_rate (spRate K) := by
  refine Gm.mk' T.df_History_rate T.m_History_rate (fun _ _ _ _ _ _ us hl => match us, hl with | [_, _, _], _ => rfl) fun fd F => ?_
  refine F.ok sc_History_rate (fun vs H Q E h => ?_) (fun cdv A outer s H vs Q E hr h => ?_)
  · obtain ⟨_, _, _, _, _, rfl, _⟩ := h
    rfl
  · obtain ⟨F, _, W, n, day, rfl, hs, ⟨wa, dx, x0, x3, vf, vr, rfl, hw, _, ⟨da, od, kvs, rfl, hd, hK⟩⟩, k⟩ := h
    refine ⟨_, (pss_cons (ps_if (PW.pt (pw_or (pt_cmpR op_ge (pv 2) (pe_callB call_len_seq (by rfl) T.f_len (by decide +kernel) (pa_cons (pe_dget2 (hu_of hr) (pe_fld (pv 0) rfl) (pv 1) (pe_lst pa_nil) ⟨rfl, rfl, rfl, rfl⟩) pa_nil)) (nomark _)) (pw_or1 (pt_cmpR op_isN (pe_ix ix_list (pe_dget (hu_of hr) (pe_fld (pv 0) rfl) (pv 1) (fun _ _ => rfl)) (pv 2) (fun _ _ => rfl)) pe_non (nomark _))))) (pss_one (ps_raise rfl (takes_of rfl rfl rfl rfl) (pmk_g T.e_MissingRate (gx_MissingRate T) (hr.mono (by omega)) pass0 (by rfl) T.g_MissingRate (pa_cons (pv 1) (pa_cons (pv 2) pa_nil))))) pss_nil)
  (pss_one (ps_ret (pe_ix ix_list (pe_dget (hu_of hr) (pe_fld (pv 0) rfl) (pv 1) (fun _ _ => rfl)) (pv 2) (fun _ _ => rfl))))), ?_⟩
    refine ⟨_, rfl, _, rfl, wa, _, dx, _, _, rfl, hs _ _ hw, T.c_History, T.n_History_rates, rfl, da, rfl, .inl ⟨kvs, .inr ⟨od, hs _ _ hd⟩⟩, _, rfl, (by decide : 0 ≤ sizeLine), fun l hl => ?_⟩
    obtain ⟨p, ys, e1, e2, e3⟩ := tab_get hK hs hl n
    have z1 := Fz.raw (o := .lst []) hs hl
    refine ⟨_, dget_any (k := Sum.inr n) (.inr ⟨od, z1.same _ _ (hs _ _ hd)⟩), ?_⟩
    rw [e1]
    have ly := pr_len e3
    refine ⟨p, ys, rfl, .inl (SqL.of e2), _, _, rfl, rfl, _, rfl, ite2 (fun e => ?_) (fun e => ?_)⟩
    · have := of_decide_eq_true e
      have hn : (W.rates n)[day]? = none := List.getElem?_eq_none (by omega)
      rw [hn] at k
      refine iteT ⟨_, rfl, _, rfl, (by simp), mk_x rfl fun d hd' => k d _ F (z1.trans (Fz.raw z1.sub hd')) upd_same⟩
    · have hlt : day < (W.rates n).length := by
        have : ¬ ((ys.length : Int) ≤ (day : Int)) := fun z => e (decide_eq_true z)
        omega
      have hx : (W.rates n)[day]? = some (W.rates n)[day] := List.getElem?_eq_getElem hlt
      rw [hx] at k
      obtain ⟨a, vs, v, q1, q2, q3, q4⟩ := tab_at hK hx
      have q5 := q4
      obtain ⟨fa, rfl, _⟩ := q5
      have fin : ∀ R : V → Hp → Prop, R (.ref fa) (upd H l (.lst [])) → _ := fun R r => r
      refine ⟨_, rfl, wa, _, dx, _, _, rfl, z1.sub _ _ hw, T.c_History, T.n_History_rates, rfl, _, rfl, da, _, rfl, dget_frz (z1.sub _ _ hd) q1, _, rfl, _, _, _, _, rfl, rfl, SqL.of (z1.sub _ _ q2), atI_nat q3, rfl, _, rfl, iteF ?_⟩
      refine ⟨_, rfl, wa, _, dx, _, _, rfl, z1.sub _ _ hw, T.c_History, T.n_History_rates, rfl, _, rfl, da, _, rfl, dget_frz (z1.sub _ _ hd) q1, _, rfl, _, _, _, _, rfl, rfl, SqL.of (z1.sub _ _ q2), atI_nat q3, ?_⟩
      exact k _ _ _ z1 q4
def spCmp (K : PySem.W.Frag) : Sp := fun vs H Q _ => ∃ (F : Hp) (a b : V) (x y : Rat) (wo : CmpW), vs = [.str wo.str, a, b] ∧ Same F H ∧ IsF K F a x ∧ IsF K F b y ∧ Sm x ∧ Sm y ∧ Q (.bl (cmpB wo x y)) H
theorem g_combined (T : Txt K mg) : G P w K mg base CX0 6 "combined_evaluate" p_combined (spCmp K) := by
  refine G.mk' T.df_combined T.g_combined (fun _ _ _ _ _ _ us hl => match us, hl with | [_, _, _], _ => rfl) fun fd F => ?_
  refine F.ok sc_combined (fun vs H Q E h => ?_) (fun cdv A outer s H vs Q E hr h => ?_)
  · obtain ⟨_, _, _, _, _, _, rfl, _⟩ := h
    rfl
  · obtain ⟨F, a, b, x, y, wo, rfl, hs, ha, hb, sx, sy, k⟩ := h
    refine ⟨_, PSs.nox (pss_cons (ps_if (pt_cmpR op_eq (pv 0) pe_str (nomark _)) (pss_one (ps_ret (pe_g (g_plus T) (hr.mono (by omega)) (by rfl) pass0 (pa_cons (pv 1) (pa_cons (pv 2) pa_nil))))) pss_nil)
  (pss_cons (ps_if (pt_cmpR op_eq (pv 0) pe_str (nomark _)) (pss_one (ps_ret (pe_g (g_minus T) (hr.mono (by omega)) (by rfl) pass0 (pa_cons (pv 1) (pa_cons (pv 2) pa_nil))))) pss_nil)
  (pss_cons (ps_if (pt_cmpR op_eq (pv 0) pe_str (nomark _)) (pss_one (ps_ret (pe_g (g_times T) (hr.mono (by omega)) (by rfl) pass0 (pa_cons (pv 1) (pa_cons (pv 2) pa_nil))))) pss_nil)
  (pss_cons (ps_if (pt_cmpR op_eq (pv 0) pe_str (nomark _)) (pss_one (ps_ret (pe_g (g_smaller T) (hr.mono (by omega)) (by rfl) pass0 (pa_cons (pv 1) (pa_cons (pv 2) pa_nil))))) pss_nil)
  (pss_cons (ps_if (pt_cmpR op_eq (pv 0) pe_str (nomark _)) (pss_one (ps_ret (pe_g (g_greater T) (hr.mono (by omega)) (by rfl) pass0 (pa_cons (pv 1) (pa_cons (pv 2) pa_nil))))) pss_nil)
  (pss_cons (ps_if (pt_cmpR op_eq (pv 0) pe_str (nomark _)) (pss_one (ps_ret (pe_cmpR op_lt (pe_g (g_order T) (hr.mono (by omega)) (by rfl) pass0 (pa_cons (pv 1) (pa_cons (pv 2) pa_nil))) pe_int (nomark _)))) pss_nil)
  (pss_cons (ps_if (pt_cmpR op_eq (pv 0) pe_str (nomark _)) (pss_one (ps_ret (pe_cmpR op_le (pe_g (g_order T) (hr.mono (by omega)) (by rfl) pass0 (pa_cons (pv 1) (pa_cons (pv 2) pa_nil))) pe_int (nomark _)))) pss_nil)
  (pss_one (ps_ret (pe_cmpR (op_eqD hr.units) (pv 1) (pv 2) (nomark _))))))))))), ?_⟩
    have c1 := cmpI_spec x y
    cases wo with
    | less =>
      refine ⟨_, rfl, rfl, _, rfl, strF (by decide +kernel) ⟨_, rfl, rfl, _, rfl, strF (by decide +kernel) ⟨_, rfl, rfl, _, rfl, strF (by decide +kernel) ⟨_, rfl, rfl, _, rfl, strF (by decide +kernel) ⟨_, rfl, rfl, _, rfl, strF (by decide +kernel) ⟨_, rfl, rfl, _, rfl, strT rfl ?_⟩⟩⟩⟩⟩⟩
      refine ⟨_, rfl, _, rfl, F, a, b, x, y, rfl, hs, ha, hb, sx, sy, _, _, rfl, rfl, ?_⟩
      have e : decide (cmpI x y < 0) = cmpB .less x y := by
        show _ = decide (x < y)
        exact decide_eq_decide.mpr c1.1
      show Q (.bl (decide (cmpI x y < 0))) H
      rw [e]; exact k
    | atmost =>
      refine ⟨_, rfl, rfl, _, rfl, strF (by decide +kernel) ⟨_, rfl, rfl, _, rfl, strF (by decide +kernel) ⟨_, rfl, rfl, _, rfl, strF (by decide +kernel) ⟨_, rfl, rfl, _, rfl, strF (by decide +kernel) ⟨_, rfl, rfl, _, rfl, strF (by decide +kernel) ⟨_, rfl, rfl, _, rfl, strF (by decide +kernel) ⟨_, rfl, rfl, _, rfl, strT rfl ?_⟩⟩⟩⟩⟩⟩⟩
      refine ⟨_, rfl, _, rfl, F, a, b, x, y, rfl, hs, ha, hb, sx, sy, _, _, rfl, rfl, ?_⟩
      have e : decide (cmpI x y ≤ 0) = cmpB .atmost x y := by
        show _ = decide (x ≤ y)
        exact decide_eq_decide.mpr c1.2.2.1
      show Q (.bl (decide (cmpI x y ≤ 0))) H
      rw [e]; exact k
    | equal =>
      refine ⟨_, rfl, rfl, _, rfl, strF (by decide +kernel) ⟨_, rfl, rfl, _, rfl, strF (by decide +kernel) ⟨_, rfl, rfl, _, rfl, strF (by decide +kernel) ⟨_, rfl, rfl, _, rfl, strF (by decide +kernel) ⟨_, rfl, rfl, _, rfl, strF (by decide +kernel) ⟨_, rfl, rfl, _, rfl, strF (by decide +kernel) ⟨_, rfl, rfl, _, rfl, strF (by decide +kernel) ?_⟩⟩⟩⟩⟩⟩⟩
      refine ⟨_, rfl, _, rfl, frD x, frD y, dp_f (ha.up hs), dp_f (hb.up hs), shaped_of (frD_lay x) (by have := frD_depth x; omega), shaped_of (frD_lay y) (by have := frD_depth y; omega), ?_⟩
      show Q (.bl (PyData.eqv (frD x) (frD y))) H
      rw [frD_eqv]; exact k
end
end K3
end
section
set_option Elab.async false
set_option linter.all false
set_option maxRecDepth 100000
set_option exponentiation.threshold 100
namespace K3
open PySem PySem.Spec PyProof.Rows L2
/-! ### timed, evaluated, value -/
section
variable {P : Program} {w : World} {K : PySem.W.Frag} {mg : Str → Option Value} {base : Heap}
def AnsB (K : PySem.W.Frag) (H F : Hp) (Q : VK) (E : XK) : Ev Str Bool → Prop
  | .ok b => Ret N0 H F (fun v _ => v = .bl b) Q
  | .error m => ErrM K H F E m
def AnsR (K : PySem.W.Frag) (H F : Hp) (Q : VK) (E : XK) : Ev Str Rat → Prop
  | .ok x => Ret N0 H F (fun v F' => IsF K F' v x) Q
  | .error m => ErrM K H F E m
def spEv (K : PySem.W.Frag) (h : Nat) : Sp := fun vs H Q E => ∃ (F : Hp) (a wv : V) (W : Wd Str) (day : Nat), vs = [a, wv, .int (day : Nat)] ∧ Same F H ∧ HiF K F wv W ∧ WB W day ∧ 1 ≤ h ∧
  ((∃ l, LfIn K F a l ∧ l.Fit ∧ AnsR K H F Q E (lfv W day l)) ∨ ∃ c, TrIn K F a c ∧ c.Fit ∧ c.ht ≤ h ∧ AnsB K H F Q E (trv W c day))
def spTi (K : PySem.W.Frag) (h : Nat) : Sp := fun vs H Q E => ∃ (F : Hp) (a wv : V) (W : Wd Str) (day k : Nat) (wo : TimW) (c : Tr Str), vs = [wv, a, .int (day : Nat)] ∧ Same F H ∧ HiF K F wv W ∧ WB W day ∧
  TrIn K F a (.tim wo k c) ∧ k < 1000 ∧ c.Fit ∧ c.ht ≤ h ∧ AnsB K H F Q E (trv W (.tim wo k c) day)
theorem gm_timed (T : Txt K mg) {h : Nat} (ih : G P w K mg base (L2.CX P w) (20 + 2 * h) "evaluated" p_evaluated (spEv K h)) : Gm P w K mg base (L2.CX P w) (21 + 2 * h) (HIS K) "timed" p_History_timed (spTi K h) := by
  refine Gm.mk' T.df_History_timed T.m_History_timed (fun _ _ _ _ _ _ us hl => match us, hl with | [_, _, _], _ => rfl) fun fd F => ?_
  refine FnOk.mono (j := 20 + 2 * h + 1) ?_ (by omega)
  refine F.ok sc_History_timed (fun vs H Q E h => ?_) (fun cdv A outer s H vs Q E hr hh => ?_)
  · obtain ⟨_, _, _, _, _, _, _, _, rfl, _⟩ := h
    rfl
  · obtain ⟨F, a, wv, W, day, n, wo, c, rfl, hs, hi, wb, ⟨u, ⟨t, rfl, ht⟩, hc⟩, hn, hf, hht, k⟩ := hh
    have h1 : 1 ≤ h := Nat.le_trans (by cases c <;> simp only [Tr.ht] <;> omega) hht
    refine ⟨_, (pss_cons (ps_asg (pv 1) (pg_tup rfl (pgs_cons (pg_name (i := 3) sc_History_timed.nd rfl (Or.inl rfl)) (pgs_cons (pg_name (i := 4) sc_History_timed.nd rfl (Or.inl rfl)) (pgs_cons (pg_name (i := 5) sc_History_timed.nd rfl (Or.inl rfl)) pgs_nil)))))
  (pss_cons (ps_if (pt_cmpR op_eq (pv 3) pe_str (nomark _)) (pss_one (ps_ret (pe_and (pe_cmpR op_ge (pv 2) (pv 4) (nomark _)) (pe_one (pe_g ih (hr.mono (by omega)) (by rfl) (passes_call (takes_of rfl rfl rfl rfl) (fun _ _ _ _ h => h)) (pa_cons (pv 5) (pa_cons (pv 0) (pa_cons (pe_op op_sub (pv 2) (pv 4)) pa_nil)))))))) pss_nil)
  (pss_cons (ps_for (passes_of rfl) rfl (pi_range2 (by rfl) T.f_range (pa_cons (pe_callB (call_max2 rfl) (by rfl) T.f_max (by decide +kernel) (pa_cons pe_int (pa_cons (pe_op op_add (pe_op op_sub (pv 2) (pv 4)) pe_int) pa_nil))) (pa_cons (pe_op op_add (pv 2) pe_int) pa_nil))) (pg_name (i := 6) sc_History_timed.nd rfl (Or.inl rfl))
    (pss_one (ps_if (pt_cmpR op_eq (pe_g ih (hr.mono (by omega)) (by rfl) (passes_call (takes_of rfl rfl rfl rfl) (fun _ _ _ _ h => h)) (pa_cons (pv 5) (pa_cons (pv 0) (pa_cons (pv 6) pa_nil)))) (pe_cmpR op_eq (pv 3) pe_str (nomark _)) (nomark _)) (pss_one (ps_ret (pe_cmpR op_eq (pv 3) pe_str (nomark _)))) pss_nil)))
  (pss_one (ps_ret (pe_cmpR op_eq (pv 3) pe_str (nomark _))))))), ?_⟩
    refine ⟨_, rfl, t, _, rfl, sq_t hs ht, rfl, _, _, rfl, _, _, rfl, _, _, rfl, rfl, ?_⟩
    by_cases hwo : wo = .before
    case neg =>
      obtain ⟨e, q1, q2, q3, q4⟩ : ∃ e : Bool, decide (V.str wo.str = V.str "before") = false ∧ decide (V.str wo.str = V.str "ever") = e ∧ decide (V.str wo.str = V.str "always") = (!e) ∧ trv W (.tim wo n c) day = timGo (trv W c) e (days day n) := by
        cases wo with
        | before => exact absurd rfl hwo
        | ever => exact ⟨true, by decide +kernel, by decide +kernel, by decide +kernel, rfl⟩
        | always => exact ⟨false, by decide +kernel, by decide +kernel, by decide +kernel, rfl⟩
      refine ⟨_, rfl, rfl, _, rfl, ?_⟩
      rw [q1]
      refine iteF ?_
      have hlo : (if (day : Int) - (n : Int) + 1 > 0 then (day : Int) - (n : Int) + 1 else 0) = ((day + 1 - n : Nat) : Int) := by split <;> omega
      have hday := wb.sm
      refine ⟨_, rfl, _, rfl, _, _, rfl, rfl, _, _, rfl, rfl, _, _, rfl, _, rfl, _, _, rfl, rfl, ((day + 1 - n : Nat) : Int), ((day + 1 : Nat) : Int), by rw [hlo]; rfl, ⟨by omega, by omega, by omega, by omega⟩,
        for_range (lo := ((day + 1 - n : Nat) : Int)) (fun i σ H' => ∃ (s6 : Option V) (F' : Hp), σ = [some wv, some (.ref t), some (.int (day : Nat)), some (.str wo.str), some (.int (n : Nat)), some u, s6] ∧ Fz N0 H F H' F' ∧
          timGo (trv W c) e (List.range' (day + 1 - n + i) (day + 1 - (day + 1 - n) - i)) = timGo (trv W c) e (days day n)) ⟨none, F, rfl, Fz.refl hs, rfl⟩ (fun i σ H' hlt hp => ?_) (fun σ H' hp => ?_)⟩
      · obtain ⟨s6, F', rfl, z, eq⟩ := hp
        have hi' : i < day + 1 - (day + 1 - n) := by omega
        have er : List.range' (day + 1 - n + i) (day + 1 - (day + 1 - n) - i) = (day + 1 - n + i) :: List.range' (day + 1 - n + (i + 1)) (day + 1 - (day + 1 - n) - (i + 1)) := by
          have : day + 1 - (day + 1 - n) - i = (day + 1 - (day + 1 - n) - (i + 1)) + 1 := by omega
          rw [this, List.range'_succ]; rfl
        rw [er] at eq
        have eI : ((day + 1 - n : Nat) : Int) + (i : Int) = ((day + 1 - n + i : Nat) : Int) := by omega
        refine ⟨_, rfl, _, rfl, _, rfl, F', u, wv, W, day + 1 - n + i, ?_, z.sub, hi.up z.grow, wb.le (by omega), h1, .inr ⟨c, hc.up z.grow, hf, hht, ?_⟩⟩
        · rw [eI]; rfl
        · cases qv : trv W c (day + 1 - n + i) with
          | error m =>
            have q5 : timGo (trv W c) e (days day n) = .error m := by rw [← eq]; simp only [timGo, qv]
            rw [q4, q5] at k
            exact fun d H2 F2 z2 e2 => k d H2 F2 (z.trans z2) e2
          | ok b =>
            have q5 : timGo (trv W c) e (days day n) = if b = e then .ok b else timGo (trv W c) e (List.range' (day + 1 - n + (i + 1)) (day + 1 - (day + 1 - n) - (i + 1))) := by rw [← eq]; simp only [timGo, qv]
            intro v H2 F2 z2 ev
            subst ev
            refine ⟨_, rfl, rfl, rfl, _, rfl, ?_⟩
            rw [q2]
            refine ite2 (fun eb => ?_) (fun eb => ?_)
            · have eb : b = e := V.bl.inj (of_decide_eq_true eb)
              rw [q4, q5, if_pos eb] at k
              refine ⟨_, rfl, rfl, ?_⟩
              rw [q2, ← eb]
              exact k _ _ _ (z.trans z2) rfl
            · have eb : ¬ b = e := fun z => eb (decide_eq_true (by rw [z]))
              rw [if_neg eb] at q5
              exact ⟨_, F2, rfl, z.trans z2, q5.symm⟩
      · obtain ⟨s6, F', rfl, z, eq⟩ := hp
        have : day + 1 - (day + 1 - n) - ((((day + 1 : Nat) : Int) - ((day + 1 - n : Nat) : Int)).toNat) = 0 := by omega
        rw [this] at eq
        have eq : Except.ok (!e) = timGo (trv W c) e (days day n) := eq
        rw [q4, ← eq] at k
        refine ⟨_, rfl, rfl, ?_⟩
        rw [q3]
        exact k _ _ _ z rfl
    case pos =>
      subst hwo
      refine ⟨_, rfl, rfl, _, rfl, strT rfl ?_⟩
      refine ⟨_, rfl, _, rfl, _, _, rfl, rfl, _, rfl, ite2 (fun e => ?_) (fun e => ?_)⟩
      · have e : ¬ day < n := by have := of_decide_eq_true e; omega
        have ek : trv W (.tim .before n c) day = trv W c (day - n) := by simp only [trv]; rw [if_neg e]
        rw [ek] at k
        refine ⟨_, rfl, _, rfl, _, rfl, _, rfl, _, _, rfl, rfl, F, u, wv, W, day - n, ?_, hs, hi, wb.le (by omega), h1, .inr ⟨c, hc, hf, hht, k⟩⟩
        have : (day : Int) - (n : Int) = ((day - n : Nat) : Int) := by omega
        show [u, wv, V.int ((day : Int) - (n : Int))] = _
        rw [this]
      · have e : day < n := by
          have : ¬ ((n : Int) ≤ (day : Int)) := fun z => e (decide_eq_true z)
          omega
        have ek : trv W (.tim .before n c) day = .ok false := by simp only [trv]; rw [if_pos e]
        rw [ek] at k
        exact k _ _ _ (Fz.refl hs) rfl
end
end K3
end
section
set_option Elab.async false
set_option linter.all false
set_option maxRecDepth 100000
set_option exponentiation.threshold 100
namespace K3
open PySem PySem.Spec PyProof.Rows L2
/-! ### evaluated, value -/
theorem inF {A B : Prop} {b : Bool} (h : b = false) (q : B) : if b = true then A else B := by rw [h]; exact iteF q
theorem inT {A B : Prop} {b : Bool} (h : b = true) (q : A) : if b = true then A else B := by rw [h]; exact iteT q
theorem smH : Sm (1 / 100) := ⟨by decide +kernel, by decide +kernel⟩
section
variable {P : Program} {w : World} {K : PySem.W.Frag} {mg : Str → Option Value} {base : Heap}
theorem isHUN (T : Txt K mg) (F : Hp) : IsF K F (.ref (He.ga K "HUNDREDTH")) (1 / 100) := by
  have e : (1 / 100 : Rat).num = 1 ∧ (1 / 100 : Rat).den = 100 := by decide +kernel
  refine ⟨_, rfl, ?_⟩
  rw [e.1, e.2]
  exact T.t_HUNDREDTH F
theorem ansB_on {H F H' F' : Hp} {Q : VK} {E : XK} {r : Ev Str Bool} (z : Fz N0 H F H' F') (k : AnsB K H F Q E r) : AnsB K H' F' Q E r := by
  cases r with
  | ok b => exact fun v H2 F2 z2 e => k v H2 F2 (z.trans z2) e
  | error m => exact fun d H2 F2 z2 e => k d H2 F2 (z.trans z2) e
theorem ansR_on {H F H' F' : Hp} {Q : VK} {E : XK} {r : Ev Str Rat} (z : Fz N0 H F H' F') (k : AnsR K H F Q E r) : AnsR K H' F' Q E r := by
  cases r with
  | ok b => exact fun v H2 F2 z2 e => k v H2 F2 (z.trans z2) e
  | error m => exact fun d H2 F2 z2 e => k d H2 F2 (z.trans z2) e
theorem ev_succ (T : Txt K mg) {h : Nat} (ih : G P w K mg base (L2.CX P w) (20 + 2 * h) "evaluated" p_evaluated (spEv K h)) : G P w K mg base (L2.CX P w) (20 + 2 * (h + 1)) "evaluated" p_evaluated (spEv K (h + 1)) := by
  have it := gm_timed T ih
  refine G.mk' T.df_evaluated T.g_evaluated (fun _ _ _ _ _ _ us hl => match us, hl with | [_, _, _], _ => rfl) fun fd F => ?_
  refine FnOk.mono (j := 21 + 2 * h + 1) ?_ (by omega)
  refine F.ok sc_evaluated (fun vs H Q E h => ?_) (fun cdv A outer s H vs Q E hr hh => ?_)
  · obtain ⟨_, _, _, _, _, rfl, _⟩ := h
    rfl
  obtain ⟨F, a, wv, W, day, rfl, hs, hi, wb, _, hh⟩ := hh
  have hi' := hi
  obtain ⟨wa, dx, x0, x3, vf, vr, rfl, hw, _, _⟩ := hi'
  have hp : ∀ c : Tr Str, c.ht ≤ h → 1 ≤ h := fun c hc => Nat.le_trans (by cases c <;> simp only [Tr.ht] <;> omega) hc
  refine ⟨_, (pss_cons (ps_set (i := 3) sc_evaluated.nd rfl (.inl rfl) (pe_ix ix_tup (pv 0) pe_int (fun _ _ => rfl)))
  (pss_cons (ps_if (pt_cmpR op_in_seq (pv 3) (pe_tup (pa_cons pe_str (pa_cons pe_str pa_nil))) (by rfl)) (pss_one (ps_ret (pe_ix ix_tup (pv 0) pe_int (fun _ _ => rfl)))) pss_nil)
  (pss_cons (ps_if (pt_cmpR op_eq (pv 3) pe_str (nomark _)) (pss_one (ps_ret (pe_g (g_times T) (hr.mono (by omega)) (by rfl) pass0 (pa_cons (pe_ix ix_tup (pv 0) pe_int (fun _ _ => rfl)) (pa_cons (pe_cst T.g_HUNDREDTH (by rfl)) pa_nil))))) pss_nil)
  (pss_cons (ps_if (pt_cmpR op_eq (pv 3) pe_str (nomark _)) (pss_one (ps_ret (pe_gm (pv 1) T.c_History (gm_History_fact T) (hr.mono (by omega)) pass0 (pa_cons (pe_ix ix_tup (pv 0) pe_int (fun _ _ => rfl)) (pa_cons (pv 2) pa_nil))))) pss_nil)
  (pss_cons (ps_if (pt_cmpR op_eq (pv 3) pe_str (nomark _)) (pss_one (ps_ret (pe_gm (pv 1) T.c_History (gm_History_rate T) (hr.mono (by omega)) (passes_call (takes_of rfl rfl rfl rfl) (fun _ _ _ _ h => h)) (pa_cons (pe_ix ix_tup (pv 0) pe_int (fun _ _ => rfl)) (pa_cons (pv 2) pa_nil))))) pss_nil)
  (pss_cons (ps_if (pt_cmpR op_eq (pv 3) pe_str (nomark _)) pss_never pss_nil)
  (pss_cons (ps_if (pt_cmpR op_in_seq (pv 3) (pe_tup (pa_cons pe_str (pa_cons pe_str pa_nil))) (by rfl)) (pss_one (ps_ret (pe_cmpR op_eq (pv 3) pe_str (nomark _)))) pss_nil)
  (pss_cons (ps_if (pt_cmpR op_in_seq (pv 3) (pe_cst T.g_TIMED (by rfl)) (by rfl)) (pss_one (ps_ret (pe_gm (pv 1) T.c_History it (hr.mono (by omega)) (passes_call (takes_of rfl rfl rfl rfl) (fun _ _ _ _ h => h)) (pa_cons (pv 0) (pa_cons (pv 2) pa_nil))))) pss_nil)
  (pss_cons (ps_set (i := 4) sc_evaluated.nd rfl (.inl rfl) (pe_g ih (hr.mono (by omega)) (by rfl) (passes_call (takes_of rfl rfl rfl rfl) (fun _ _ _ _ h => h)) (pa_cons (pe_ix ix_tup (pv 0) pe_int (fun _ _ => rfl)) (pa_cons (pv 1) (pa_cons (pv 2) pa_nil)))))
  (pss_cons (ps_if (pt_cmpR op_eq (pv 3) pe_str (nomark _)) (pss_one (ps_ret (pe_not (pv 4)))) pss_nil)
  (pss_cons (ps_if (pt_cmpR op_eq (pv 3) pe_str (nomark _)) pss_never pss_nil)
  (pss_cons (ps_if (PW.pt (pw_and (pt_cmpR op_eq (pv 3) pe_str (nomark _)) (pw_and1 (pt_not (pt_val (pv 4)))))) (pss_one (ps_ret pe_bl)) pss_nil)
  (pss_cons (ps_if (PW.pt (pw_and (pt_cmpR op_eq (pv 3) pe_str (nomark _)) (pw_and1 (pt_val (pv 4))))) (pss_one (ps_ret pe_bl)) pss_nil)
  (pss_cons (ps_set (i := 5) sc_evaluated.nd rfl (.inl rfl) (pe_g ih (hr.mono (by omega)) (by rfl) (passes_call (takes_of rfl rfl rfl rfl) (fun _ _ _ _ h => h)) (pa_cons (pe_ix ix_tup (pv 0) pe_int (fun _ _ => rfl)) (pa_cons (pv 1) (pa_cons (pv 2) pa_nil)))))
  (pss_cons (ps_if (pt_cmpR op_in_seq (pv 3) (pe_tup (pa_cons pe_str (pa_cons pe_str pa_nil))) (by rfl)) (pss_one (ps_ret (pv 5))) pss_nil)
  (pss_one (ps_ret (pe_g (g_combined T) (hr.mono (by omega)) (by rfl) pass0 (pa_cons (pv 3) (pa_cons (pv 4) (pa_cons (pv 5) pa_nil))))))))))))))))))))), ?_⟩
  rcases hh with ⟨l, hl, hf, k⟩ | ⟨c, hc, hf, hht, k⟩
  · -- leaves
    cases l with
    | pct x =>
      obtain ⟨u, ⟨t, rfl, ht⟩, hu⟩ := hl
      refine ⟨_, rfl, t, _, _, _, rfl, rfl, sq_t hs ht, rfl, _, rfl, two_ok, fun p1 hp1 => ?_⟩
      have z1 := Fz.raw (o := .tup [.str "number", .str "money"]) hs hp1
      refine ⟨p1, _, rfl, .inr (.inl (.inl upd_same)), rfl, rfl, _, rfl, inF (by decide +kernel) ?_⟩
      refine ⟨_, rfl, rfl, _, rfl, strT rfl ?_⟩
      refine ⟨_, rfl, t, _, _, _, rfl, rfl, sq_t z1.sub ht, rfl, F, _, _, x, 1 / 100, rfl, z1.sub, hu, isHUN T F, ⟨hf.1, smH⟩, fun v H2 F2 z2 hv => k _ _ _ (z1.trans z2) hv⟩
    | num x =>
      obtain ⟨u, ⟨t, rfl, ht⟩, hu⟩ := hl
      refine ⟨_, rfl, t, _, _, _, rfl, rfl, sq_t hs ht, rfl, _, rfl, two_ok, fun p1 hp1 => ?_⟩
      have z1 := Fz.raw (o := .tup [.str "number", .str "money"]) hs hp1
      refine ⟨p1, _, rfl, .inr (.inl (.inl upd_same)), rfl, rfl, _, rfl, inT (by decide +kernel) ?_⟩
      refine ⟨_, rfl, t, _, _, _, rfl, rfl, sq_t z1.sub ht, rfl, k _ _ _ z1 hu⟩
    | fact n =>
      obtain ⟨t, rfl, ht⟩ := hl
      refine ⟨_, rfl, t, _, _, _, rfl, rfl, sq_t hs ht, rfl, _, rfl, two_ok, fun p1 hp1 => ?_⟩
      have z1 := Fz.raw (o := .tup [.str "number", .str "money"]) hs hp1
      refine ⟨p1, _, rfl, .inr (.inl (.inl upd_same)), rfl, rfl, _, rfl, inF (by decide +kernel) ?_⟩
      refine ⟨_, rfl, rfl, _, rfl, strF (by decide +kernel) ?_⟩
      refine ⟨_, rfl, rfl, _, rfl, strT rfl ?_⟩
      have hx : (W.facts n)[day]? = some ((W.facts n)[day]'(wb.lo n hf)) := List.getElem?_eq_getElem (wb.lo n hf)
      simp only [lfv, hx] at k
      refine ⟨_, rfl, wa, dx, _, rfl, z1.sub _ _ hw, rfl, _, rfl, t, _, _, _, rfl, rfl, sq_t z1.sub ht, rfl, _, rfl, F, _, W, n, day, _, rfl, z1.sub, hi, hx, fun v H2 F2 z2 hv => k _ _ _ (z1.trans z2) hv⟩
    | rate n =>
      obtain ⟨t, rfl, ht⟩ := hl
      refine ⟨_, rfl, t, _, _, _, rfl, rfl, sq_t hs ht, rfl, _, rfl, two_ok, fun p1 hp1 => ?_⟩
      have z1 := Fz.raw (o := .tup [.str "number", .str "money"]) hs hp1
      refine ⟨p1, _, rfl, .inr (.inl (.inl upd_same)), rfl, rfl, _, rfl, inF (by decide +kernel) ?_⟩
      refine ⟨_, rfl, rfl, _, rfl, strF (by decide +kernel) ?_⟩
      refine ⟨_, rfl, rfl, _, rfl, strF (by decide +kernel) ?_⟩
      refine ⟨_, rfl, rfl, _, rfl, strT rfl ?_⟩
      refine ⟨_, rfl, wa, dx, _, rfl, z1.sub _ _ hw, rfl, _, rfl, t, _, _, _, rfl, rfl, sq_t z1.sub ht, rfl, _, rfl, F, _, W, n, day, rfl, z1.sub, hi, ?_⟩
      simp only [lfv] at k
      cases q : (W.rates n)[day]? with
      | none => rw [q] at k; exact fun d H2 F2 z2 e2 => k d H2 F2 (z1.trans z2) e2
      | some x => rw [q] at k; exact fun v H2 F2 z2 hv => k _ _ _ (z1.trans z2) hv
  · -- truths
    have h1 : 1 ≤ h + 1 := by omega
    cases c with
    | tru =>
      obtain ⟨t, rfl, ht⟩ := hc
      refine ⟨_, rfl, t, _, _, _, rfl, rfl, sq_t hs ht, rfl, _, rfl, two_ok, fun p1 hp1 => ?_⟩
      have z1 := Fz.raw (o := .tup [.str "number", .str "money"]) hs hp1
      refine ⟨p1, _, rfl, .inr (.inl (.inl upd_same)), rfl, rfl, _, rfl, inF (by decide +kernel) ?_⟩
      refine ⟨_, rfl, rfl, _, rfl, strF (by decide +kernel) ?_⟩
      refine ⟨_, rfl, rfl, _, rfl, strF (by decide +kernel) ?_⟩
      refine ⟨_, rfl, rfl, _, rfl, strF (by decide +kernel) ?_⟩
      refine ⟨_, rfl, rfl, _, rfl, strF (by decide +kernel) ?_⟩
      refine ⟨_, rfl, two_ok, fun p2 hp2 => ?_⟩
      have z2 := z1.trans (Fz.raw (o := .tup [.str "true", .str "false"]) z1.sub hp2)
      refine ⟨p2, _, rfl, .inr (.inl (.inl upd_same)), rfl, rfl, _, rfl, inT (by decide +kernel) ?_⟩
      refine ⟨_, rfl, rfl, ?_⟩
      exact k _ _ _ z2 (by rfl)
    | fls =>
      obtain ⟨t, rfl, ht⟩ := hc
      refine ⟨_, rfl, t, _, _, _, rfl, rfl, sq_t hs ht, rfl, _, rfl, two_ok, fun p1 hp1 => ?_⟩
      have z1 := Fz.raw (o := .tup [.str "number", .str "money"]) hs hp1
      refine ⟨p1, _, rfl, .inr (.inl (.inl upd_same)), rfl, rfl, _, rfl, inF (by decide +kernel) ?_⟩
      refine ⟨_, rfl, rfl, _, rfl, strF (by decide +kernel) ?_⟩
      refine ⟨_, rfl, rfl, _, rfl, strF (by decide +kernel) ?_⟩
      refine ⟨_, rfl, rfl, _, rfl, strF (by decide +kernel) ?_⟩
      refine ⟨_, rfl, rfl, _, rfl, strF (by decide +kernel) ?_⟩
      refine ⟨_, rfl, two_ok, fun p2 hp2 => ?_⟩
      have z2 := z1.trans (Fz.raw (o := .tup [.str "true", .str "false"]) z1.sub hp2)
      refine ⟨p2, _, rfl, .inr (.inl (.inl upd_same)), rfl, rfl, _, rfl, inT (by decide +kernel) ?_⟩
      refine ⟨_, rfl, rfl, ?_⟩
      exact k _ _ _ z2 (congrArg V.bl (by decide +kernel))
    | tim wo n c =>
      have hc' := hc
      obtain ⟨u, ⟨t, rfl, ht⟩, hc⟩ := hc
      have hsub : c.ht ≤ h := by simp only [Tr.ht] at hht; omega
      have wn : wo.str ≠ "percent" ∧ wo.str ≠ "fact" ∧ wo.str ≠ "rate" ∧ wo.str ≠ "name" ∧ inV (.str wo.str) [.str "number", .str "money"] = false ∧ inV (.str wo.str) [.str "true", .str "false"] = false ∧ inV (.str wo.str) [.str "ever", .str "always", .str "before"] = true := by cases wo <;> decide +kernel
      refine ⟨_, rfl, t, _, _, _, rfl, rfl, sq_t hs ht, rfl, _, rfl, two_ok, fun p1 hp1 => ?_⟩
      have z1 := Fz.raw (o := .tup [.str "number", .str "money"]) hs hp1
      refine ⟨p1, _, rfl, .inr (.inl (.inl upd_same)), rfl, rfl, _, rfl, inF (wn.2.2.2.2.1) ?_⟩
      refine ⟨_, rfl, rfl, _, rfl, strF wn.1 ?_⟩
      refine ⟨_, rfl, rfl, _, rfl, strF wn.2.1 ?_⟩
      refine ⟨_, rfl, rfl, _, rfl, strF wn.2.2.1 ?_⟩
      refine ⟨_, rfl, rfl, _, rfl, strF wn.2.2.2.1 ?_⟩
      refine ⟨_, rfl, two_ok, fun p2 hp2 => ?_⟩
      have z2 := z1.trans (Fz.raw (o := .tup [.str "true", .str "false"]) z1.sub hp2)
      refine ⟨p2, _, rfl, .inr (.inl (.inl upd_same)), rfl, rfl, _, rfl, inF (wn.2.2.2.2.2.1) ?_⟩
      refine ⟨_, rfl, _, _, rfl, .inr (T.t_TIMED _), rfl, rfl, _, rfl, inT (wn.2.2.2.2.2.2) ?_⟩
      refine ⟨_, rfl, wa, dx, _, rfl, z2.sub _ _ hw, rfl, _, rfl, _, rfl, F, _, _, W, day, n, wo, c, rfl, z2.sub, hi, wb, hc', hf.1, hf.2, hsub, ansB_on z2 k⟩
    | not c =>
      obtain ⟨u, ⟨t, rfl, ht⟩, hc⟩ := hc
      have hsub : c.ht ≤ h := by simp only [Tr.ht] at hht; omega
      refine ⟨_, rfl, t, _, _, _, rfl, rfl, sq_t hs ht, rfl, _, rfl, two_ok, fun p1 hp1 => ?_⟩
      have z1 := Fz.raw (o := .tup [.str "number", .str "money"]) hs hp1
      refine ⟨p1, _, rfl, .inr (.inl (.inl upd_same)), rfl, rfl, _, rfl, inF (by decide +kernel) ?_⟩
      refine ⟨_, rfl, rfl, _, rfl, strF (by decide +kernel) ?_⟩
      refine ⟨_, rfl, rfl, _, rfl, strF (by decide +kernel) ?_⟩
      refine ⟨_, rfl, rfl, _, rfl, strF (by decide +kernel) ?_⟩
      refine ⟨_, rfl, rfl, _, rfl, strF (by decide +kernel) ?_⟩
      refine ⟨_, rfl, two_ok, fun p2 hp2 => ?_⟩
      have z2 := z1.trans (Fz.raw (o := .tup [.str "true", .str "false"]) z1.sub hp2)
      refine ⟨p2, _, rfl, .inr (.inl (.inl upd_same)), rfl, rfl, _, rfl, inF (by decide +kernel) ?_⟩
      refine ⟨_, rfl, _, _, rfl, .inr (T.t_TIMED _), rfl, rfl, _, rfl, inF (by decide +kernel) ?_⟩
      refine ⟨_, rfl, t, _, _, _, rfl, rfl, sq_t z2.sub ht, rfl, _, rfl, _, rfl, F, u, _, W, day, rfl, z2.sub, hi, wb, hp c hsub, .inr ⟨c, hc, hf, hsub, ?_⟩⟩
      simp only [trv] at k
      cases q : trv W c day with
      | error m => rw [q] at k; exact fun d H2 F2 z3 e2 => k d H2 F2 (z2.trans z3) e2
      | ok b =>
        rw [q] at k
        intro v H2 F2 z3 ev
        subst ev
        refine ⟨_, rfl, rfl, _, rfl, strT rfl ?_⟩
        exact ⟨_, rfl, _, rfl, k _ _ _ (z2.trans z3) rfl⟩
    | and c d =>
      obtain ⟨u, u2, ⟨t, rfl, ht⟩, hc, hd⟩ := hc
      have hsub : c.ht ≤ h ∧ d.ht ≤ h := by simp only [Tr.ht] at hht; omega
      refine ⟨_, rfl, t, _, _, _, rfl, rfl, sq_t hs ht, rfl, _, rfl, two_ok, fun p1 hp1 => ?_⟩
      have z1 := Fz.raw (o := .tup [.str "number", .str "money"]) hs hp1
      refine ⟨p1, _, rfl, .inr (.inl (.inl upd_same)), rfl, rfl, _, rfl, inF (by decide +kernel) ?_⟩
      refine ⟨_, rfl, rfl, _, rfl, strF (by decide +kernel) ?_⟩
      refine ⟨_, rfl, rfl, _, rfl, strF (by decide +kernel) ?_⟩
      refine ⟨_, rfl, rfl, _, rfl, strF (by decide +kernel) ?_⟩
      refine ⟨_, rfl, rfl, _, rfl, strF (by decide +kernel) ?_⟩
      refine ⟨_, rfl, two_ok, fun p2 hp2 => ?_⟩
      have z2 := z1.trans (Fz.raw (o := .tup [.str "true", .str "false"]) z1.sub hp2)
      refine ⟨p2, _, rfl, .inr (.inl (.inl upd_same)), rfl, rfl, _, rfl, inF (by decide +kernel) ?_⟩
      refine ⟨_, rfl, _, _, rfl, .inr (T.t_TIMED _), rfl, rfl, _, rfl, inF (by decide +kernel) ?_⟩
      refine ⟨_, rfl, t, _, _, _, rfl, rfl, sq_t z2.sub ht, rfl, _, rfl, _, rfl, F, u, _, W, day, rfl, z2.sub, hi, wb, hp c hsub.1, .inr ⟨c, hc, hf.1, hsub.1, ?_⟩⟩
      simp only [trv] at k
      cases q : trv W c day with
      | error m => rw [q] at k; exact fun d H2 F2 z3 e2 => k d H2 F2 (z2.trans z3) e2
      | ok b =>
        rw [q] at k
        intro v H2 F2 z3 ev
        subst ev
        have z4 := z2.trans z3
        refine ⟨_, rfl, rfl, _, rfl, strF (by decide +kernel) ?_⟩
        refine ⟨_, rfl, rfl, _, rfl, strF (by decide +kernel) ?_⟩
        refine ⟨_, rfl, rfl, _, rfl, strT rfl ⟨_, rfl, b, rfl, ?_⟩⟩
        cases b with
        | false => exact iteT (k _ _ _ z4 rfl)
        | true =>
          refine iteF ?_
          refine ⟨_, rfl, rfl, _, rfl, strF (by decide +kernel) (iteF ?_)⟩
          refine ⟨_, rfl, t, _, _, _, rfl, rfl, sq_t (z4.grow.trans z4.sub) ht, rfl, _, rfl, _, rfl, F2, u2, _, W, day, rfl, z4.sub, hi.up z4.grow, wb, hp d hsub.2, .inr ⟨d, hd.up z4.grow, hf.2, hsub.2, ?_⟩⟩
          cases q2 : trv W d day with
          | error m => simp only [q2] at k; exact fun d H3 F3 z5 e2 => k d H3 F3 (z4.trans z5) e2
          | ok b2 =>
            simp only [q2] at k
            intro v H3 F3 z5 ev
            subst ev
            have z6 := z4.trans z5
            refine ⟨_, rfl, two_ok, fun p3 hp3 => ?_⟩
            have z7 := z6.trans (Fz.raw (o := .tup [.str "and", .str "or"]) z6.sub hp3)
            exact ⟨p3, _, rfl, .inr (.inl (.inl upd_same)), rfl, rfl, _, rfl, inT (by decide +kernel) ⟨_, rfl, k _ _ _ z7 rfl⟩⟩
    | or c d =>
      obtain ⟨u, u2, ⟨t, rfl, ht⟩, hc, hd⟩ := hc
      have hsub : c.ht ≤ h ∧ d.ht ≤ h := by simp only [Tr.ht] at hht; omega
      refine ⟨_, rfl, t, _, _, _, rfl, rfl, sq_t hs ht, rfl, _, rfl, two_ok, fun p1 hp1 => ?_⟩
      have z1 := Fz.raw (o := .tup [.str "number", .str "money"]) hs hp1
      refine ⟨p1, _, rfl, .inr (.inl (.inl upd_same)), rfl, rfl, _, rfl, inF (by decide +kernel) ?_⟩
      refine ⟨_, rfl, rfl, _, rfl, strF (by decide +kernel) ?_⟩
      refine ⟨_, rfl, rfl, _, rfl, strF (by decide +kernel) ?_⟩
      refine ⟨_, rfl, rfl, _, rfl, strF (by decide +kernel) ?_⟩
      refine ⟨_, rfl, rfl, _, rfl, strF (by decide +kernel) ?_⟩
      refine ⟨_, rfl, two_ok, fun p2 hp2 => ?_⟩
      have z2 := z1.trans (Fz.raw (o := .tup [.str "true", .str "false"]) z1.sub hp2)
      refine ⟨p2, _, rfl, .inr (.inl (.inl upd_same)), rfl, rfl, _, rfl, inF (by decide +kernel) ?_⟩
      refine ⟨_, rfl, _, _, rfl, .inr (T.t_TIMED _), rfl, rfl, _, rfl, inF (by decide +kernel) ?_⟩
      refine ⟨_, rfl, t, _, _, _, rfl, rfl, sq_t z2.sub ht, rfl, _, rfl, _, rfl, F, u, _, W, day, rfl, z2.sub, hi, wb, hp c hsub.1, .inr ⟨c, hc, hf.1, hsub.1, ?_⟩⟩
      simp only [trv] at k
      cases q : trv W c day with
      | error m => rw [q] at k; exact fun d H2 F2 z3 e2 => k d H2 F2 (z2.trans z3) e2
      | ok b =>
        rw [q] at k
        intro v H2 F2 z3 ev
        subst ev
        have z4 := z2.trans z3
        refine ⟨_, rfl, rfl, _, rfl, strF (by decide +kernel) ?_⟩
        refine ⟨_, rfl, rfl, _, rfl, strF (by decide +kernel) ?_⟩
        refine ⟨_, rfl, rfl, _, rfl, strF (by decide +kernel) (iteF ?_)⟩
        refine ⟨_, rfl, rfl, _, rfl, strT rfl ⟨_, rfl, b, rfl, ?_⟩⟩
        cases b with
        | true => exact iteT (k _ _ _ z4 rfl)
        | false =>
          refine iteF ?_
          refine ⟨_, rfl, t, _, _, _, rfl, rfl, sq_t (z4.grow.trans z4.sub) ht, rfl, _, rfl, _, rfl, F2, u2, _, W, day, rfl, z4.sub, hi.up z4.grow, wb, hp d hsub.2, .inr ⟨d, hd.up z4.grow, hf.2, hsub.2, ?_⟩⟩
          cases q2 : trv W d day with
          | error m => simp only [q2] at k; exact fun d H3 F3 z5 e2 => k d H3 F3 (z4.trans z5) e2
          | ok b2 =>
            simp only [q2] at k
            intro v H3 F3 z5 ev
            subst ev
            have z6 := z4.trans z5
            refine ⟨_, rfl, two_ok, fun p3 hp3 => ?_⟩
            have z7 := z6.trans (Fz.raw (o := .tup [.str "and", .str "or"]) z6.sub hp3)
            exact ⟨p3, _, rfl, .inr (.inl (.inl upd_same)), rfl, rfl, _, rfl, inT (by decide +kernel) ⟨_, rfl, k _ _ _ z7 rfl⟩⟩
    | cmp wo x y =>
      obtain ⟨u, u2, ⟨t, rfl, ht⟩, hx, hy⟩ := hc
      have hsub : 1 ≤ h := by simp only [Tr.ht] at hht; omega
      have wn : wo.str ≠ "percent" ∧ wo.str ≠ "fact" ∧ wo.str ≠ "rate" ∧ wo.str ≠ "name" ∧ wo.str ≠ "not" ∧ wo.str ≠ "if" ∧ wo.str ≠ "and" ∧ wo.str ≠ "or" ∧ inV (.str wo.str) [.str "number", .str "money"] = false ∧ inV (.str wo.str) [.str "true", .str "false"] = false ∧ inV (.str wo.str) [.str "ever", .str "always", .str "before"] = false ∧ inV (.str wo.str) [.str "and", .str "or"] = false := by cases wo <;> decide +kernel
      obtain ⟨n0, n1, n2, n3, n4, n5, n6, n7, n8, n9, n10, n11⟩ := wn
      refine ⟨_, rfl, t, _, _, _, rfl, rfl, sq_t hs ht, rfl, _, rfl, two_ok, fun p1 hp1 => ?_⟩
      have z1 := Fz.raw (o := .tup [.str "number", .str "money"]) hs hp1
      refine ⟨p1, _, rfl, .inr (.inl (.inl upd_same)), rfl, rfl, _, rfl, inF (n8) ?_⟩
      refine ⟨_, rfl, rfl, _, rfl, strF n0 ?_⟩
      refine ⟨_, rfl, rfl, _, rfl, strF n1 ?_⟩
      refine ⟨_, rfl, rfl, _, rfl, strF n2 ?_⟩
      refine ⟨_, rfl, rfl, _, rfl, strF n3 ?_⟩
      refine ⟨_, rfl, two_ok, fun p2 hp2 => ?_⟩
      have z2 := z1.trans (Fz.raw (o := .tup [.str "true", .str "false"]) z1.sub hp2)
      refine ⟨p2, _, rfl, .inr (.inl (.inl upd_same)), rfl, rfl, _, rfl, inF (n9) ?_⟩
      refine ⟨_, rfl, _, _, rfl, .inr (T.t_TIMED _), rfl, rfl, _, rfl, inF (n10) ?_⟩
      refine ⟨_, rfl, t, _, _, _, rfl, rfl, sq_t z2.sub ht, rfl, _, rfl, _, rfl, F, u, _, W, day, rfl, z2.sub, hi, wb, hsub, .inl ⟨x, hx, hf.1, ?_⟩⟩
      simp only [trv] at k
      cases q : lfv W day x with
      | error m => rw [q] at k; exact fun d H2 F2 z3 e2 => k d H2 F2 (z2.trans z3) e2
      | ok x1 =>
        rw [q] at k
        intro v H2 F2 z3 hv
        have z4 := z2.trans z3
        refine ⟨_, rfl, rfl, _, rfl, strF n4 ?_⟩
        refine ⟨_, rfl, rfl, _, rfl, strF n5 ?_⟩
        refine ⟨_, rfl, rfl, _, rfl, strF n6 (iteF ?_)⟩
        refine ⟨_, rfl, rfl, _, rfl, strF n7 (iteF ?_)⟩
        refine ⟨_, rfl, t, _, _, _, rfl, rfl, sq_t (z4.grow.trans z4.sub) ht, rfl, _, rfl, _, rfl, F2, u2, _, W, day, rfl, z4.sub, hi.up z4.grow, wb, hsub, .inl ⟨y, hy.up z4.grow, hf.2, ?_⟩⟩
        cases q2 : lfv W day y with
        | error m => simp only [q2] at k; exact fun d H3 F3 z5 e2 => k d H3 F3 (z4.trans z5) e2
        | ok y1 =>
          simp only [q2] at k
          intro v2 H3 F3 z5 hv2
          have z6 := z4.trans z5
          refine ⟨_, rfl, two_ok, fun p3 hp3 => ?_⟩
          have z7 := z6.trans (Fz.raw (o := .tup [.str "and", .str "or"]) z6.sub hp3)
          refine ⟨p3, _, rfl, .inr (.inl (.inl upd_same)), rfl, rfl, _, rfl, inF n11 ?_⟩
          exact ⟨_, rfl, _, rfl, _, rfl, F3, _, _, x1, y1, wo, rfl, z7.sub, hv.up z5.grow, hv2, lfv_sm wb hf.1 q, lfv_sm wb hf.2 q2, k _ _ _ z7 rfl⟩
theorem g_evaluated (T : Txt K mg) : ∀ h : Nat, G P w K mg base (L2.CX P w) (20 + 2 * h) "evaluated" p_evaluated (spEv K h)
  | 0 => by
    refine G.mk' T.df_evaluated T.g_evaluated (fun _ _ _ _ _ _ us hl => match us, hl with | [_, _, _], _ => rfl) fun fd F => ?_
    refine FnOk.mono (j := 19 + 1) ?_ (by omega)
    refine F.ok sc_evaluated (fun vs H Q E h => ?_) (fun cdv A outer s H vs Q E hr hh => ?_)
    · obtain ⟨_, _, _, _, _, rfl, _⟩ := h
      rfl
    · obtain ⟨_, _, _, _, _, _, _, _, _, h1, _⟩ := hh
      omega
  | h + 1 => ev_succ T (g_evaluated T h)
/-- value: a leaf, or a truth -/
def spVal (K : PySem.W.Frag) (h : Nat) : Sp := fun vs H Q E => ∃ (F : Hp) (a l f r : V) (pl : Option (Px Str)) (W : Wd Str) (day : Nat), vs = [a, l, .int (day : Nat), f, r] ∧ Same F H ∧ LetsIn K F l pl ∧ TabF K 100 W.facts F f ∧ TabF K 100 W.rates F r ∧ WB W day ∧ 1 ≤ h ∧
  ((∃ l, LfIn K F a l ∧ l.Fit ∧ AnsR K H F Q E (lfv W day l)) ∨ ∃ c, TrIn K F a c ∧ c.Fit ∧ c.ht ≤ h ∧ AnsB K H F Q E (trv W c day))
theorem g_value (T : Txt K mg) (h : Nat) : G P w K mg base (L2.CX P w) (21 + 2 * h) "value" p_value (spVal K h) := by
  refine G.mk' T.df_value T.g_value (fun _ _ _ _ _ _ us hl => match us, hl with | [_, _, _, _, _], _ => rfl) fun fd F => ?_
  refine FnOk.mono (j := 20 + 2 * h + 1) ?_ (by omega)
  refine F.ok sc_value (fun vs H Q E h => ?_) (fun cdv A outer s H vs Q E hr hh => ?_)
  · obtain ⟨_, _, _, _, _, _, _, _, rfl, _⟩ := h
    rfl
  obtain ⟨F, a, l, f, r, pl, W, day, rfl, hs, hl, tf, tr, wb, h1, k⟩ := hh
  refine ⟨_, (pss_one (ps_ret (pe_g (g_evaluated T h) (hr.mono (by omega)) (by rfl) (passes_call (takes_of rfl rfl rfl rfl) (fun _ _ _ _ h => h)) (pa_cons (pv 0) (pa_cons (pe_gk (gk_History T) (hr.mono (by omega)) (by rfl) T.g_History pass0 (pa_cons (pv 1) (pa_cons (pv 3) (pa_cons (pv 4) pa_nil)))) (pa_cons (pv 2) pa_nil)))))), ?_⟩
  refine ⟨_, rfl, _, rfl, _, rfl, _, rfl, fun x dx hx hdx ne => ?_⟩
  have fx : F x = none := hs.free hx
  have fdx : F dx = none := hs.free hdx
  have hs1 : Same F (upd (upd H dx (.own x)) x (.ins (HIS K) dx [])) := fun b o e => by rw [upd_ne (ne_of_none e fx), upd_ne (ne_of_none e fdx)]; exact hs b o e
  refine ⟨F, x, dx, l, f, r, pl, rfl, hs1, fx, upd_same, hl, fun H2 x0 x3 k2 e2 => ⟨rfl, ?_⟩⟩
  have z := fz_made hs hx hdx k2 e2
  have hi : HiF K (upd F x (.ins (HIS K) dx [("lets", x0), ("facts", f), ("rates", r), ("known", x3)])) (.ref x) W := ⟨x, dx, x0, x3, f, r, rfl, upd_same, tf.up upTab z.grow, tr.up upTab z.grow⟩
  refine ⟨_, rfl, _, a, _, W, day, rfl, z.sub, hi, wb, h1, ?_⟩
  rcases k with ⟨l, h2, h3, k⟩ | ⟨c, h2, h3, h4, k⟩
  · exact .inl ⟨l, h2.up z.grow, h3, ansR_on z k⟩
  · exact .inr ⟨c, h2.up z.grow, h3, h4, ansB_on z k⟩
end
end K3
end
section
set_option Elab.async false
set_option linter.all false
set_option maxRecDepth 100000
set_option exponentiation.threshold 100
namespace K3
open PySem PySem.Spec PyProof.Rows L2
/-! ### readers -/
theorem cut_to (xs : List V) (n : Nat) : cutV xs none (some ((n : Nat) : Int)) = xs.take n := by
  have h1 : HT.sIx xs.length 0 none = 0 := rfl
  have h2 : HT.sIx xs.length xs.length (some ((n : Nat) : Int)) = min n xs.length := by
    unfold HT.sIx
    simp only
    split <;> omega
  unfold cutV
  rw [h1, h2, List.drop_zero, Nat.sub_zero]
  rcases Nat.le_total n xs.length with h | h
  · rw [Nat.min_eq_left h]
  · rw [Nat.min_eq_right h, List.take_of_length_le (Nat.le_refl _), List.take_of_length_le h]
section
variable {P : Program} {w : World} {K : PySem.W.Frag} {mg : Str → Option Value} {base : Heap}
abbrev REA (K : PySem.W.Frag) : Addr := He.ga K "Reader"
theorem tab_len {f : Str → Row} {F : Hp} {kvs : KVs} {N : Nat} {n : Str} (hK : DcK (pTab K f) F kvs N) (h : f n ≠ []) : (valV kvs (Sum.inr n : Key)).isSome = true := by
  have q := hK.2 n
  cases z : valV kvs (Sum.inr n : Key) with
  | none => rw [z] at q; exact absurd q h
  | some u => rfl
theorem tab_put {f : Str → Row} {F : Hp} {kvs : KVs} {N : Nat} {n : Str} {u : V} (h : DcK (pTab K f) F kvs N) (hu : RFs K F u (f n)) : DcK (pTab K f) F (putK kvs (Sum.inr n) u) (N + 1) := by
  refine ⟨h.1.put (by split <;> omega), fun m => ?_⟩
  rw [valV_putS]
  by_cases e : m = n
  · subst e
    rw [if_pos rfl]
    exact hu
  · rw [if_neg e]
    exact h.2 m
def ReF (K : PySem.W.Frag) (F : Hp) (v : V) (pl : Option (Px Str)) (W : Wd Str) (day : Nat) (ring : List Str) : Prop := ∃ a dx l f rg r, v = .ref a ∧
  F a = some (.ins (REA K) dx [("lets", l), ("day", .int (day : Nat)), ("facts", f), ("ring", rg), ("rates", r)]) ∧ LetsIn K F l pl ∧ TabF K 100 W.facts F f ∧ IsL RS F rg ring ∧ TabF K 100 W.rates F r
theorem ReF.up {F F' : Hp} {v : V} {pl : Option (Px Str)} {W : Wd Str} {day : Nat} {ring : List Str} (h : ReF K F v pl W day ring) (e : Same F F') : ReF K F' v pl W day ring := by
  obtain ⟨a, dx, l, f, rg, r, h0, h1, h2, h3, h4, h5⟩ := h
  exact ⟨a, dx, l, f, rg, r, h0, e _ _ h1, h2.up e, h3.up upTab e, IsL.up upS _ _ _ _ e h4, h5.up upTab e⟩
def spReInit (K : PySem.W.Frag) : Sp := fun vs H Q _ => ∃ (F : Hp) (x dx : Addr) (l f r rg : V) (R : Str → Row) (day : Nat) (ring : List Str), vs = [.ref x, l, .int (day : Nat), f, r, rg] ∧ Same F H ∧ F x = none ∧ H x = some (.ins (REA K) dx []) ∧ TabF K 50 R F r ∧ IsL RS F rg ring ∧
  ring.length ≤ 50 ∧ (∀ n ∈ ring, (R n).length = day) ∧ day < 1000 ∧
  ∀ (H' F' : Hp) (D : Addr) (kvs : KVs), Fz (fun b => b = x) H F H' F' → F' x = none → H' x = some (.ins (REA K) dx [("lets", l), ("day", .int (day : Nat)), ("facts", f), ("ring", rg), ("rates", .ref D)]) → H D = none → H' D = some (.dK kvs) → F' D = none → DcK (pTab K R) F' kvs 100 → Q .non H'
theorem gk_Reader (T : Txt K mg) : Gk P w K mg base CX0 1 (REA K) p_Reader_init (spReInit K) := by
  refine Gk.mk' T.df_Reader_init T.mk_Reader (fun _ _ _ _ _ _ us hl => match us, hl with | [_, _, _, _, _, _], _ => rfl) fun fd F => ?_
  refine F.ok sc_Reader_init (fun vs H Q E h => ?_) (fun cdv A outer s H vs Q E hr h => ?_)
  · obtain ⟨_, _, _, _, _, _, _, _, _, _, rfl, _⟩ := h
    rfl
  · obtain ⟨F, x, dx, l, f, r, rg, R, day, ring, rfl, hs, fx, hx, ⟨ra, od, kr, rfl, hra, hK⟩, ⟨ga, vg, rfl, hga, pg⟩, hrl, hrd, hday, k⟩ := h
    have evg : vg = ring.map V.str := paired_eq pg
    subst evg
    refine ⟨_, PSs.nox (pss_cons (ps_fld (pv 0) (pv 1) rfl)
  (pss_cons (ps_fld (pv 0) (pv 2) rfl)
  (pss_cons (ps_fld (pv 0) (pv 3) rfl)
  (pss_cons (ps_fld (pv 0) (pv 5) rfl)
  (pss_cons (ps_fld (pv 0) (pe_dc (own := [("name", 6)]) (g := gName 6) (tt := tYes) rfl sc_Reader_init.nd (pi_keys (pv 4)) (blkOk_by (own := [("name", 6)]) (N := n_Reader_init) (sc := defScope s_Reader_init) (by decide +kernel)) (fun _ _ _ _ _ => (pg_name (i := 6) sc_Reader_init.nd rfl (Or.inl rfl))) (fun _ _ _ _ _ => pts_nil) (fun _ _ _ _ _ => (pv 6)) (fun _ _ _ _ _ => (pe_dget (hu_of hr) (pv 4) (pv 6) (fun _ _ => rfl)))) rfl)
  (pss_one (ps_for PassesOwn.never rfl (pi_list (pv 5)) (pg_name (i := 6) sc_Reader_init.nd rfl (Or.inl rfl))
    (pss_one (ps_dput (hu_of hr) (pe_fld (pv 0) rfl) (pv 6) (pe_slice sl_list (pe_dget2 (hu_of hr) (pv 4) (pv 6) (pe_lst pa_nil) ⟨rfl, rfl, rfl, rfl⟩) po_none (po_some (pv 2))) rfl))))))))), ?_⟩
    refine ⟨_, rfl, _, rfl, x, _, dx, _, rfl, hx, T.c_Reader, T.n_Reader_lets, by simp, ?_⟩
    refine ⟨_, rfl, _, rfl, x, _, dx, _, rfl, upd_same, T.c_Reader, T.n_Reader_day, Nat.lt_of_le_of_lt (pf (n := 0) (Nat.le_refl _)) (by decide), ?_⟩
    refine ⟨_, rfl, _, rfl, x, _, dx, _, rfl, upd_same, T.c_Reader, T.n_Reader_facts, Nat.lt_of_le_of_lt (pf (pf (n := 0) (Nat.le_refl _))) (by decide), ?_⟩
    refine ⟨_, rfl, _, rfl, x, _, dx, _, rfl, upd_same, T.c_Reader, T.n_Reader_ring, Nat.lt_of_le_of_lt (pf (pf (pf (n := 0) (Nat.le_refl _)))) (by decide), ?_⟩
    have z0 : Fz (fun b => b = x) H F (upd (upd (upd (upd H x (.ins (REA K) dx [("lets", l)])) x (.ins (REA K) dx [("lets", l), ("day", .int (day : Nat))])) x (.ins (REA K) dx [("lets", l), ("day", .int (day : Nat)), ("facts", f)])) x (.ins (REA K) dx [("lets", l), ("day", .int (day : Nat)), ("facts", f), ("ring", .ref ga)])) F :=
      ((((Fz.refl (S := fun b => b = x) hs).set (.inr rfl) fx).set (.inr rfl) fx).set (.inr rfl) fx).set (.inr rfl) fx
    have e0 := hK.1.le
    refine ⟨_, rfl, ra, od, rfl, .inl ⟨kr, z0.sub _ _ hra, dc_K (fun i acc F' => Paired (fun p q => p.1 = q.1 ∧ p.2 = q.2) acc (kr.take i)) z0.sub hra hK.1.nd (by omega) .nil (fun _ => rfl) (fun x H' R q => ⟨_, rfl, q⟩) (fun i acc H' F' ky v hkv ha z p R hR => ?_) (fun D acc H1 F1 hD z1 e1 e2 ek p => ?_)⟩⟩
    · have hv := valV_at hK.1.nd hkv
      exact ⟨_, rfl, _, rfl, ra, v, rfl, dget_frz (z.sub _ _ (z.grow _ _ hra)) hv, hR _ H' F' (Fz.refl z.sub) (pr_take p hkv ⟨rfl, rfl⟩)⟩
    · have ea : acc = kr := paired_same (pr_all p (Nat.le_refl _))
      subst ea
      have ex1 := z1.same _ _ upd_same
      have fx1 := z1.outS fx upd_same
      have nDx : D ≠ x := fun e => by subst e; rw [upd_same] at hD; cases hD
      have hDH : H D = none := by rw [upd_ne nDx, upd_ne nDx, upd_ne nDx, upd_ne nDx] at hD; exact hD
      refine ⟨_, rfl, x, _, dx, _, rfl, ex1, T.c_Reader, T.n_Reader_rates, Nat.lt_of_le_of_lt (pf (pf (pf (pf (n := 0) (Nat.le_refl _))))) (by decide), ?_⟩
      have z2 := (z0.trans z1.to).set (o := .ins (REA K) dx [("lets", l), ("day", .int (day : Nat)), ("facts", f), ("ring", .ref ga), ("rates", .ref D)]) (.inr rfl) fx1
      have hga2 := z2.sub _ _ (z2.grow _ _ hga)
      refine ⟨_, rfl, ga, rfl, ⟨_, SqL.of hga2⟩, for_list (xs := ring.map V.str) (fun i σ H' => ∃ (r6 : Option V) (F' : Hp) (cur : KVs), σ = [some (.ref x), some l, some (.int (day : Nat)), some f, some (.ref ra), some (.ref ga), r6] ∧ Fz (fun b => b = x) H F H' F' ∧ F' x = none ∧
        H' x = some (.ins (REA K) dx [("lets", l), ("day", .int (day : Nat)), ("facts", f), ("ring", .ref ga), ("rates", .ref D)]) ∧ H' D = some (.dK cur) ∧ F' D = none ∧ DcK (pTab K R) F' cur (50 + i))
        ⟨none, F1, acc, rfl, z2, fx1, upd_same, by rw [upd_ne nDx]; exact e1, e2, hK.up upTab z1.grow⟩ (fun i σ H' _ hp => ?_) (fun i v σ H' hv hp => ?_) (fun σ H' hp => ?_)⟩
      · obtain ⟨_, F', _, rfl, z, _⟩ := hp
        exact SqL.of (z.sub _ _ (z.grow _ _ hga))
      · obtain ⟨r6, F', cur, rfl, z, f6, ex, eD, fD, hC⟩ := hp
        obtain ⟨n, hn, rfl⟩ : ∃ n, n ∈ ring ∧ v = V.str n := by
          obtain ⟨n, hn, e⟩ := List.mem_map.mp (List.mem_of_getElem? hv)
          exact ⟨n, hn, e.symm⟩
        have hi : i < ring.length := by have := (List.getElem?_eq_some_iff.mp hv).1; rw [List.length_map] at this; exact this
        have hra' := z.sub _ _ (z.grow _ _ hra)
        refine ⟨_, rfl, ra, rfl, .inl ⟨acc, .inr ⟨od, hra'⟩⟩, _, rfl, (by decide : 0 ≤ sizeLine), fun l0 hl0 => ⟨_, dget_any (k := Sum.inr n) (.inr ⟨od, (Fz.raw z.sub hl0).same _ _ hra'⟩), ?_⟩⟩
        have z3 := Fz.raw (o := .lst []) z.sub hl0
        obtain ⟨p1, ys, q1, q2, q3⟩ := tab_get (hK.up upTab z.grow) z.sub hl0 n
        rw [q1]
        have ly := pr_len q3
        refine ⟨_, rfl, _, rfl, p1, ys, rfl, SqL.of q2, fun l1 hl1 => ?_⟩
        rw [cut_to, List.take_of_length_le (by rw [ly, hrd n hn]; omega)]
        have z4 := Fz.nw (o := .lst ys) z3.sub hl1
        have z34 := z3.trans z4
        have ex4 := z34.same _ _ ex
        have eD4 := z34.same _ _ eD
        have f64 := z34.outS f6 ex
        have fD4 := z34.outS fD eD
        have lc := hC.1.le
        refine ⟨_, rfl, x, _, dx, _, _, rfl, ex4, T.c_Reader, T.n_Reader_rates, rfl, _, rfl, D, _, rfl, .inl ⟨cur, Sum.inr n, eD4, rfl, small10 (by omega), rfl⟩, ?_⟩
        have z5 := (z.trans z34.to).set (o := .dK (putK cur (Sum.inr n) (.ref l1))) (.inl hDH) fD4
        refine ⟨_, _, _, rfl, z5, f64, by rw [upd_ne (Ne.symm nDx)]; exact ex4, upd_same, fD4, ?_⟩
        exact tab_put (hC.up upTab z34.grow) ⟨l1, ys, rfl, upd_same, paired_up upF z34.grow q3⟩
      · obtain ⟨r6, F', cur, rfl, z, f6, ex, eD, fD, hC⟩ := hp
        rw [List.length_map] at hC
        exact k _ F' D cur z f6 ex hDH eD fD ⟨hC.1.mono (by omega), hC.2⟩
end
end K3
end
section
set_option Elab.async false
set_option linter.all false
set_option maxRecDepth 100000
set_option exponentiation.threshold 100
namespace K3
open PySem PySem.Spec PyProof.Rows L2
/-! ### let_of, truth -/
section
variable {X : Cx} {CX : CXT} {k : Nat} {ps : List Str} {sp : Sp} {E : L2.St → XK} {x : Str} {p pos : Pos} {e : Expr} {es : List Expr} {t : TA}
theorem pe_gS (C : G X.prog X.w X.K X.mg X.base CX k x ps sp) (hr : Room k X.A) (hg : Gl X x) (hx : ∀ σ, PassesAt CX X σ (E σ))
    (ha : PA X (e :: es) t) (hdb : (x == ("__debug__" : Str)) = false := by decide) (he : starEach (e :: es) X.env = (false, eval e X.env) :: starEach es X.env := by rfl) (hpl : (backTo pos (starEach es X.env)).any (·.1) = false := by rfl) :
    PE X (.Call (.Name x p) (e :: es) [] pos) (tCallS sp E t) := by
  obtain ⟨f, fd, F, b, m, kp⟩ := C.ex
  exact pe_callS F hr hg m kp b hx ha hdb he hpl
end
/-- the names of facts -/
abbrev FT : List Str := ["low", "top"]
theorem ok_fitL {ring : List Str} {l : Leaf Str} (h : l.Ok ring FT) : l.Fit := by
  cases l with
  | pct x => exact ⟨h.mono (by decide) (by decide), (bt_mul h (show Bt 0 7 (1 / 100) from ⟨by decide +kernel, by decide +kernel⟩)).mono (by decide) (by decide)⟩
  | num x => exact h.mono (by decide) (by decide)
  | fact n =>
    have h : n ∈ FT := h
    show n = "low" ∨ n = "top"
    rcases List.mem_cons.mp h with e | e
    · exact .inl e
    · rcases List.mem_cons.mp e with e | e
      · exact .inr e
      · cases e
  | rate n => trivial
theorem ok_fit {ring : List Str} : ∀ {c : Tr Str}, c.Ok ring FT → c.Fit
  | .tru, _ => trivial
  | .fls, _ => trivial
  | .cmp _ _ _, h => ⟨ok_fitL h.1, ok_fitL h.2⟩
  | .not c, h => ok_fit (c := c) h
  | .and _ _, h => ⟨ok_fit h.1, ok_fit h.2⟩
  | .or _ _, h => ⟨ok_fit h.1, ok_fit h.2⟩
  | .tim _ _ _, h => ⟨by have := h.2.1; omega, ok_fit h.2.2⟩
/-- a missing rate is one of the ring, on the day -/
theorem lfv_err {W : Wd Str} {day : Nat} (wb : WB W day) {ring : List Str} (hr : ∀ n ∈ ring, (W.rates n).length = day) {l : Leaf Str} (h : l.Ok ring FT) {d : Nat} (hd : d ≤ day) {m : Str × Nat} (e : lfv W d l = .error m) : m.1 ∈ ring ∧ m.2 = day := by
  cases l with
  | pct x => cases e
  | num x => cases e
  | fact n =>
    simp only [lfv] at e
    have hn : n = "low" ∨ n = "top" := ok_fitL (ring := ring) h
    have := wb.lo n hn
    rw [List.getElem?_eq_getElem (show d < (W.facts n).length by omega)] at e
    cases e
  | rate n =>
    simp only [lfv] at e
    cases q : (W.rates n)[d]? with
    | some x => rw [q] at e; cases e
    | none =>
      rw [q] at e
      cases e
      have h : n ∈ ring := h
      have := hr n h
      have := List.getElem?_eq_none_iff.mp q
      exact ⟨h, by show d = day; omega⟩
theorem timGo_err {ν : Type} {f : Nat → Ev ν Bool} {e : Bool} {m : ν × Nat} : ∀ ds : List Nat, timGo f e ds = .error m → ∃ d ∈ ds, f d = .error m
  | [], q => by cases q
  | d :: ds, q => by
    simp only [timGo] at q
    cases r : f d with
    | error m' => rw [r] at q; cases q; exact ⟨d, List.mem_cons_self, r⟩
    | ok c =>
      rw [r] at q
      by_cases hc : c = e
      · simp only [if_pos hc] at q; cases q
      · simp only [if_neg hc] at q
        obtain ⟨d', h1, h2⟩ := timGo_err ds q
        exact ⟨d', List.mem_cons_of_mem _ h1, h2⟩
theorem trv_err {W : Wd Str} {day : Nat} (wb : WB W day) {ring : List Str} (hr : ∀ n ∈ ring, (W.rates n).length = day) : ∀ {c : Tr Str}, c.Ok ring FT → ∀ {d : Nat}, d ≤ day → ∀ {m : Str × Nat}, trv W c d = .error m → m.1 ∈ ring ∧ m.2 = day
  | .tru, _, _, _, _, e => by cases e
  | .fls, _, _, _, _, e => by cases e
  | .cmp w x y, h, d, hd, m, e => by
    simp only [trv] at e
    cases q : lfv W d x with
    | error m' => rw [q] at e; cases e; exact lfv_err wb hr h.1 hd q
    | ok u =>
      rw [q] at e
      cases q2 : lfv W d y with
      | error m' => simp only [q2] at e; cases e; exact lfv_err wb hr h.2 hd q2
      | ok v => simp only [q2] at e; cases e
  | .not c, h, d, hd, m, e => by
    simp only [trv] at e
    cases q : trv W c d with
    | error m' => rw [q] at e; cases e; exact trv_err wb hr (c := c) h hd q
    | ok u => rw [q] at e; cases e
  | .and c c2, h, d, hd, m, e => by
    simp only [trv] at e
    cases q : trv W c d with
    | error m' => rw [q] at e; cases e; exact trv_err wb hr (c := c) h.1 hd q
    | ok u =>
      rw [q] at e
      cases u with
      | false => cases e
      | true => exact trv_err wb hr (c := c2) h.2 hd e
  | .or c c2, h, d, hd, m, e => by
    simp only [trv] at e
    cases q : trv W c d with
    | error m' => rw [q] at e; cases e; exact trv_err wb hr (c := c) h.1 hd q
    | ok u =>
      rw [q] at e
      cases u with
      | true => cases e
      | false => exact trv_err wb hr (c := c2) h.2 hd e
  | .tim .before k c, h, d, hd, m, e => by
    simp only [trv] at e
    by_cases hk : d < k
    · rw [if_pos hk] at e; cases e
    · rw [if_neg hk] at e; exact trv_err wb hr (c := c) h.2.2 (by omega) e
  | .tim .ever k c, h, d, hd, m, e => by
    obtain ⟨d', h1, h2⟩ := timGo_err _ (show timGo (trv W c) true (days d k) = .error m from e)
    refine trv_err wb hr (c := c) h.2.2 ?_ h2
    obtain ⟨j, hj, e⟩ := List.mem_range'.mp h1
    omega
  | .tim .always k c, h, d, hd, m, e => by
    obtain ⟨d', h1, h2⟩ := timGo_err _ (show timGo (trv W c) false (days d k) = .error m from e)
    refine trv_err wb hr (c := c) h.2.2 ?_ h2
    obtain ⟨j, hj, e⟩ := List.mem_range'.mp h1
    omega
section
variable {P : Program} {w : World} {K : PySem.W.Frag} {mg : Str → Option Value} {base : Heap}
theorem inV_str (c : Str) : ∀ l : List Str, inV (.str c) (l.map V.str) = decide (c ∈ l)
  | [] => rfl
  | p :: l => by
    have ih := inV_str c l
    have e : inV (.str c) ((p :: l).map V.str) = (eqV (.str p) (.str c) || inV (.str c) (l.map V.str)) := rfl
    rw [e, ih]
    have e2 : eqV (.str p) (.str c) = decide (p = c) := by
      show (p == c) = _
      by_cases h : p = c
      · subst h; simp
      · rw [decide_eq_false h]; exact beq_eq_false_iff_ne.mpr h
    rw [e2]
    by_cases h : p = c
    · subst h; simp
    · by_cases h2 : c ∈ l <;> simp [h, h2, Ne.symm h]
theorem flat_str (l : List Str) : (l.map V.str).all flatV = true := by
  rw [List.all_eq_true]
  intro v hv
  obtain ⟨p, _, rfl⟩ := List.mem_map.mp hv
  rfl
def spLetOf (K : PySem.W.Frag) : Sp := fun vs H Q _ => ∃ (F : Hp) (rv : V) (p : Px Str) (W : Wd Str) (day : Nat) (ring : List Str), vs = [rv, .str "part"] ∧ Same F H ∧ ReF K F rv (some p) W day ring ∧ Ret N0 H F (fun v F' => PxIn K F' (some p) v p) Q
theorem gm_Reader_let_of (T : Txt K mg) : Gm P w K mg base CX0 1 (REA K) "let_of" p_Reader_let_of (spLetOf K) := by
  refine Gm.mk' T.df_Reader_let_of T.m_Reader_let_of (fun _ _ _ _ _ _ us hl => match us, hl with | [_, _], _ => rfl) fun fd F => ?_
  refine F.ok sc_Reader_let_of (fun vs H Q E h => ?_) (fun cdv A outer s H vs Q E hr h => ?_)
  · obtain ⟨_, _, _, _, _, _, rfl, _⟩ := h
    rfl
  · obtain ⟨F, _, p, W, day, ring, rfl, hs, ⟨wa, dx, _, f, rg, r, rfl, hw, ⟨la, vl, rfl, hla, t, u, rfl, ht, hp⟩, _⟩, k⟩ := h
    refine ⟨_, PSs.nox (pss_cons (ps_for PassesOwn.never rfl (pi_list (pe_fld (pv 0) rfl)) (pg_tup rfl (pgs_cons (pg_name (i := 2) sc_Reader_let_of.nd rfl (Or.inl rfl)) (pgs_cons (pg_name (i := 3) sc_Reader_let_of.nd rfl (Or.inl rfl)) pgs_nil)))
    (pss_one (ps_if (pt_cmpR op_eq (pv 2) (pv 1) (nomark _)) (pss_one (ps_ret (pv 3))) pss_nil)))
  pss_never), ?_⟩
    refine ⟨_, rfl, wa, _, dx, _, _, rfl, hs _ _ hw, T.c_Reader, T.n_Reader_lets, rfl, la, rfl, ⟨_, SqL.of (hs _ _ hla)⟩, for_list (xs := [.ref t]) (fun i σ H' => i = 0 ∧ H' = H ∧ σ = [some (.ref wa), some (.str "part"), none, none]) ⟨rfl, rfl, rfl⟩ (fun i σ H' _ hp => ?_) (fun i v σ H' hv hp => ?_) (fun σ H' hp => ?_)⟩
    · obtain ⟨_, rfl, _⟩ := hp
      exact SqL.of (hs _ _ hla)
    · obtain ⟨rfl, rfl, rfl⟩ := hp
      cases hv
      refine ⟨t, _, rfl, sq_t hs ht, rfl, _, _, rfl, _, _, rfl, rfl, ?_⟩
      refine ⟨_, rfl, _, rfl, rfl, _, rfl, strT rfl ?_⟩
      exact ⟨_, rfl, k _ _ _ (Fz.refl hs) hp⟩
    · exact absurd hp.1 (by simp)
def spTruth (K : PySem.W.Frag) : Sp := fun vs H Q _ => ∃ (F : Hp) (rv a : V) (pl : Option (Px Str)) (W : Wd Str) (day : Nat) (ring : List Str) (c : Tr Str), vs = [rv, a] ∧ Same F H ∧ ReF K F rv pl W day ring ∧ WB W day ∧ (∀ n ∈ ring, (W.rates n).length = day) ∧
  TrIn K F a c ∧ c.Ok ring FT ∧ c.ht ≤ 6 ∧ match trv W c day with
    | .ok b => Ret N0 H F (fun v _ => v = .bl b) Q
    | .error _ => Ret N0 H F (fun v _ => v = .non) Q
/-- except MissingRate as e: .. -/
def tTruth (K : PySem.W.Frag) : Addr → Value → Option Addr → TS := fun a cls d => tSeq (tIfS (tAnd (tTest (tOp (rIn K false) (tXf a cls d (He.ga K "MissingRate") "name" (tVar 2)) (tFld K (tVar 0) "ring"))) (tTest (tOp rEq (tXf a cls d (He.ga K "MissingRate") "day" (tVar 2)) (tFld K (tVar 0) "day")))) (tRet (tC .non)) tNext) tNever
theorem gm_Reader_truth (T : Txt K mg) : Gm P w K mg base CX0 34 (REA K) "truth" p_Reader_truth (spTruth K) := by
  refine Gm.mk' T.df_Reader_truth T.m_Reader_truth (fun _ _ _ _ _ _ us hl => match us, hl with | [_, _], _ => rfl) fun fd F => ?_
  refine F.ok sc_Reader_truth (fun vs H Q E h => ?_) (fun cdv A outer s H vs Q E hr h => ?_)
  · obtain ⟨_, _, _, _, _, _, _, _, rfl, _⟩ := h
    rfl
  · obtain ⟨F, _, a, pl, W, day, ring, c, rfl, hs, hR, wb, hrl, hc, hok, hht, k⟩ := h
    have hR' := hR
    obtain ⟨wa, dx, l, f, rg, r, rfl, hw, hl, tf, hrg, tr⟩ := hR'
    have hw' := hs _ _ hw
    refine ⟨_, pss_one (ps_try_manyAs (tb := fun W => tRet (tCallS (spVal K 6) (WE W) (tCons (tVar 1) (tCons (tFld K (tVar 0) "lets") (tCons (tFld K (tVar 0) "day") (tCons (tFld K (tVar 0) "facts") (tCons (tFld K (tVar 0) "rates") tNil)))))))
      (l := [(.ref (He.ga K "MissingRate"), 2, tTruth K)]) rfl rfl sc_Reader_truth.nd takes0
      (fun W pn xe tk hp => by exact pss_one (ps_ret (pe_gS (g_value T 6) (hr.mono (by omega)) (by rfl) (fun σ => passAt tk σ) (pa_cons (pv 1) (pa_cons (pe_fld (pv 0) rfl) (pa_cons (pe_fld (pv 0) rfl) (pa_cons (pe_fld (pv 0) rfl) (pa_cons (pe_fld (pv 0) rfl) pa_nil))))))))
      (HdsAs.cons (i := 2) rfl rfl ⟨by rfl, by decide, .inl T.g_MissingRate⟩
        (fun a oe cls d pn hz hf => pss_cons (ps_if (PW.pt (pw_and (pt_cmpR op_in_seq (by exact pe_xf T.e_MissingRate.xf T.n_MissingRate_name hz hf (pv 2)) (pe_fld (pv 0) rfl) (by rfl)) (pw_and1 (pt_cmpR op_eq (by exact pe_xf T.e_MissingRate.xf T.n_MissingRate_day hz hf (pv 2)) (pe_fld (pv 0) rfl) (nomark _))))) (pss_one (ps_ret pe_non)) pss_nil) pss_never) .nil)), ?_⟩
    refine ⟨_, rfl, _, rfl, wa, _, dx, _, _, rfl, hw', T.c_Reader, T.n_Reader_lets, rfl, _, rfl, wa, _, dx, _, _, rfl, hw', T.c_Reader, T.n_Reader_day, rfl, _, rfl, wa, _, dx, _, _, rfl, hw', T.c_Reader, T.n_Reader_facts, rfl, _, rfl, wa, _, dx, _, _, rfl, hw', T.c_Reader, T.n_Reader_rates, rfl, ?_⟩
    refine ⟨F, a, l, f, r, pl, W, day, rfl, hs, hl, tf, tr, wb, by decide, .inr ⟨c, hc, ok_fit hok, hht, ?_⟩⟩
    cases q : trv W c day with
    | ok b => rw [q] at k; exact k
    | error m =>
      rw [q] at k
      obtain ⟨e1, e2⟩ := trv_err wb hrl hok (Nat.le_refl _) q
      intro d H2 F2 z e3
      have hw2 := z.sub _ _ (z.grow _ _ hw)
      obtain ⟨ga, vg, rfl, hga, pg⟩ := hrg
      have evg : vg = ring.map V.str := paired_eq pg
      subst evg
      refine ⟨true, T.x_MissingRate_MissingRate, fun _ ea hea => ?_, fun h => by cases h⟩
      refine ⟨_, rfl, rfl, rfl, d, _, _, rfl, e3, rfl, _, rfl, wa, _, dx, _, _, rfl, hw2, T.c_Reader, T.n_Reader_ring, rfl, ga, _, rfl, .inl (SqL.of (z.sub _ _ (z.grow _ _ hga))), rfl, flat_str ring, _, rfl, inT (by rw [inV_str]; exact decide_eq_true e1) ?_⟩
      refine ⟨_, rfl, rfl, rfl, d, _, _, rfl, e3, rfl, _, rfl, wa, _, dx, _, _, rfl, hw2, T.c_Reader, T.n_Reader_day, rfl, rfl, _, rfl, inT (decide_eq_true (by rw [e2])) ?_⟩
      exact k _ _ _ z rfl
/-! ### the form of an expression -/
def OkF (W : Wd Str) (day : Nat) (ring : List Str) : Px Str → Prop
  | .leaf _ => True
  | .ite _ p q => OkF W day ring p ∧ OkF W day ring q
  | .bin _ p q => OkF W day ring p ∧ OkF W day ring q ∧ ∀ f g, fm W day ring p = some f → fm W day ring q = some g → FSm f ∧ FSm g
  | .part p => OkF W day ring p
def spForm (K : PySem.W.Frag) (h : Nat) : Sp := fun vs H Q _ => ∃ (F : Hp) (rv a : V) (pl : Option (Px Str)) (W : Wd Str) (day : Nat) (ring : List Str) (p : Px Str), vs = [rv, a] ∧ Same F H ∧ ReF K F rv pl W day ring ∧ WB W day ∧ (∀ n ∈ ring, (W.rates n).length = day) ∧ ring.length ≤ 1000 ∧
  (∀ p, pl = some p → ∃ u, PxIn K F pl u p) ∧ PxIn K F pl a p ∧ p.Ok ring FT ∧ p.ht ≤ h ∧ h ≤ 6 ∧ OkF W day ring p ∧ Ret N0 H F (fun v F' => OfF K ring F' v (fm W day ring p)) Q
theorem co_one {ring : List Str} {F : Hp} {p : Addr} {od : Obj} {n : Str} {u : V} (hn : n ∈ ring) (hu : IsF K F u 1) (fp : F p = none) (hl : 1 ≤ 1000) : CoF K ring (fun x => if x = n then 1 else 0) (upd F p (.frz od (.dK [(Sum.inr n, u)]))) (.ref p) := by
  refine ⟨p, od, [(Sum.inr n, u)], rfl, upd_same, ⟨by simp, fun q hq => ?_, by simp⟩, fun m => ?_⟩
  · rw [List.mem_singleton.mp hq]; exact ⟨n, rfl⟩
  · by_cases h : m = n
    · subst h
      rw [valV_pos rfl]
      refine ⟨hn, ?_, ?_⟩
      · show (if m = m then (1 : Rat) else 0) ≠ 0
        rw [if_pos rfl]; decide
      · show IsF K _ u (if m = m then (1 : Rat) else 0)
        rw [if_pos rfl]; exact hu.up (same_upd fp)
    · rw [valV_neg (fun z => h (Sum.inr.inj z).symm)]
      show (if m = n then (1 : Rat) else 0) = 0
      rw [if_neg h]
theorem co_norm' {ring : List Str} {f : Str → Rat} {F : Hp} {v : V} (h : CoF K ring f F v) : CoF K ring f F v := h
theorem form_succ (T : Txt K mg) {h : Nat} (ih : Gm P w K mg base CX0 (36 + h) (REA K) "form" p_Reader_form (spForm K h)) : Gm P w K mg base CX0 (36 + (h + 1)) (REA K) "form" p_Reader_form (spForm K (h + 1)) := by
  refine Gm.mk' T.df_Reader_form T.m_Reader_form (fun _ _ _ _ _ _ us hl => match us, hl with | [_, _], _ => rfl) fun fd F => ?_
  refine FnOk.mono (j := 36 + h + 1) ?_ (by omega)
  refine F.ok sc_Reader_form (fun vs H Q E h => ?_) (fun cdv A outer s H vs Q E hr hh => ?_)
  · obtain ⟨_, _, _, _, _, _, _, _, rfl, _⟩ := h
    rfl
  obtain ⟨F, _, a, pl, W, day, ring, p, rfl, hs, hR, wb, hrl, hrn, hpl, hp, hok, hht, h6, of, k⟩ := hh
  have hR' := hR
  obtain ⟨wa, dx, l, f, rg, r, rfl, hw, hl, tf, ⟨ga, vg, rfl, hga, pg⟩, tr⟩ := hR'
  have evg : vg = ring.map V.str := paired_eq pg
  subst evg
  have hw' := hs _ _ hw
  refine ⟨_, PSs.nox (pss_cons (ps_set (i := 2) sc_Reader_form.nd rfl (.inl rfl) (pe_ix ix_tup (pv 1) pe_int (fun _ _ => rfl)))
  (pss_cons (ps_if (PW.pt (pw_and (pt_cmpR op_eq (pv 2) pe_str (nomark _)) (pw_and1 (pt_cmpR op_in_seq (pe_ix ix_tup (pv 1) pe_int (fun _ _ => rfl)) (pe_fld (pv 0) rfl) (by rfl))))) (pss_one (ps_ret (pe_tup (pa_cons (pe_frz (pe_disp (pps_cons (pe_ix ix_tup (pv 1) pe_int (fun _ _ => rfl)) (pe_cst T.g_UNIT (by rfl)) pps_nil) (by rfl) (by rfl) (fun z => by cases z) (by decide))) (pa_cons (pe_cst T.g_NONE (by rfl)) pa_nil))))) pss_nil)
  (pss_cons (ps_if (pt_cmpR op_eq (pv 2) pe_str (nomark _)) (pss_one (ps_ret (pe_gm (pv 0) T.c_Reader ih (hr.mono (by omega)) pass0 (pa_cons (pe_gm (pv 0) T.c_Reader (gm_Reader_let_of T) (hr.mono (by omega)) pass0 (pa_cons (pe_ix ix_tup (pv 1) pe_int (fun _ _ => rfl)) pa_nil)) pa_nil)))) pss_nil)
  (pss_cons (ps_if (pt_cmpR op_eq (pv 2) pe_str (nomark _)) (pss_cons (ps_set (i := 3) sc_Reader_form.nd rfl (.inl rfl) (pe_gm (pv 0) T.c_Reader (gm_Reader_truth T) (hr.mono (by omega)) pass0 (pa_cons (pe_ix ix_tup (pv 1) pe_int (fun _ _ => rfl)) pa_nil)))
  (pss_cons (ps_if (pt_cmpR op_isN (pv 3) pe_non (nomark _)) (pss_one (ps_ret (pe_glob (v := V.non) (by rfl) T.t_NO_FORM rfl))) pss_nil)
  (pss_cons (ps_if (pt_val (pv 3)) (pss_one (ps_ret (pe_gm (pv 0) T.c_Reader ih (hr.mono (by omega)) pass0 (pa_cons (pe_ix ix_tup (pv 1) pe_int (fun _ _ => rfl)) pa_nil)))) pss_nil)
  (pss_one (ps_ret (pe_gm (pv 0) T.c_Reader ih (hr.mono (by omega)) pass0 (pa_cons (pe_ix ix_tup (pv 1) pe_int (fun _ _ => rfl)) pa_nil))))))) pss_nil)
  (pss_cons (ps_if (pt_cmpR op_in_seq (pv 2) (pe_tup (pa_cons pe_str (pa_cons pe_str (pa_cons pe_str (pa_cons pe_str (pa_cons pe_str pa_nil)))))) (by rfl)) (pss_cons (ps_set (i := 4) sc_Reader_form.nd rfl (.inl rfl) (pe_gm (pv 0) T.c_Reader ih (hr.mono (by omega)) pass0 (pa_cons (pe_ix ix_tup (pv 1) pe_int (fun _ _ => rfl)) pa_nil)))
  (pss_cons (ps_if (pt_cmpR op_isN (pv 4) pe_non (nomark _)) (pss_one (ps_ret (pe_glob (v := V.non) (by rfl) T.t_NO_FORM rfl))) pss_nil)
  (pss_cons (ps_set (i := 5) sc_Reader_form.nd rfl (.inl rfl) (pe_gm (pv 0) T.c_Reader ih (hr.mono (by omega)) pass0 (pa_cons (pe_ix ix_tup (pv 1) pe_int (fun _ _ => rfl)) pa_nil)))
  (pss_cons (ps_if (pt_cmpR op_isN (pv 5) pe_non (nomark _)) (pss_one (ps_ret (pe_glob (v := V.non) (by rfl) T.t_NO_FORM rfl))) pss_nil)
  (pss_one (ps_ret (pe_g (g_combined2 T) (hr.mono (by omega)) (by rfl) pass0 (pa_cons (pv 2) (pa_cons (pv 4) (pa_cons (pv 5) pa_nil)))))))))) pss_nil)
  (pss_one (ps_ret (pe_tup (pa_cons (pe_frz pe_dnewK) (pa_cons (pe_g (g_value T 6) (hr.mono (by omega)) (by rfl) passL (pa_cons (pv 1) (pa_cons (pe_fld (pv 0) rfl) (pa_cons (pe_fld (pv 0) rfl) (pa_cons (pe_fld (pv 0) rfl) (pa_cons (pe_fld (pv 0) rfl) pa_nil)))))) pa_nil)))))))))), ?_⟩
  have five : 5 ≤ sizeLine := by decide
  have EL : ∀ {t : Addr} {xs : List V} {H' : Hp}, SqT K F t xs → Same F H' → SqT K H' t xs := fun h e => sq_t e h
  have h1h : p.ht = p.ht := rfl
  cases p with
  | leaf l =>
    by_cases hrate : ∃ n, l = .rate n
    · obtain ⟨n, rfl⟩ := hrate
      obtain ⟨t, rfl, ht⟩ := hp
      have hn : n ∈ ring := hok
      refine ⟨_, rfl, t, _, _, _, rfl, rfl, EL ht hs, rfl, _, rfl, rfl, _, rfl, strT rfl ⟨_, rfl, t, _, _, _, rfl, rfl, EL ht hs, rfl, _, rfl, wa, _, dx, _, _, rfl, hw', T.c_Reader, T.n_Reader_ring, rfl, ga, _, rfl, .inl (SqL.of (hs _ _ hga)), rfl, flat_str ring, _, rfl, inT (by rw [inV_str]; exact decide_eq_true hn) ?_⟩⟩
      refine fun p hp => ⟨_, rfl, t, _, _, _, rfl, rfl, EL ht (Fz.raw hs hp).sub, rfl, upd_same, [(Sum.inr n, .ref (He.ga K "UNIT"))], rfl, by simp, p, _, upd_same, True.intro, fun od => ⟨two_ok, fun q hq => ?_⟩⟩
      have fp := hs.free hp
      have z1 := ((Fz.raw (o := .dK []) hs hp).set (o := .dK (mergeK [] [(Sum.inr n, .ref (He.ga K "UNIT"))])) (.inl hp) fp).frz (o := .frz od (.dK (mergeK [] [(Sum.inr n, .ref (He.ga K "UNIT"))]))) hp fp
      have z2 := Fz.nw (o := .tup [.ref p, .ref (He.ga K "NONE")]) z1.sub hq
      refine k _ _ _ (z1.trans z2) ⟨q, _, _, rfl, .inl (.inl upd_same), ?_, isNONE T _⟩
      exact Dc.up upCo (co_norm' (co_one hn (isUNIT T F) fp (by decide))) z2.grow
    · obtain ⟨t, ws, u, rfl, ht, w1, w2, w3, w4, x, hx, hfm⟩ : ∃ (t : Addr) (ws : Str) (u : V), a = .ref t ∧ SqT K F t [.str ws, u] ∧ ws ≠ "rate" ∧ ws ≠ "name" ∧ ws ≠ "if" ∧ inV (.str ws) [.str "add", .str "subtract", .str "multiply", .str "min", .str "max"] = false ∧ ∃ x, lfv W day l = .ok x ∧ fm W day ring (.leaf l) = some (fun _ => 0, x) := by
        cases l with
        | pct x => obtain ⟨u, ⟨t, rfl, ht⟩, _⟩ := hp; exact ⟨t, _, u, rfl, ht, by decide +kernel, by decide +kernel, by decide +kernel, by decide +kernel, _, rfl, rfl⟩
        | num x => obtain ⟨u, ⟨t, rfl, ht⟩, _⟩ := hp; exact ⟨t, _, u, rfl, ht, by decide +kernel, by decide +kernel, by decide +kernel, by decide +kernel, _, rfl, rfl⟩
        | fact n =>
          obtain ⟨t, rfl, ht⟩ := hp
          have hl := wb.lo n (ok_fitL (ring := ring) hok)
          have e : lfv W day (.fact n) = .ok ((W.facts n)[day]'hl) := by simp only [lfv]; rw [List.getElem?_eq_getElem hl]
          exact ⟨t, _, _, rfl, ht, by decide +kernel, by decide +kernel, by decide +kernel, by decide +kernel, _, e, by simp only [fm, e]⟩
        | rate n => exact absurd ⟨n, rfl⟩ hrate
      rw [hfm] at k
      refine ⟨_, rfl, t, _, _, _, rfl, rfl, EL ht hs, rfl, _, rfl, rfl, _, rfl, strF w1 (iteF ⟨_, rfl, rfl, _, rfl, strF w2 ⟨_, rfl, rfl, _, rfl, strF w3 ⟨_, rfl, five, fun p1 hp1 => ⟨p1, _, rfl, .inr (.inl (.inl upd_same)), rfl, rfl, _, rfl, inF w4 ?_⟩⟩⟩⟩)⟩
      have z1 := Fz.raw (o := .tup [.str "add", .str "subtract", .str "multiply", .str "min", .str "max"]) hs hp1
      refine fun p hp2 => ⟨p, _, upd_same, True.intro, fun od => ?_⟩
      have z2 := z1.trans (fz_dict (S := N0) (o := .dK []) (u := .frz od (.dK [])) z1.sub hp2)
      have fp := z1.sub.free hp2
      have hw2 := z2.sub _ _ (z2.grow _ _ hw)
      refine ⟨_, rfl, _, rfl, wa, _, dx, _, _, rfl, hw2, T.c_Reader, T.n_Reader_lets, rfl, _, rfl, wa, _, dx, _, _, rfl, hw2, T.c_Reader, T.n_Reader_day, rfl, _, rfl, wa, _, dx, _, _, rfl, hw2, T.c_Reader, T.n_Reader_facts, rfl, _, rfl, wa, _, dx, _, _, rfl, hw2, T.c_Reader, T.n_Reader_rates, rfl, ?_⟩
      refine ⟨_, _, _, _, _, pl, W, day, rfl, z2.sub, hl.up z2.grow, tf.up upTab z2.grow, tr.up upTab z2.grow, wb, by decide, .inl ⟨l, LfIn.up (show LfIn K F _ l from hp) z2.grow, ok_fitL (ring := ring) hok, ?_⟩⟩
      rw [hx]
      intro v H2 F2 z3 hv
      refine ⟨two_ok, fun q hq => ?_⟩
      have z4 := z2.trans z3
      have z5 := Fz.nw (o := .tup [.ref p, v]) z4.sub hq
      refine k _ _ _ (z4.trans z5) ⟨q, _, _, rfl, .inl (.inl upd_same), ?_, hv.up z5.grow⟩
      exact Dc.up upCo (co_norm' co_nil) (z3.grow.trans z5.grow)
  | ite c p q =>
    obtain ⟨u0, u1, u2, ⟨t, rfl, ht⟩, hc, hp1, hp2⟩ := hp
    have hsub : c.ht ≤ 6 ∧ p.ht ≤ h ∧ q.ht ≤ h := by simp only [Px.ht] at hht; omega
    refine ⟨_, rfl, t, _, _, _, rfl, rfl, EL ht hs, rfl, _, rfl, rfl, _, rfl, strF (by decide +kernel) (iteF ⟨_, rfl, rfl, _, rfl, strF (by decide +kernel) ⟨_, rfl, rfl, _, rfl, strT rfl ?_⟩⟩)⟩
    refine ⟨_, rfl, wa, dx, _, rfl, hw', rfl, _, rfl, t, _, _, _, rfl, rfl, EL ht hs, rfl, F, _, _, pl, W, day, ring, c, rfl, hs, hR, wb, hrl, hc, hok.1, hsub.1, ?_⟩
    cases q0 : trv W c day with
    | error m =>
      intro v H2 F2 z ev
      subst ev
      refine ⟨_, rfl, rfl, _, rfl, inT rfl (k _ _ _ z ?_)⟩
      simp only [fm, q0]; rfl
    | ok b =>
      intro v H2 F2 z ev
      subst ev
      have hw2 := z.sub _ _ (z.grow _ _ hw)
      have ht2 := EL ht (z.grow.trans z.sub)
      refine ⟨_, rfl, rfl, _, rfl, inF rfl ⟨_, rfl, b, rfl, ?_⟩⟩
      cases b with
      | true =>
        have e : fm W day ring (.ite c p q) = fm W day ring p := by simp only [fm, q0]
        rw [e] at k
        exact iteT ⟨_, rfl, wa, dx, _, rfl, hw2, rfl, _, rfl, t, _, _, _, rfl, rfl, ht2, rfl, F2, _, _, pl, W, day, ring, p, rfl, z.sub, hR.up z.grow, wb, hrl, hrn, fun p' e' => let ⟨u, hu⟩ := hpl p' e'; ⟨u, hu.up z.grow⟩, hp1.up z.grow, hok.2.1, hsub.2.1, by omega, of.1, fun v H3 F3 z3 hv => k _ _ _ (z.trans z3) hv⟩
      | false =>
        have e : fm W day ring (.ite c p q) = fm W day ring q := by simp only [fm, q0]
        rw [e] at k
        exact iteF ⟨_, rfl, wa, dx, _, rfl, hw2, rfl, _, rfl, t, _, _, _, rfl, rfl, ht2, rfl, F2, _, _, pl, W, day, ring, q, rfl, z.sub, hR.up z.grow, wb, hrl, hrn, fun p' e' => let ⟨u, hu⟩ := hpl p' e'; ⟨u, hu.up z.grow⟩, hp2.up z.grow, hok.2.2, hsub.2.2, by omega, of.2, fun v H3 F3 z3 hv => k _ _ _ (z.trans z3) hv⟩
  | bin wo p q =>
    obtain ⟨u1, u2, ⟨t, rfl, ht⟩, hp1, hp2⟩ := hp
    have hsub : p.ht ≤ h ∧ q.ht ≤ h := by simp only [Px.ht] at hht; omega
    obtain ⟨w1, w2, w3, w4⟩ : wo.str ≠ "rate" ∧ wo.str ≠ "name" ∧ wo.str ≠ "if" ∧ inV (.str wo.str) [.str "add", .str "subtract", .str "multiply", .str "min", .str "max"] = true := by cases wo <;> decide +kernel
    refine ⟨_, rfl, t, _, _, _, rfl, rfl, EL ht hs, rfl, _, rfl, rfl, _, rfl, strF w1 (iteF ⟨_, rfl, rfl, _, rfl, strF w2 ⟨_, rfl, rfl, _, rfl, strF w3 ⟨_, rfl, five, fun pz hpz => ⟨pz, _, rfl, .inr (.inl (.inl upd_same)), rfl, rfl, _, rfl, inT w4 ?_⟩⟩⟩⟩)⟩
    have z1 := Fz.raw (o := .tup [.str "add", .str "subtract", .str "multiply", .str "min", .str "max"]) hs hpz
    refine ⟨_, rfl, wa, dx, _, rfl, z1.sub _ _ hw, rfl, _, rfl, t, _, _, _, rfl, rfl, EL ht z1.sub, rfl, F, _, _, pl, W, day, ring, p, rfl, z1.sub, hR, wb, hrl, hrn, hpl, hp1, hok.1, hsub.1, by omega, of.1, fun v H2 F2 z2 hv => ?_⟩
    have z := z1.trans z2
    cases qp : fm W day ring p with
    | none =>
      rw [qp] at hv
      have hv : v = .non := hv
      subst hv
      refine ⟨_, rfl, rfl, _, rfl, inT rfl (k _ _ _ z ?_)⟩
      simp only [fm, qp]; rfl
    | some g =>
      rw [qp] at hv
      have hv' := hv
      obtain ⟨ta, _, _, rfl, _⟩ := hv'
      have ht2 := EL ht (z.grow.trans z.sub)
      refine ⟨_, rfl, rfl, _, rfl, inF rfl ?_⟩
      refine ⟨_, rfl, wa, dx, _, rfl, z.sub _ _ (z.grow _ _ hw), rfl, _, rfl, t, _, _, _, rfl, rfl, ht2, rfl, F2, _, _, pl, W, day, ring, q, rfl, z.sub, hR.up z.grow, wb, hrl, hrn, fun p' e' => let ⟨u, hu⟩ := hpl p' e'; ⟨u, hu.up z.grow⟩, hp2.up z.grow, hok.2, hsub.2, by omega, of.2.1, fun v2 H3 F3 z3 hv2 => ?_⟩
      have z4 := z.trans z3
      cases qq : fm W day ring q with
      | none =>
        rw [qq] at hv2
        have hv2 : v2 = .non := hv2
        subst hv2
        refine ⟨_, rfl, rfl, _, rfl, inT rfl (k _ _ _ z4 ?_)⟩
        simp only [fm, qp, qq]; rfl
      | some g2 =>
        rw [qq] at hv2
        have hv2' := hv2
        obtain ⟨tb, _, _, rfl, _⟩ := hv2'
        refine ⟨_, rfl, rfl, _, rfl, inF rfl ?_⟩
        obtain ⟨s1, s2⟩ := of.2.2 g g2 qp qq
        refine ⟨_, rfl, _, rfl, _, rfl, F3, _, _, ring, g, g2, wo, rfl, True.intro, z4.sub, hv.up z3.grow, hv2, s1, s2, hrn, fun v3 H5 F5 z5 hv3 => k _ _ _ (z4.trans z5) ?_⟩
        simp only [fm, qp, qq]
        exact hv3
  | part p =>
    obtain ⟨⟨t, rfl, ht⟩, epl⟩ := hp
    subst epl
    have hsub : p.ht ≤ h := by simp only [Px.ht] at hht; omega
    refine ⟨_, rfl, t, _, _, _, rfl, rfl, EL ht hs, rfl, _, rfl, rfl, _, rfl, strF (by decide +kernel) (iteF ⟨_, rfl, rfl, _, rfl, strT rfl ?_⟩)⟩
    refine ⟨_, rfl, wa, dx, _, rfl, hw', rfl, _, rfl, wa, dx, _, rfl, hw', rfl, _, rfl, t, _, _, _, rfl, rfl, EL ht hs, rfl, F, _, p, W, day, ring, rfl, hs, hR, fun v H2 F2 z hv => ?_⟩
    exact ⟨F2, _, _, some p, W, day, ring, p, rfl, z.sub, hR.up z.grow, wb, hrl, hrn, fun p' e' => let ⟨u, hu⟩ := hpl p' e'; ⟨u, hu.up z.grow⟩, hv, hok, hsub, by omega, of, fun v H3 F3 z3 hv => k _ _ _ (z.trans z3) hv⟩
end
end K3
end
section
set_option Elab.async false
set_option linter.all false
set_option maxRecDepth 100000
set_option exponentiation.threshold 100
namespace K3
open PySem PySem.Spec PyProof.Rows L2
/-! ### form_of, bonds -/
theorem Fz.drop {S : Addr → Prop} {H F H1 F1 H2 F2 : Hp} (x : Fz N0 H F H1 F1) (y : Fz S H1 F1 H2 F2) (hS : ∀ b, S b → H b = none) : Fz N0 H F H2 F2 := by
  have t := (x.to (S := S)).trans y
  exact ⟨fun b o _ e => t.keep b o (fun z => by rw [hS b z] at e; cases e) e, t.grow, t.sub, t.new, t.live⟩
section
variable {P : Program} {w : World} {K : PySem.W.Frag} {mg : Str → Option Value} {base : Heap}
theorem gm_Reader_form (T : Txt K mg) : ∀ h : Nat, Gm P w K mg base CX0 (36 + h) (REA K) "form" p_Reader_form (spForm K h)
  | 0 => by
    refine Gm.mk' T.df_Reader_form T.m_Reader_form (fun _ _ _ _ _ _ us hl => match us, hl with | [_, _], _ => rfl) fun fd F => ?_
    refine FnOk.mono (j := 35 + 1) ?_ (by omega)
    refine F.ok sc_Reader_form (fun vs H Q E h => ?_) (fun cdv A outer s H vs Q E hr hh => ?_)
    · obtain ⟨_, _, _, _, _, _, _, _, rfl, _⟩ := h
      rfl
    · obtain ⟨_, _, _, _, _, _, _, p, _, _, _, _, _, _, _, _, _, hh, _⟩ := hh
      cases p <;> simp only [Px.ht] at hh <;> omega
  | h + 1 => form_succ T (gm_Reader_form T h)
def spFormOf (K : PySem.W.Frag) : Sp := fun vs H Q _ => ∃ (F : Hp) (a l f r rg : V) (pl : Option (Px Str)) (W : Wd Str) (day : Nat) (ring : List Str) (p : Px Str), vs = [a, l, .int (day : Nat), f, r, rg] ∧ Same F H ∧ LetsIn K F l pl ∧ TabF K 100 W.facts F f ∧ TabF K 50 W.rates F r ∧ IsL RS F rg ring ∧
  WB W day ∧ (∀ n ∈ ring, (W.rates n).length = day) ∧ ring.length ≤ 50 ∧ PxIn K F pl a p ∧ p.Ok ring FT ∧ p.ht ≤ 6 ∧ OkF W day ring p ∧ Ret N0 H F (fun v F' => OfF K ring F' v (fm W day ring p)) Q
theorem LetsIn.part {F : Hp} {l : V} {pl : Option (Px Str)} (h : LetsIn K F l pl) (p : Px Str) (e : pl = some p) : ∃ u, PxIn K F pl u p := by
  subst e
  obtain ⟨_, _, _, _, _, u, _, _, hu⟩ := h
  exact ⟨u, hu⟩
theorem g_form_of (T : Txt K mg) : G P w K mg base CX0 44 "form_of" p_form_of (spFormOf K) := by
  refine G.mk' T.df_form_of T.g_form_of (fun _ _ _ _ _ _ us hl => match us, hl with | [_, _, _, _, _, _], _ => rfl) fun fd F => ?_
  refine F.ok sc_form_of (fun vs H Q E h => ?_) (fun cdv A outer s H vs Q E hr hh => ?_)
  · obtain ⟨_, _, _, _, _, _, _, _, _, _, _, rfl, _⟩ := h
    rfl
  obtain ⟨F, a, l, f, r, rg, pl, W, day, ring, p, rfl, hs, hl, tf, tr, hrg, wb, hrl, hrn, hp, hok, hht, of, k⟩ := hh
  refine ⟨_, PSs.nox (pss_one (ps_ret (pe_gm (pe_frz (pe_gk (gk_Reader T) (hr.mono (by omega)) (by rfl) T.g_Reader pass0 (pa_cons (pv 1) (pa_cons (pv 2) (pa_cons (pv 3) (pa_cons (pv 4) (pa_cons (pv 5) pa_nil))))))) T.c_Reader (gm_Reader_form T 6) (hr.mono (by omega)) pass0 (pa_cons (pv 0) pa_nil)))), ?_⟩
  refine ⟨_, rfl, _, rfl, _, rfl, _, rfl, _, rfl, fun x dx hx hdx ne => ?_⟩
  have fx : F x = none := hs.free hx
  have z0 := Fz.raw (o := .own x) hs hdx
  have hx0 : upd H dx (.own x) x = none := by rw [upd_ne (Ne.symm ne)]; exact hx
  have z1 := z0.trans (Fz.raw (o := .ins (REA K) dx []) z0.sub hx0)
  refine ⟨F, x, dx, l, f, r, rg, W.rates, day, ring, rfl, z1.sub, fx, upd_same, tr, hrg, hrn, hrl, wb.sm, fun H2 F2 D kvs z2 f2 ex hD eD fD hK => ⟨rfl, D, _, eD, True.intro, fun od => ?_⟩⟩
  have nDx : D ≠ x := fun e => by subst e; rw [upd_same] at hD; cases hD
  have hDH : H D = none := by
    cases q : H D with
    | none => rfl
    | some o => exact absurd ((z1.same _ _ q).symm.trans hD) (by simp)
  have z3 := z1.drop z2 (fun b e => by rw [e]; exact hx)
  have z4 := z3.frz (o := .frz od (.dK kvs)) hDH fD
  have ex4 : upd H2 D (.frz od (.dK kvs)) x = some (.ins (REA K) dx [("lets", l), ("day", .int (day : Nat)), ("facts", f), ("ring", rg), ("rates", .ref D)]) := by rw [upd_ne (Ne.symm nDx)]; exact ex
  have f4 : upd F2 D (.frz od (.dK kvs)) x = none := by rw [upd_ne (Ne.symm nDx)]; exact f2
  have z5 := z4.freeze hx ex4 f4
  have gD : upd (upd F2 D (.frz od (.dK kvs))) x (.ins (REA K) dx [("lets", l), ("day", .int (day : Nat)), ("facts", f), ("ring", rg), ("rates", .ref D)]) D = some (.frz od (.dK kvs)) := by rw [upd_ne nDx, upd_same]
  have g25 : Same F2 (upd (upd F2 D (.frz od (.dK kvs))) x (.ins (REA K) dx [("lets", l), ("day", .int (day : Nat)), ("facts", f), ("ring", rg), ("rates", .ref D)])) := (same_upd fD).trans (same_upd f4)
  have hR : ReF K _ (.ref x) pl W day ring := ⟨x, dx, l, f, rg, .ref D, rfl, upd_same, hl.up z5.grow, tf.up upTab z5.grow, IsL.up upS _ _ _ _ z5.grow hrg, D, od, kvs, rfl, gD, hK.up upTab g25⟩
  refine ⟨x, dx, _, rfl, ex4, rfl, _, rfl, _, _, _, pl, W, day, ring, p, rfl, z5.sub, hR, wb, hrl, by omega, fun p' e' => let ⟨u, hu⟩ := hl.part p' e'; ⟨u, hu.up z5.grow⟩, hp.up z5.grow, hok, hht, by decide, of, fun v H3 F3 z6 hv => k _ _ _ (z5.trans z6) hv⟩
/-- a bond: its name, its part, its coupon -/
structure Bd where
  name : Str
  pl : Option (Px Str)
  coupon : Px Str
abbrev BON (K : PySem.W.Frag) : Addr := He.ga K "Bond"
def BoF (K : PySem.W.Frag) (F : Hp) (v : V) (b : Bd) : Prop := ∃ a dx fs l c, v = .ref a ∧ F a = some (.ins (BON K) dx fs) ∧ fs.lookup ("name" : Str) = some (.str b.name) ∧ fs.lookup ("lets" : Str) = some l ∧ fs.lookup ("coupon" : Str) = some c ∧ LetsIn K F l b.pl ∧ PxIn K F b.pl c b.coupon
theorem upBo : Up (BoF K) := fun F F' v b e h => by
  obtain ⟨a, dx, fs, l, c, h0, h1, h2, h3, h4, h5, h6⟩ := h
  exact ⟨a, dx, fs, l, c, h0, e _ _ h1, h2, h3, h4, h5.up e, h6.up e⟩
def spNamed (K : PySem.W.Frag) : Sp := fun vs H Q _ => ∃ (F : Hp) (v : V) (bs : List Bd) (i : Nat) (b : Bd), vs = [v, .str b.name] ∧ Same F H ∧ IsL (BoF K) F v bs ∧ (bs.map Bd.name).Nodup ∧ bs[i]? = some b ∧ Ret N0 H F (fun v F' => BoF K F' v b) Q
theorem g_bond_named (T : Txt K mg) : G P w K mg base CX0 1 "bond_named" p_bond_named (spNamed K) := by
  refine G.mk' T.df_bond_named T.g_bond_named (fun _ _ _ _ _ _ us hl => match us, hl with | [_, _], _ => rfl) fun fd F => ?_
  refine F.ok sc_bond_named (fun vs H Q E h => ?_) (fun cdv A outer s H vs Q E hr hh => ?_)
  · obtain ⟨_, _, _, _, _, rfl, _⟩ := h
    rfl
  obtain ⟨F, _, bs, i, b, rfl, hs, ⟨a, va, rfl, ha, pa⟩, nd, hb, k⟩ := hh
  have la := pr_len pa
  have hib := (List.getElem?_eq_some_iff.mp hb).1
  refine ⟨_, PSs.nox (pss_cons (ps_for PassesOwn.never rfl (pi_list (pv 0)) (pg_name (i := 2) sc_bond_named.nd rfl (Or.inl rfl))
    (pss_one (ps_if (pt_cmpR op_eq (pe_fld (pv 2) rfl) (pv 1) (nomark _)) (pss_one (ps_ret (pv 2))) pss_nil)))
  pss_never), ?_⟩
  refine ⟨_, rfl, a, rfl, ⟨_, SqL.of (hs _ _ ha)⟩, for_list (xs := va) (fun j σ H' => j ≤ i ∧ H' = H ∧ ∃ r2, σ = [some (.ref a), some (.str b.name), r2]) ⟨Nat.zero_le _, rfl, _, rfl⟩ (fun j σ H' _ hp => ?_) (fun j v σ H' hv hp => ?_) (fun σ H' hp => ?_)⟩
  · obtain ⟨_, rfl, _⟩ := hp
    exact SqL.of (hs _ _ ha)
  · obtain ⟨hj, rfl, r2, rfl⟩ := hp
    obtain ⟨b', hb', hB⟩ := pr_at' pa hv
    have hB' := hB
    obtain ⟨x, dx, fs, l, c, rfl, h1, h2, _⟩ := hB'
    refine ⟨_, rfl, x, _, dx, fs, _, rfl, hs _ _ h1, T.c_Bond, T.n_Bond_name, h2, _, rfl, rfl, _, rfl, ite2 (fun e => ?_) (fun e => ?_)⟩
    · have e : b'.name = b.name := V.str.inj (of_decide_eq_true e)
      have ej : j = i := by
        have hj2 := (List.getElem?_eq_some_iff.mp hb').1
        have e1 : (bs.map Bd.name)[j]? = some b.name := by rw [List.getElem?_map, hb']; exact congrArg some e
        have e2 : (bs.map Bd.name)[i]? = some b.name := by rw [List.getElem?_map, hb]; rfl
        exact (List.getElem?_inj (by rw [List.length_map]; exact hj2) nd).mp (e1.trans e2.symm)
      subst ej
      rw [hb] at hb'
      cases hb'
      exact ⟨_, rfl, k _ _ _ (Fz.refl hs) hB⟩
    · refine ⟨?_, rfl, _, rfl⟩
      rcases Nat.lt_or_eq_of_le hj with z | z
      · exact z
      · subst z
        rw [hb] at hb'
        cases hb'
        exact absurd (decide_eq_true rfl) e
  · obtain ⟨hj, _⟩ := hp
    omega
end
end K3
end
section
set_option Elab.async false
set_option linter.all false
set_option maxRecDepth 100000
set_option exponentiation.threshold 100
namespace K3
open PySem PySem.Spec PyProof.Rows L2
/-! ### earlier, ring_system, ring_rates -/
section
variable {P : Program} {w : World} {K : PySem.W.Frag} {mg : Str → Option Value} {base : Heap}
def spEarlier (K : PySem.W.Frag) : Sp := fun vs H Q _ => ∃ (F : Hp) (bv rv : V) (bs : List Bd) (f : Str → Row) (day : Nat), vs = [bv, .int (day : Nat), rv] ∧ Same F H ∧ IsL (BoF K) F bv bs ∧ TabF K 20 f F rv ∧ (∀ b ∈ bs, (f b.name).length = day) ∧ bs.length ≤ 10 ∧ day < 1000 ∧ Ret N0 H F (fun v F' => TabF K 50 f F' v) Q
theorem g_earlier (T : Txt K mg) : G P w K mg base CX0 1 "earlier" p_earlier (spEarlier K) := by
  refine G.mk' T.df_earlier T.g_earlier (fun _ _ _ _ _ _ us hl => match us, hl with | [_, _, _], _ => rfl) fun fd F => ?_
  refine F.ok sc_earlier (fun vs H Q E h => ?_) (fun cdv A outer s H vs Q E hr hh => ?_)
  · obtain ⟨_, _, _, _, _, _, rfl, _⟩ := h
    rfl
  obtain ⟨F, _, _, bs, f, day, rfl, hs, ⟨ba, vb, rfl, hba, pb⟩, ⟨ra, od, kr, rfl, hra, hK⟩, hlen, hbn, hday, k⟩ := hh
  have e0 := hK.1.le
  have lb := pr_len pb
  refine ⟨_, PSs.nox (pss_cons (ps_setDc (i := 3) (own := [("name", 6)]) (g := gName 6) (tt := tYes) rfl sc_earlier.nd rfl rfl (sw_trueD rfl rfl rfl (by decide +kernel)) (pi_keys (pv 2)) (blkOk_by (own := [("name", 6)]) (N := n_earlier) (sc := defScope s_earlier) (by decide +kernel)) (fun _ _ _ _ _ => (pg_name (i := 6) sc_earlier.nd rfl (Or.inl rfl))) (fun _ _ _ _ _ => pts_nil) (fun _ _ _ _ _ => (pv 6)) (fun _ _ _ _ _ => (pe_callTy (call_list_ofK (K := K) rfl) (by rfl) T.f_list (by decide +kernel) (pa_cons (pe_dget (hu_of hr) (pv 2) (pv 6) (fun _ _ => rfl)) pa_nil))))
  (pss_cons (ps_for PassesOwn.never rfl (pi_list (pv 0)) (pg_name (i := 4) sc_earlier.nd rfl (Or.inl rfl))
    (pss_cons (ps_set (i := 5) sc_earlier.nd rfl (.inl rfl) (pe_slice sl_list (pe_callTy call_list_of (by rfl) T.f_list (by decide +kernel) (pa_cons (pe_dget2 (hu_of hr) (pv 2) (pe_fld (pv 4) rfl) (pe_lst pa_nil) ⟨rfl, rfl, rfl, rfl⟩) pa_nil)) po_none (po_some (pv 1))))
  (pss_one (ps_dput (hu_of hr) (pv 3) (pe_fld (pv 4) rfl) (pe_op op_cat (pv 5) (pe_op op_rep (pe_lst (pa_cons pe_non pa_nil)) (pe_op op_sub (pv 1) (pe_callB call_len_seq (by rfl) T.f_len (by decide +kernel) (pa_cons (pv 5) pa_nil))))) rfl))))
  (pss_one (ps_ret (pe_frz (pv 3)))))), ?_⟩
  refine ⟨_, rfl, ra, od, rfl, .inl ⟨kr, hs _ _ hra, dc_K (fun i acc F' => Paired (fun p q => p.1 = q.1 ∧ ∀ n, q.1 = Sum.inr n → RFs K F' p.2 (f n)) acc (kr.take i)) hs hra hK.1.nd (by omega) .nil (fun _ => rfl) (fun x H' R q => ⟨_, rfl, q⟩) (fun i acc H' F' ky v hkv ha z p R hR => ?_) (fun D acc H1 F1 hD z1 e1 e2 ek p => ?_)⟩⟩
  · have hv := valV_at hK.1.nd hkv
    obtain ⟨n, en⟩ := hK.1.st _ (valV_mem hv)
    have en : ky = Sum.inr n := en
    subst en
    have q := hK.2 n
    rw [hv] at q
    obtain ⟨c, vc, rfl, hc, pc⟩ := q
    refine ⟨_, rfl, _, rfl, ra, _, rfl, dget_frz (z.same _ _ (hs _ _ hra)) hv, c, vc, rfl, .inl (SqL.of (z.same _ _ (hs _ _ hc))), fun l hl => ?_⟩
    have z2 := Fz.nw (o := .lst vc) z.sub hl
    refine hR _ _ _ z2 (pr_take (L2.Paired.mapP p fun _ _ h => ⟨h.1, fun m hm => upFs _ _ _ _ z2.grow (h.2 m hm)⟩) hkv ⟨rfl, fun m hm => ?_⟩)
    cases hm
    exact ⟨l, vc, rfl, upd_same, paired_up upF (z.grow.trans z2.grow) pc⟩
  · have p := pr_all p (Nat.le_refl _)
    have hK1 : DcK (pTab K f) F1 acc 20 := by
      refine ⟨hK.1.of_keys ek, fun n => ?_⟩
      rcases paired_val (R := fun q u _ => ∀ n, q = Sum.inr n → RFs K F1 u (f n)) p (Sum.inr n) with ⟨h1, h2⟩ | ⟨v, u, h1, h2, h3⟩
      · rw [h2]
        have q := hK.2 n
        rw [h1] at q
        exact q
      · rw [h2]
        exact h3 n rfl
    refine ⟨_, rfl, ba, rfl, ⟨_, SqL.of (z1.same _ _ (hs _ _ hba))⟩, for_list (xs := vb) (fun i σ H' => ∃ (r4 r5 r6 : Option V) (F' : Hp) (cur : KVs), σ = [some (.ref ba), some (.int (day : Nat)), some (.ref ra), some (.ref D), r4, r5, r6] ∧ Fz N0 H F H' F' ∧
      H' D = some (.dK cur) ∧ F' D = none ∧ DcK (pTab K f) F' cur (20 + i)) ⟨none, none, none, F1, acc, rfl, z1, e1, e2, hK1⟩ (fun i σ H' _ hp => ?_) (fun i v σ H' hv hp => ?_) (fun σ H' hp => ?_)⟩
    · obtain ⟨_, _, _, F', _, rfl, z, _⟩ := hp
      exact SqL.of (z.sub _ _ (z.grow _ _ hba))
    · obtain ⟨r4, r5, r6, F', cur, rfl, z, eD, fD, hC⟩ := hp
      obtain ⟨b, hb, x, dx, fs, l, c, rfl, h1, h2, _⟩ := pr_at' pb hv
      have hi : i < vb.length := (List.getElem?_eq_some_iff.mp hv).1
      have hra' := z.sub _ _ (z.grow _ _ hra)
      have hx' := z.sub _ _ (z.grow _ _ h1)
      have hbl := hlen b (List.mem_of_getElem? hb)
      refine ⟨_, rfl, ra, rfl, .inl ⟨kr, .inr ⟨od, hra'⟩⟩, _, rfl, x, _, dx, fs, _, rfl, hx', T.c_Bond, T.n_Bond_name, h2, (by decide : 0 ≤ sizeLine), fun l0 hl0 => ⟨_, dget_any (k := Sum.inr b.name) (.inr ⟨od, (Fz.raw z.sub hl0).same _ _ hra'⟩), ?_⟩⟩
      have z3 := Fz.raw (o := .lst []) z.sub hl0
      obtain ⟨p1, ys, q1, q2, q3⟩ := tab_get (hK.up upTab z.grow) z.sub hl0 b.name
      rw [q1]
      have ly := pr_len q3
      refine ⟨p1, ys, rfl, .inl (SqL.of q2), fun l1 hl1 => ⟨_, rfl, _, rfl, l1, ys, rfl, SqL.of upd_same, fun l2 hl2 => ?_⟩⟩
      have z4 := Fz.raw (o := .lst ys) z3.sub hl1
      rw [cut_to, List.take_of_length_le (show ys.length ≤ day by omega)]
      have z5 := Fz.raw (o := .lst ys) z4.sub hl2
      refine ⟨_, rfl, (by decide : 1 ≤ sizeLine), fun l3 hl3 => ?_⟩
      have z6 := Fz.raw (o := .lst [V.non]) z5.sub hl3
      have e2' := z6.same _ _ (upd_same (a := l2))
      refine ⟨_, rfl, _, rfl, l2, ys, rfl, .inl (SqL.of e2'), _, _, rfl, rfl, l3, _, _, rfl, rfl, upd_same, by omega, by omega, ?_, fun l4 hl4 => ?_⟩
      · have : ((day : Int) - (ys.length : Int)).toNat = 0 := by omega
        rw [this]; decide
      · have e7 : (List.replicate ((day : Int) - (ys.length : Int)).toNat [V.non]).flatten = [] := by
          have : ((day : Int) - (ys.length : Int)).toNat = 0 := by omega
          rw [this]; rfl
        rw [e7]
        have z7 := Fz.raw (o := .lst []) z6.sub hl4
        refine ⟨l2, l4, ys, [], rfl, rfl, z7.same _ _ e2', upd_same, by simp; exact small10' (by omega), fun l5 hl5 => ?_⟩
        rw [List.append_nil]
        have z8 := Fz.nw (o := .lst ys) z7.sub hl5
        have zz := z3.trans (z4.trans (z5.trans (z6.trans (z7.trans z8))))
        have eD8 := zz.same _ _ eD
        have fD8 := zz.outS fD eD
        have lc := hC.1.le
        refine ⟨_, rfl, _, rfl, x, _, dx, fs, _, rfl, zz.same _ _ hx', T.c_Bond, T.n_Bond_name, h2, D, _, rfl, .inl ⟨cur, Sum.inr b.name, eD8, rfl, small10 (by omega), rfl⟩, ?_⟩
        refine ⟨_, _, _, _, _, rfl, (z.trans zz).set (.inl hD) fD8, upd_same, fD8, ?_⟩
        exact tab_put (hC.up upTab zz.grow) ⟨l5, ys, rfl, upd_same, paired_up upF zz.grow q3⟩
    · obtain ⟨r4, r5, r6, F', cur, rfl, z, eD, fD, hC⟩ := hp
      refine ⟨_, rfl, D, _, eD, True.intro, fun od' => ?_⟩
      have z2 := z.frz (o := .frz od' (.dK cur)) hD fD
      exact k _ _ _ z2 ⟨D, od', cur, rfl, upd_same, DcK.up upTab (show DcK (pTab K f) F' cur 50 from ⟨hC.1.mono (by omega), hC.2⟩) (same_upd fD)⟩
/-- the forms of all coupons, or the first bond that has none -/
def sysE (W : Wd Str) (day : Nat) (ring : List Str) : List Bd → Except Str (List (Fm Str))
  | [] => .ok []
  | b :: bs => match fm W day ring b.coupon with
    | none => .error b.name
    | some f => match sysE W day ring bs with
      | .error e => .error e
      | .ok l => .ok (f :: l)
def rowF (ring : List Str) (f : Fm Str) : Row := ring.map f.1
structure BsOk (W : Wd Str) (day : Nat) (ring : List Str) (bs : List Bd) : Prop where
  nm : bs.map Bd.name = ring
  nd : ring.Nodup
  len : ring.length ≤ 3
  wb : WB W day
  rl : ∀ n ∈ ring, (W.rates n).length = day
  ok : ∀ b ∈ bs, b.coupon.Ok ring FT ∧ b.coupon.ht ≤ 6 ∧ OkF W day ring b.coupon
def ErrN (K : PySem.W.Frag) (H F : Hp) (E : XK) (n : Str) : Prop := ∀ d H' F', Fz N0 H F H' F' → H' d = some (.xd [("name", .str n)]) → E (.ref (He.ga K "NotStraight")) (some d) H'
def SysP (K : PySem.W.Frag) (ring : List Str) (fs : List (Fm Str)) (v : V) (F' : Hp) : Prop := ∃ t a b, v = .ref t ∧ SqT K F' t [a, b] ∧ RM K F' a (fs.map (rowF ring)) ∧ RFs K F' b (fs.map (·.2))
def spSys (K : PySem.W.Frag) : Sp := fun vs H Q E => ∃ (F : Hp) (bv rg f r : V) (bs : List Bd) (W : Wd Str) (day : Nat) (ring : List Str), vs = [bv, rg, .int (day : Nat), f, r] ∧ Same F H ∧ IsL (BoF K) F bv bs ∧ IsL RS F rg ring ∧ TabF K 20 W.facts F f ∧ TabF K 20 W.rates F r ∧ BsOk W day ring bs ∧
  match sysE W day ring bs with
  | .error n => ErrN K H F E n
  | .ok fs => Ret N0 H F (SysP K ring fs) Q
theorem Dc.mono {C : Cell} {N M : Nat} {F : Hp} {v : V} (h : Dc C N F v) (e : N ≤ M) : Dc C M F v := let ⟨a, od, kvs, h1, h2, h3⟩ := h; ⟨a, od, kvs, h1, h2, h3.1.mono e, h3.2⟩
theorem co_get (T : Txt K mg) {ring : List Str} {f : Str → Rat} {F : Hp} {kvs : KVs} {N : Nat} (hK : DcK (pCo K ring f) F kvs N) (n : Str) : IsF K F ((valV kvs (Sum.inr n : Key)).getD (.ref (He.ga K "NONE"))) (f n) := by
  have q := hK.2 n
  cases z : valV kvs (Sum.inr n : Key) with
  | none => rw [z] at q; have q : f n = 0 := q; rw [q]; exact isNONE T F
  | some u => rw [z] at q; exact q.2.2
theorem g_ring_system (T : Txt K mg) : G P w K mg base (L2.CX P w) 46 "ring_system" p_ring_system (spSys K) := by
  refine G.mk' T.df_ring_system T.g_ring_system (fun _ _ _ _ _ _ us hl => match us, hl with | [_, _, _, _, _], _ => rfl) fun fd F => ?_
  refine F.ok sc_ring_system (fun vs H Q E h => ?_) (fun cdv A outer s H vs Q E hr hh => ?_)
  · obtain ⟨_, _, _, _, _, _, _, _, _, rfl, _⟩ := h
    rfl
  obtain ⟨F, _, _, f, r, bs, W, day, ring, rfl, hs, hb, hrg, tf, tr, ok, k⟩ := hh
  have hb0 := hb
  obtain ⟨ba, vb, rfl, hba, pb⟩ := hb0
  have hrg0 := hrg
  obtain ⟨ga, vg, rfl, hga, pg⟩ := hrg0
  have evg : vg = ring.map V.str := paired_eq pg
  subst evg
  have lbs : bs.length = ring.length := by rw [← ok.nm, List.length_map]
  have hl3 := ok.len
  have hbd : ∀ b ∈ bs, b.name ∈ ring := fun b h => by rw [← ok.nm]; exact List.mem_map.mpr ⟨b, h, rfl⟩
  refine ⟨_, (pss_cons (ps_set (i := 5) sc_ring_system.nd rfl (.inl rfl) (pe_lst pa_nil))
  (pss_cons (ps_set (i := 6) sc_ring_system.nd rfl (.inl rfl) (pe_lst pa_nil))
  (pss_cons (ps_set (i := 7) sc_ring_system.nd rfl (.inl rfl) (pe_g (g_earlier T) (hr.mono (by omega)) (by rfl) pass0 (pa_cons (pv 0) (pa_cons (pv 2) (pa_cons (pv 4) pa_nil)))))
  (pss_cons (ps_for (passes_of rfl) rfl (pi_list (pv 1)) (pg_name (i := 8) sc_ring_system.nd rfl (Or.inl rfl))
    (pss_cons (ps_set (i := 9) sc_ring_system.nd rfl (.inl rfl) (pe_g (g_bond_named T) (hr.mono (by omega)) (by rfl) pass0 (pa_cons (pv 0) (pa_cons (pv 8) pa_nil))))
  (pss_cons (ps_set (i := 10) sc_ring_system.nd rfl (.inr rfl) (pe_g (g_form_of T) (hr.mono (by omega)) (by rfl) pass0 (pa_cons (pe_fld (pv 9) rfl) (pa_cons (pe_fld (pv 9) rfl) (pa_cons (pv 2) (pa_cons (pv 3) (pa_cons (pv 7) (pa_cons (pv 1) pa_nil))))))))
  (pss_cons (ps_if (pt_cmpR op_isN (pv 10) pe_non (nomark _)) (pss_one (ps_raise rfl (takes_of rfl rfl rfl rfl) (pmk_g T.e_NotStraight (gx_NotStraight T) (hr.mono (by omega)) pass0 (by rfl) T.g_NotStraight (pa_cons (pv 8) pa_nil)))) pss_nil)
  (pss_cons (ps_expr (pe_bm PySem.F.plainAttrs_list PySem.F.slot_list_append PySem.F.type_list_append mt_append (pv 5) (pa_cons (pe_lc (own := [("other", 11)]) (g := gName 11) (tt := tYes) rfl sc_ring_system.nd (pi_list (pv 1)) (blkOk_by (own := [("other", 11)]) (N := n_ring_system) (sc := defScope s_ring_system) (by decide +kernel)) (fun _ _ _ _ _ => (pg_name (i := 11) sc_ring_system.nd rfl (Or.inl rfl))) (fun _ _ _ _ _ => pts_nil) (fun _ _ _ _ _ => (pe_dget2 (hu_of hr) (pe_ix (ix_tupK (K := K) rfl) (pv 10) pe_int (fun _ _ => rfl)) (pv 11) (pe_cst T.g_NONE (by rfl)) ⟨rfl, rfl, rfl, rfl⟩))) pa_nil)))
  (pss_one (ps_expr (pe_bm PySem.F.plainAttrs_list PySem.F.slot_list_append PySem.F.type_list_append mt_append (pv 6) (pa_cons (pe_ix ix_tup (pv 10) pe_int (fun _ _ => rfl)) pa_nil)))))))))
  (pss_one (ps_ret (pe_tup (pa_cons (pv 5) (pa_cons (pv 6) pa_nil))))))))), ?_⟩
  refine ⟨(by decide : 0 ≤ sizeLine), fun ra hra => ⟨(by decide : 0 ≤ sizeLine), fun rb hrb => ?_⟩⟩
  have z1 := (Fz.raw (o := .lst []) hs hra).trans (Fz.raw (o := .lst []) (Fz.raw hs hra).sub hrb)
  have nab : ra ≠ rb := ne_of_none upd_same hrb
  have hrbH : H rb = none := by rw [upd_ne (Ne.symm nab)] at hrb; exact hrb
  refine ⟨_, rfl, _, rfl, _, rfl, F, _, r, bs, W.rates, day, rfl, z1.sub, hb, tr, fun b h => ok.rl _ (hbd b h), by omega, ok.wb.sm, fun kn H2 F2 z2 hkn => ?_⟩
  have ea1 : upd (upd H ra (.lst [])) rb (.lst []) ra = some (.lst []) := by rw [upd_ne nab, upd_same]
  have ea2 := z2.same _ _ ea1
  have eb2 := z2.same rb (.lst []) upd_same
  have fa2 := z2.outS (hs.free hra) ea1
  have fb2 := z2.outS (hs.free hrbH) (upd_same (a := rb) (o := .lst []))
  have zz2 := z1.trans z2
  refine ⟨_, rfl, ga, rfl, ⟨_, SqL.of (zz2.same _ _ (hs _ _ hga))⟩, for_list (xs := ring.map V.str) (fun i σ H' => ∃ (r8 r9 r10 : Option V) (F' : Hp) (va vb' : List V) (gs : List (Fm Str)), σ = [some (.ref ba), some (.ref ga), some (.int (day : Nat)), some f, some r, some (.ref ra), some (.ref rb), some kn, r8, r9, r10, none] ∧ Fz N0 H F H' F' ∧ Same F2 F' ∧
    H' ra = some (.lst va) ∧ H' rb = some (.lst vb') ∧ F' ra = none ∧ F' rb = none ∧ va.length = i ∧ vb'.length = i ∧ Paired (RFs K F') va (gs.map (rowF ring)) ∧ Paired (RF K F') vb' (gs.map (·.2)) ∧ sysE W day ring bs = (sysE W day ring (bs.drop i)).map (gs ++ ·))
    ⟨none, none, none, F2, [], [], [], rfl, zz2, Same.refl _, ea2, eb2, fa2, fb2, rfl, rfl, .nil, .nil, ?_⟩ (fun i σ H' _ hp => ?_) (fun i v σ H' hv hp => ?_) (fun σ H' hp => ?_)⟩
  · rw [List.drop_zero]
    cases sysE W day ring bs <;> rfl
  · obtain ⟨_, _, _, F', _, _, _, rfl, z, _⟩ := hp
    exact SqL.of (z.sub _ _ (z.grow _ _ hga))
  · obtain ⟨r8, r9, r10, F', va, vb', gs, rfl, z, g2, ea, eb, fa, fb, la, lb, pa, pb', hsys⟩ := hp
    have hi : i < ring.length := by have := (List.getElem?_eq_some_iff.mp hv).1; rw [List.length_map] at this; exact this
    have hib : i < bs.length := by omega
    obtain ⟨b, hbi⟩ : ∃ b, bs[i]? = some b := ⟨bs[i], List.getElem?_eq_getElem hib⟩
    have hbm := List.mem_of_getElem? hbi
    have ev : v = V.str b.name := by
      have e1 : ring[i]? = some b.name := by rw [← ok.nm, List.getElem?_map, hbi]; rfl
      rw [List.getElem?_map, e1] at hv
      exact (Option.some.inj hv).symm
    subst ev
    obtain ⟨okc, oht, okf⟩ := ok.ok b hbm
    have gz := z.grow
    refine ⟨_, rfl, _, rfl, F', _, bs, i, b, rfl, z.sub, IsL.up upBo _ _ _ _ gz hb, by rw [ok.nm]; exact ok.nd, hbi, fun bo H3 F3 z3 hbo => ?_⟩
    have hbo0 := hbo
    obtain ⟨xb, dxb, fsb, l, c, rfl, hxb, hn1, hn2, hn3, hl, hc⟩ := hbo0
    have z03 := z.trans z3
    have hx3 := z3.sub _ _ hxb
    refine ⟨_, rfl, xb, _, dxb, fsb, _, rfl, hx3, T.c_Bond, T.n_Bond_coupon, hn3, _, rfl, xb, _, dxb, fsb, _, rfl, hx3, T.c_Bond, T.n_Bond_lets, hn2, _, rfl, _, rfl, _, rfl, _, rfl, ?_⟩
    refine ⟨F3, c, l, f, kn, _, b.pl, W, day, ring, b.coupon, rfl, z3.sub, hl, (tf.up upTab (gz.trans z3.grow)).mono (by decide), hkn.up upTab (g2.trans z3.grow), IsL.up upS _ _ _ _ (gz.trans z3.grow) hrg, ok.wb, ok.rl, by omega, hc, okc, oht, okf, fun fv H4 F4 z4 hfv => ?_⟩
    have z04 := z03.trans z4
    have z34 := z3.trans z4
    have ed : bs.drop i = b :: bs.drop (i + 1) := by
      rw [List.drop_eq_getElem_cons hib]
      rw [List.getElem?_eq_getElem hib] at hbi
      rw [Option.some.inj hbi]
    rw [ed] at hsys
    cases qf : fm W day ring b.coupon with
    | none =>
      rw [qf] at hfv
      have hfv : fv = .non := hfv
      subst hfv
      have es : sysE W day ring bs = .error b.name := by rw [hsys]; simp only [sysE, qf]; rfl
      rw [es] at k
      refine ⟨_, rfl, rfl, _, rfl, inT rfl ?_⟩
      exact ⟨_, rfl, (by simp), mk_x rfl fun d hd' => k d _ F4 (z04.trans (Fz.raw z04.sub hd')) upd_same⟩
    | some g =>
      rw [qf] at hfv
      obtain ⟨t, d, c', rfl, ht, hd0, hc'⟩ := hfv
      obtain ⟨da, od, kvs, rfl, hda, hK⟩ := hd0
      refine ⟨_, rfl, rfl, _, rfl, inF rfl ?_⟩
      have ga4 := z04.sub _ _ (z04.grow _ _ hga)
      have ea4 := z34.same _ _ ea
      have eb4 := z34.same _ _ eb
      have fa4 := z34.outS fa ea
      have fb4 := z34.outS fb eb
      refine ⟨_, rfl, .inl ⟨rfl, _, SqL.of ea4⟩, _, rfl, ga, rfl, ⟨_, SqL.of ga4⟩, lc_L (S := N0) (a := ga) (xs := ring.map V.str) (fun j acc F5 => Paired (RF K F5) acc ((rowF ring g).take j)) z4.sub (fun _ z => z.elim) ga4 (fun z => z.elim) .nil (by rw [List.length_map]; omega) (fun _ => rfl) (fun j acc H5 F5 v5 hv5 z5 p5 R R' hR hR' => ?_) (fun D ys H5 F5 hD z5 e51 e52 p5 => ?_)⟩
      · obtain ⟨n5, hn5, rfl⟩ : ∃ n, ring[j]? = some n ∧ v5 = V.str n := by
          rw [List.getElem?_map] at hv5
          cases q : ring[j]? with
          | none => rw [q] at hv5; cases hv5
          | some n => rw [q] at hv5; exact ⟨n, rfl, (Option.some.inj hv5).symm⟩
        have hd5 := z5.same _ _ (z4.sub _ _ hda)
        refine yes ⟨_, rfl, t, _, _, _, rfl, rfl, sq_t (z4.sub.trans z5.same) ht, rfl, da, rfl, .inl ⟨kvs, .inr ⟨od, hd5⟩⟩, _, rfl, _, dget_any (k := Sum.inr n5) (.inr ⟨od, hd5⟩), hR _ H5 F5 (Fz.refl z5.sub) (pr_take p5 (x := g.1 n5) ?_ ((co_get T hK n5).up z5.grow))⟩
        unfold rowF
        rw [List.getElem?_map, hn5]; rfl
      · have p5 := pr_all p5 (by unfold rowF; rw [List.length_map, List.length_map]; omega)
        have ea5 := z5.same _ _ ea4
        have eb5 := z5.same _ _ eb4
        have fa5 := z5.outS fa4 ea4
        have fb5 := z5.outS fb4 eb4
        have z6 := z5.freeze hD e51 e52
        have nra : ra ≠ D := fun z => by rw [← z, ea4] at hD; cases hD
        have nrb : rb ≠ D := fun z => by rw [← z, eb4] at hD; cases hD
        refine ⟨ra, va, _, rfl, rfl, ea5, small10 (by omega), ?_⟩
        have f6a : upd F5 D (.lst ys) ra = none := by rw [upd_ne nra]; exact fa5
        have f6b : upd F5 D (.lst ys) rb = none := by rw [upd_ne nrb]; exact fb5
        have z7 := (z04.trans z6).set (o := .lst (va ++ [.ref D])) (.inl hra) f6a
        refine ⟨_, rfl, .inl ⟨rfl, _, SqL.of (show upd H5 ra (.lst (va ++ [.ref D])) rb = some (.lst vb') by rw [upd_ne (Ne.symm nab)]; exact eb5)⟩, _, rfl, t, _, _, _, rfl, rfl, sq_t (z6.grow.trans z7.sub) ht, rfl, rb, vb', _, rfl, rfl, by rw [upd_ne (Ne.symm nab)]; exact eb5, small10 (by omega), ?_⟩
        have z8 := z7.set (o := .lst (vb' ++ [c'])) (.inl hrbH) f6b
        have g68 : Same F' (upd F5 D (.lst ys)) := z34.grow.trans z6.grow
        refine ⟨_, _, _, upd F5 D (.lst ys), va ++ [.ref D], vb' ++ [c'], gs ++ [g], rfl, z8, g2.trans g68, by rw [upd_ne nab, upd_same], upd_same, f6a, f6b, by simp [la], by simp [lb], ?_, ?_, ?_⟩
        · rw [List.map_append]
          exact pr_snoc (paired_up upFs g68 pa) ⟨D, ys, rfl, upd_same, paired_up upF (same_upd e52) p5⟩
        · rw [List.map_append]
          exact pr_snoc (paired_up upF g68 pb') (hc'.up z6.grow)
        · rw [hsys]
          simp only [sysE, qf]
          cases sysE W day ring (bs.drop (i + 1)) with
          | error e => rfl
          | ok l => show Except.ok (gs ++ g :: l) = Except.ok ((gs ++ [g]) ++ l); rw [List.append_assoc]; rfl
  · obtain ⟨r8, r9, r10, F', va, vb', gs, rfl, z, g2, ea, eb, fa, fb, la, lb, pa, pb', hsys⟩ := hp
    rw [List.drop_eq_nil_of_le (by rw [List.length_map]; omega)] at hsys
    have es : sysE W day ring bs = .ok gs := by rw [hsys]; show Except.ok (gs ++ []) = _; rw [List.append_nil]
    rw [es] at k
    have z2' := z.freeze hra ea fa
    have z3' := z2'.freeze hrbH eb (by rw [upd_ne (Ne.symm nab)]; exact fb)
    refine ⟨_, rfl, _, rfl, two_ok, fun q hq => ?_⟩
    have z4' := Fz.nw (o := .tup [.ref ra, .ref rb]) z3'.sub hq
    have gg : Same F' (upd (upd (upd F' ra (.lst va)) rb (.lst vb')) q (.tup [.ref ra, .ref rb])) := (same_upd fa).trans ((same_upd (by rw [upd_ne (Ne.symm nab)]; exact fb)).trans z4'.grow)
    refine k _ _ _ (z3'.trans z4') ⟨q, _, _, rfl, .inl (.inl upd_same), ⟨ra, va, rfl, z4'.grow _ _ (by rw [upd_ne nab, upd_same]), paired_up upFs gg pa⟩, rb, vb', rfl, z4'.grow _ _ upd_same, paired_up upF gg pb'⟩
end
end K3
end
section
set_option Elab.async false
set_option linter.all false
set_option maxRecDepth 100000
set_option exponentiation.threshold 100
namespace K3
open PySem PySem.Spec PyProof.Rows L2
/-! ### ring_rates -/
def rowT (i : Nat) (r : Row) : Row := (List.range r.length).map fun j => (if j = i then 1 else 0) - at0 r j
def matT (R : List Row) : List Row := (List.range R.length).map fun i => rowT i (R.getD i [])
theorem rowT_get {i j : Nat} {r : Row} {x : Rat} (h : r[j]? = some x) : (rowT i r)[j]? = some ((if j = i then 1 else 0) - x) := by
  have hj := (List.getElem?_eq_some_iff.mp h).1
  unfold rowT
  rw [List.getElem?_map, List.getElem?_range hj]
  show some (_ - at0 r j) = _
  rw [show at0 r j = x from by unfold at0; rw [List.getD_eq_getElem?_getD, h]; rfl]
theorem rowT_len (i : Nat) (r : Row) : (rowT i r).length = r.length := by unfold rowT; rw [List.length_map, List.length_range]
theorem matT_get {R : List Row} {i : Nat} {r : Row} (h : R[i]? = some r) : (matT R)[i]? = some (rowT i r) := by
  have hi := (List.getElem?_eq_some_iff.mp h).1
  unfold matT
  rw [List.getElem?_map, List.getElem?_range hi]
  show some (rowT i (R.getD i [])) = _
  rw [List.getD_eq_getElem?_getD, h]; rfl
theorem matT_len (R : List Row) : (matT R).length = R.length := by unfold matT; rw [List.length_map, List.length_range]
theorem matT_w {R : List Row} {n : Nat} (h : ∀ r ∈ R, r.length = n) : ∀ m ∈ matT R, m.length = n := fun m hm => by
  obtain ⟨i, hi, rfl⟩ := List.mem_map.mp hm
  have hi := List.mem_range.mp hi
  rw [rowT_len, List.getD_eq_getElem?_getD, List.getElem?_eq_getElem hi]
  exact h _ (List.getElem_mem hi)
/-- all numbers are small -/
structure Sizes (W : Wd Str) (day : Nat) (ring : List Str) (bs : List Bd) : Prop where
  f : ∀ fs, sysE W day ring bs = .ok fs → ∀ f ∈ fs, FSm f
  m : ∀ fs, sysE W day ring bs = .ok fs → ∀ m ∈ matT (fs.map (rowF ring)), RowB ring.length 0 m
  r : ∀ fs, sysE W day ring bs = .ok fs → ∀ j, Bt 41 42 (at0 (fs.map (·.2)) j)
theorem sysE_len {W : Wd Str} {day : Nat} {ring : List Str} : ∀ {bs : List Bd} {fs : List (Fm Str)}, sysE W day ring bs = .ok fs → fs.length = bs.length
  | [], fs, e => by cases e; rfl
  | b :: bs, fs, e => by
    simp only [sysE] at e
    cases q : fm W day ring b.coupon with
    | none => rw [q] at e; cases e
    | some f =>
      rw [q] at e
      cases q2 : sysE W day ring bs with
      | error m => simp only [q2] at e; cases e
      | ok l =>
        simp only [q2] at e
        cases e
        rw [List.length_cons, List.length_cons, sysE_len q2]
section
variable {P : Program} {w : World} {K : PySem.W.Frag} {mg : Str → Option Value} {base : Heap}
def ErrS (K : PySem.W.Frag) (H F : Hp) (E : XK) (ring : List Str) (M : List Row) : Prop := ∀ d H' F' lv wv, Fz N0 H F H' F' → H' d = some (.xd [("weights", wv), ("ring", lv)]) → IsL RS F' lv ring →
  (∃ f, f < ring.length ∧ f ∉ (sweep M ring.length).2.2 ∧ RFs K F' wv (kv ring.length f (sweep M ring.length).1 (sweep M ring.length).2.2)) → E (.ref (He.ga K "NoSingleRate")) (some d) H'
def RatP (K : PySem.W.Frag) (ring : List Str) (fs : List (Fm Str)) (H F : Hp) (Q : VK) (E : XK) : Prop :=
  ((sweep (augT (matT (fs.map (rowF ring))) (fs.map (·.2))) ring.length).2.2.length = ring.length → Ret N0 H F (fun v F' => RFs K F' v ((sweep (augT (matT (fs.map (rowF ring))) (fs.map (·.2))) ring.length).1.map fun d => at0 d ring.length)) Q) ∧
  ((sweep (augT (matT (fs.map (rowF ring))) (fs.map (·.2))) ring.length).2.2.length < ring.length → ErrS K H F E ring (matT (fs.map (rowF ring))))
def spRates (K : PySem.W.Frag) : Sp := fun vs H Q E => ∃ (F : Hp) (bv rg f r : V) (bs : List Bd) (W : Wd Str) (day : Nat) (ring : List Str), vs = [bv, rg, .int (day : Nat), f, r] ∧ Same F H ∧ IsL (BoF K) F bv bs ∧ IsL RS F rg ring ∧ TabF K 20 W.facts F f ∧ TabF K 20 W.rates F r ∧ BsOk W day ring bs ∧ Sizes W day ring bs ∧ ring ≠ [] ∧
  match sysE W day ring bs with
  | .error n => ErrN K H F E n
  | .ok fs => RatP K ring fs H F Q E
/-- where the system has no single solution, the matrix has a kernel -/
theorem many_ker {M : List Row} {r : Row} {n : Nat} (hw : ∀ m ∈ M, m.length = n) (hl : M.length = n) (h : (sweep (augT M r) n).2.2.length < n) : ¬ ∀ f, f < n → f ∈ (sweep M n).2.2 := by
  intro hf
  have hA := augT_w (r := r) hw
  have I1 := si_sweep hA n (by omega)
  have I2 := si_sweep hw n (Nat.le_refl _)
  have e2 : (sweep M n).2.2.length = n := by
    have h1 := I2.le
    rcases Nat.lt_or_eq_of_le h1 with z | z
    · obtain ⟨f, h2, h3⟩ := I2.free z
      exact absurd (hf f h2) h3
    · exact z
  have kt := ker_triv I2 (Ext.refl hw) e2
  obtain ⟨f, h2, h3⟩ := I1.free h
  have kk := kv_ok I1 (augT_ext hw) h2 h3
  have := kt _ kk.1 f h2
  have e3 : at0 (kv n f (sweep (augT M r) n).1 (sweep (augT M r) n).2.2) f = 0 := this
  rw [kk.2] at e3
  exact absurd e3 (by decide)
theorem g_ring_rates (T : Txt K mg) : G P w K mg base (L2.CX P w) 48 "ring_rates" p_ring_rates (spRates K) := by
  refine G.mk' T.df_ring_rates T.g_ring_rates (fun _ _ _ _ _ _ us hl => match us, hl with | [_, _, _, _, _], _ => rfl) fun fd F => ?_
  refine F.ok sc_ring_rates (fun vs H Q E h => ?_) (fun cdv A outer s H vs Q E hr hh => ?_)
  · obtain ⟨_, _, _, _, _, _, _, _, _, rfl, _⟩ := h
    rfl
  obtain ⟨F, bv, _, f, r, bs, W, day, ring, rfl, hs, hb, hrg, tf, tr, ok, sz, hne, k⟩ := hh
  have hrg0 := hrg
  obtain ⟨ga, vg, rfl, hga, pg⟩ := hrg0
  have evg : vg = ring.map V.str := paired_eq pg
  have hl3 := ok.len
  have lbs : bs.length = ring.length := by rw [← ok.nm, List.length_map]
  refine ⟨_, (pss_cons (ps_asg (pe_g (g_ring_system T) (hr.mono (by omega)) (by rfl) (passes_call (takes_of rfl rfl rfl rfl) (fun _ _ _ _ h => h)) (pa_cons (pv 0) (pa_cons (pv 1) (pa_cons (pv 2) (pa_cons (pv 3) (pa_cons (pv 4) pa_nil)))))) (pg_tup rfl (pgs_cons (pg_name (i := 5) sc_ring_rates.nd rfl (Or.inl rfl)) (pgs_cons (pg_name (i := 6) sc_ring_rates.nd rfl (Or.inl rfl)) pgs_nil))))
  (pss_cons (ps_set (i := 7) sc_ring_rates.nd rfl (.inl rfl) (pe_lst pa_nil))
  (pss_cons (ps_for (passes_of rfl) rfl (pi_enum (by rfl) T.f_enumerate (pa_cons (pv 5) pa_nil)) (pg_tup rfl (pgs_cons (pg_name (i := 8) sc_ring_rates.nd rfl (Or.inr rfl)) (pgs_cons (pg_name (i := 9) sc_ring_rates.nd rfl (Or.inl rfl)) pgs_nil)))
    (pss_one (ps_expr (pe_bm PySem.F.plainAttrs_list PySem.F.slot_list_append PySem.F.type_list_append mt_append (pv 7) (pa_cons (pe_lc (own := [("other", 11), ("factor", 12)]) (g := gTup K 2 (gCons (gName 11) (gCons (gName 12) gNil))) (tt := tYes) rfl sc_ring_rates.nd (pi_enum (by rfl) T.f_enumerate (pa_cons (pv 9) pa_nil)) (blkOk_by (own := [("other", 11), ("factor", 12)]) (N := n_ring_rates) (sc := defScope s_ring_rates) (by decide +kernel)) (fun _ _ _ _ _ => (pg_tup rfl (pgs_cons (pg_name (i := 11) sc_ring_rates.nd rfl (Or.inl rfl)) (pgs_cons (pg_name (i := 12) sc_ring_rates.nd rfl (Or.inl rfl)) pgs_nil)))) (fun _ _ _ _ _ => pts_nil) (fun _ _ _ _ _ => (pe_g (g_minus T) (hr.mono (by omega)) (by rfl) pass0 (pa_cons (pe_ifExp (pt_cmpR op_eq (pv 11) (pv 8) (nomark _)) (pe_cst T.g_UNIT (by rfl)) (pe_cst T.g_NONE (by rfl))) (pa_cons (pv 12) pa_nil))))) pa_nil)))))
  (pss_cons (ps_set (i := 10) sc_ring_rates.nd rfl (.inl rfl) (pe_g (g_solve T) (hr.mono (by omega)) (by rfl) pass0 (pa_cons (pv 7) (pa_cons (pv 6) pa_nil))))
  (pss_cons (ps_if (pt_cmpR op_eq (pe_ix ix_tup (pv 10) pe_int (fun _ _ => rfl)) pe_str (nomark _)) (pss_one (ps_ret (pe_ix ix_tup (pv 10) pe_int (fun _ _ => rfl)))) pss_nil)
  (pss_one (ps_raise rfl (takes_of rfl rfl rfl rfl) (pmk_g T.e_NoSingleRate (gx_NoSingleRate T) (hr.mono (by omega)) pass0 (by rfl) T.g_NoSingleRate (pa_cons (pe_callTy call_list_of (by rfl) T.f_list (by decide +kernel) (pa_cons (pv 1) pa_nil)) (pa_cons (pe_g (g_kernel T) (hr.mono (by omega)) (by rfl) pass0 (pa_cons (pv 7) (pa_cons (pe_callB call_len_seq (by rfl) T.f_len (by decide +kernel) (pa_cons (pv 1) pa_nil)) pa_nil))) pa_nil)))))))))), ?_⟩
  refine ⟨_, rfl, _, rfl, _, rfl, _, rfl, _, rfl, F, bv, _, f, r, bs, W, day, ring, rfl, hs, hb, hrg, tf, tr, ok, ?_⟩
  cases qs : sysE W day ring bs with
  | error n => rw [qs] at k; exact k
  | ok fs =>
    rw [qs] at k
    obtain ⟨k1, k2⟩ := k
    have lfs : fs.length = ring.length := by rw [sysE_len qs, lbs]
    have hFS := sz.f fs qs
    have hMB := sz.m fs qs
    have hRB := sz.r fs qs
    intro v H1 F1 z1 hv
    obtain ⟨t, a, b, rfl, ht, hA, hB⟩ := hv
    have hA0 := hA
    obtain ⟨ra, va, rfl, hra, pa⟩ := hA0
    have lva := pr_len pa
    rw [List.length_map] at lva
    refine ⟨t, _, rfl, sq_t z1.sub ht, rfl, _, _, rfl, _, _, rfl, rfl, (by decide : 0 ≤ sizeLine), fun ta hta => ?_⟩
    have zt := z1.trans (Fz.raw (o := .lst []) z1.sub hta)
    have htaH : H ta = none := z1.same.free hta
    refine ⟨_, rfl, ra, va, rfl, SqL.of (zt.sub _ _ hra), for_E (xs := va) (fun i σ H' => ∃ (r8 r9 r10 : Option V) (vt : List V) (F' : Hp), σ = [some bv, some (.ref ga), some (.int (day : Nat)), some f, some r, some (.ref ra), some b, some (.ref ta), r8, r9, r10, none, none] ∧
        Fz N0 H F H' F' ∧ Same F1 F' ∧ H' ta = some (.lst vt) ∧ F' ta = none ∧ Paired (RFs K F') vt ((matT (fs.map (rowF ring))).take i)) ⟨none, none, none, [], F1, rfl, zt, Same.refl _, upd_same, z1.sub.free hta, .nil⟩ (fun i σ H' hp => ?_) (fun i x tt σ H' hx hp ht => ?_) (fun σ H' hp => ?_)⟩
    · obtain ⟨_, _, _, _, F', rfl, z5, g5, _⟩ := hp
      exact SqL.of (z5.sub _ _ (g5 _ _ hra))
    · obtain ⟨r8, r9, r10, vt, F', rfl, z5, g5, e5, f5, p5⟩ := hp
      obtain ⟨m, hm, c, vc, rfl, hc, pc⟩ := pr_at' pa hx
      have lc := pr_len pc
      obtain ⟨gi, hgi, rfl⟩ : ∃ g, fs[i]? = some g ∧ m = rowF ring g := by
        rw [List.getElem?_map] at hm
        cases q : fs[i]? with
        | none => rw [q] at hm; cases hm
        | some g => rw [q] at hm; exact ⟨g, rfl, (Option.some.inj hm).symm⟩
      have lrow : (rowF ring gi).length = ring.length := by unfold rowF; rw [List.length_map]
      have hi : i < ring.length := by have := (List.getElem?_eq_some_iff.mp hgi).1; omega
      have zx := Fz.raw (o := .tup [.int (i : Nat), .ref c]) z5.sub ht
      have hca := zx.sub _ _ (g5 _ _ hc)
      have e5' := zx.same _ _ e5
      refine ⟨_, rfl, .inl ⟨rfl, _, SqL.of e5'⟩, _, rfl, c, vc, rfl, SqL.of hca, lc_E (S := N0) (a := c) (xs := vc) (fun j acc F' => Paired (RF K F') acc ((rowT i (rowF ring gi)).take j)) zx.sub (fun _ z => z.elim) hca (fun z => z.elim) .nil (by omega) (fun _ _ => rfl) (fun j acc H2 F2 xv hxv z p R R' hR hR' => ?_) (fun D ys H2 F2 hD z2 e1 e2 p => ?_)⟩
      · obtain ⟨q, hq, hqf⟩ := pr_at' pc hxv
        have hqn : ∃ n, q = gi.1 n := by
          unfold rowF at hq
          rw [List.getElem?_map] at hq
          cases q' : ring[j]? with
          | none => rw [q'] at hq; cases hq
          | some n => rw [q'] at hq; exact ⟨n, (Option.some.inj hq).symm⟩
        obtain ⟨nn, enn⟩ := hqn
        have hsm : Sm q := by rw [enn]; exact (hFS gi (List.mem_of_getElem? hgi)).f nn
        have hqf2 := hqf.up (g5.trans z.grow)
        have fin : ∀ (d : Rat) (dv : V), IsF K F2 dv d → Sm d → d = (if j = i then 1 else 0) → ∃ (F' : Hp) (a b : V) (x y : Rat), [dv, xv] = [a, b] ∧ Same F' H2 ∧ IsF K F' a x ∧ IsF K F' b y ∧ CSm x y ∧ Ret N0 H2 F' (fun v F'' => IsF K F'' v (x - y)) R := fun d dv hd sd ed => ⟨F2, dv, xv, d, q, rfl, z.sub, hd, hqf2, ⟨sd, hsm⟩, fun v H3 F3 z3 hv => hR v H3 F3 z3 (pr_take (paired_up upF z3.grow p) (rowT_get hq) (by rw [← ed]; exact hv))⟩
        refine yes ⟨_, rfl, _, rfl, rfl, _, rfl, ite2 (fun e => ?_) (fun e => ?_)⟩
        · have e : j = i := by have := V.int.inj (of_decide_eq_true e); omega
          exact ⟨_, rfl, fin 1 _ (isUNIT T F2) sm1 (by rw [if_pos e])⟩
        · have e : ¬ j = i := fun z => e (decide_eq_true (by rw [z]))
          exact ⟨_, rfl, fin 0 _ (isNONE T F2) sm0 (by rw [if_neg e])⟩
      · have p := pr_all p (by rw [rowT_len]; omega)
        have e52 := z2.same _ _ e5'
        have f52 := z2.outS f5 e5'
        have nta : ta ≠ D := fun z => by rw [← z, e5'] at hD; cases hD
        have z6 := (z5.trans (zx.trans z2)).freeze ((z5.trans zx).same.free hD) e1 e2
        have f6 : upd F2 D (.lst ys) ta = none := by rw [upd_ne nta]; exact f52
        have lvt : vt.length ≤ 60 := by rw [pr_len p5, List.length_take]; have := matT_len (fs.map (rowF ring)); rw [List.length_map] at this; omega
        refine ⟨ta, vt, _, rfl, rfl, e52, small10 (by omega), ?_⟩
        refine ⟨_, _, _, vt ++ [.ref D], upd F2 D (.lst ys), rfl, z6.set (.inl htaH) f6, g5.trans ((zx.grow.trans z2.grow).trans (same_upd e2)), upd_same, f6, ?_⟩
        exact pr_take (paired_up upFs ((zx.grow.trans z2.grow).trans (same_upd e2)) p5) (matT_get hm) ⟨D, ys, rfl, upd_same, paired_up upF (same_upd e2) p⟩
    · obtain ⟨r8, r9, r10, vt, F2, rfl, z5, g5, e5, f5, p5⟩ := hp
      have lM : (matT (fs.map (rowF ring))).length = ring.length := by rw [matT_len, List.length_map, lfs]
      have p5 : Paired (RFs K F2) vt (matT (fs.map (rowF ring))) := pr_all p5 (by omega)
      have z6 := z5.freeze htaH e5 f5
      have g56 := g5.trans (same_upd (o := .lst vt) f5)
      have rt : RM K (upd F2 ta (.lst vt)) (.ref ta) (matT (fs.map (rowF ring))) := ⟨ta, vt, rfl, upd_same, paired_up upFs (same_upd f5) p5⟩
      generalize upd F2 ta (.lst vt) = F3 at z6 rt g56
      have hw : ∀ m ∈ matT (fs.map (rowF ring)), m.length = ring.length := matT_w fun r hr => by
        obtain ⟨g, _, rfl⟩ := List.mem_map.mp hr
        unfold rowF; rw [List.length_map]
      have hn0 : 0 < ring.length := List.length_pos_iff.mpr hne
      have hR : Rect (matT (fs.map (rowF ring))) ring.length := ⟨hw, fun z => by rw [z] at lM; simp at lM; omega, by omega, by omega⟩
      refine ⟨_, rfl, _, rfl, F3, _, _, _, _, ring.length, rfl, z6.sub, rt, upFs _ _ _ _ g56 hB, hR, lM, by rw [List.length_map, lfs], hl3, hMB, hRB, fun v H4 F4 z7 hv => ?_⟩
      have z67 := z6.trans z7
      obtain ⟨t4, vs4, rfl, ht4, hv | hv⟩ := hv
      · obtain ⟨xv, rfl, e1, e2⟩ := hv
        refine ⟨_, rfl, t4, _, _, _, rfl, rfl, sq_t z67.sub ht4, rfl, rfl, _, rfl, strT rfl ?_⟩
        exact ⟨_, rfl, t4, _, _, _, rfl, rfl, sq_t z67.sub ht4, rfl, k1 e1 _ _ _ z67 e2⟩
      · obtain ⟨hlt, s4, tl, rfl, hs4⟩ := hv
        refine ⟨_, rfl, t4, _, _, _, rfl, rfl, sq_t z67.sub ht4, (by exact atI_nat (j := 0) (xs := V.str s4 :: tl) rfl), rfl, _, rfl, strF hs4 ?_⟩
        have hga4 := z67.sub _ _ (z67.grow _ _ hga)
        refine ⟨_, rfl, ga, vg, rfl, .inl (SqL.of hga4), fun l1 hl1 => ?_⟩
        have z8 := z67.trans (Fz.nw (o := .lst vg) z67.sub hl1)
        have hga5 := z8.sub _ _ (z8.grow _ _ hga)
        have lvg : vg.length = ring.length := pr_len pg
        refine ⟨_, rfl, _, rfl, ga, vg, rfl, .inl (SqL.of hga5), _, _, _, ring.length, by rw [lvg]; rfl, z8.sub, upM _ _ _ _ (z7.grow.trans (same_upd (z67.sub.free hl1))) rt, hR, hl3, hMB, fun wv H5 F5 z9 hker => ?_⟩
        refine ⟨by simp, mk_x rfl fun d hd => ?_⟩
        have z10 := z8.trans z9
        refine k2 hlt d _ F5 _ _ (z10.trans (Fz.raw z10.sub hd)) upd_same ⟨l1, vg, rfl, z9.grow _ _ upd_same, paired_up upS (z10.grow) pg⟩ ?_
        rcases hker with ⟨h1, _⟩ | h1
        · exact absurd h1 (many_ker hw lM hlt)
        · exact h1
end
end K3
end
section
set_option Elab.async false
set_option linter.all false
set_option maxRecDepth 100000
set_option exponentiation.threshold 100
namespace K3
open PySem PySem.Spec PyProof.Rows L2
/-! ### bonds made -/
section
variable {P : Program} {w : World} {K : PySem.W.Frag} {mg : Str → Option Value} {base : Heap}
/-- a def with parameters that must be named, without defaults -/
theorem kb_none {x qual : Str} {params : Arguments} {body : List Stmt} {scope : Scope} {f : Addr} {fd : FuncData} {ps : List Str} (F : FunD K x qual params body scope [] [] f fd) (n : Nat) (ks : List Str) (g : {α : Type} → List α → List α → List α)
    (hrel : ∀ {vs zs : List V} {us ws : List Value}, Vals vs us → Vals zs ws → Vals (g vs zs) (g us ws))
    (h : ∀ (kV doc pm : Value) (an : Option Addr) (cdv ct : Value) (us ws : List Value), us.length = n → ws.length = ks.length → bindArgs (PySem.W.fnOf x qual params body scope .none kV doc pm an cdv ct) ⟨us, ks.zip ws⟩ = pure (ps.zip (g us ws))) :
    KBn K fd ps n ks (fun us ws => g us ws) (fun vs zs => g vs zs) := by
  obtain ⟨oc, od, dV, kV, doc, pm, an, cdv, ct, osl, rfl, lk, hcd, hD, hK⟩ := F.ex
  rcases hD with ⟨_, rfl⟩ | ⟨e, _⟩
  · exact ⟨fun s us ws X l1 l2 => BindsTo.of_looks fun M => PySem.W.Looks.of_pure (h kV doc pm an cdv ct us ws l1 l2), fun r1 r2 => hrel r1 r2⟩
  · exact absurd rfl e
def spBondInit (K : PySem.W.Frag) : Sp := fun vs H Q _ => ∃ (F : Hp) (x dx la pa ca : Addr) (v_name v_issuer v_units v_face v_first_day v_last_day v_months v_count v_adjust v_record v_rank v_coupon v_cross : V) (vl : List V) (pl : Option (Px Str)), vs = [.ref x, v_name, v_issuer, v_units, v_face, v_first_day, v_last_day, v_months, v_count, v_adjust, v_record, v_rank, .ref la, v_coupon, .ref pa, v_cross, .ref ca] ∧ Same F H ∧ F x = none ∧ H x = some (.ins (BON K) dx []) ∧
  la ≠ x ∧ pa ≠ x ∧ ca ≠ x ∧ H la = some (.lst vl) ∧ H pa = some (.lst []) ∧ H ca = some (.lst []) ∧
  ∀ (H' F' : Hp) (fs : List (Str × V)) (l1 : Addr), Fz (fun b => b = x) H F H' F' → F' x = none → H' x = some (.ins (BON K) dx fs) → fs.lookup ("name" : Str) = some v_name → fs.lookup ("lets" : Str) = some (.ref l1) → fs.lookup ("coupon" : Str) = some v_coupon → F' l1 = some (.lst vl) → Q .non H'
theorem bond_init (T : Txt K mg) {fd : FuncData} (F : FunD K "__init__" "Bond.__init__" (defArgs s_Bond_init) (defBody s_Bond_init) (defScope s_Bond_init) [] [] (He.fAd K ("Bond", some "__init__")) fd) : FnOk P w K mg base CX0 1 (He.ma K (He.ga K "Bond") "__init__") fd p_Bond_init (spBondInit K) := by
  refine F.ok sc_Bond_init (fun vs H Q E h => ?_) (fun cdv A outer s H vs Q E hr h => ?_)
  · obtain ⟨_, _, _, _, _, _, _, _, _, _, _, _, _, _, _, _, _, _, _, _, _, rfl, _⟩ := h
    rfl
  obtain ⟨F, x, dx, la, pa, ca, v_name, v_issuer, v_units, v_face, v_first_day, v_last_day, v_months, v_count, v_adjust, v_record, v_rank, v_coupon, v_cross, vl, pl, rfl, hs, f0, hx, nla, npa, nca, hla, hpa, hca, k⟩ := h
  refine ⟨_, PSs.nox (pss_cons (ps_fld (pv 0) (pv 1) rfl)
  (pss_cons (ps_fld (pv 0) (pv 2) rfl)
  (pss_cons (ps_fld (pv 0) (pv 3) rfl)
  (pss_cons (ps_fld (pv 0) (pv 4) rfl)
  (pss_cons (ps_fld (pv 0) (pv 5) rfl)
  (pss_cons (ps_fld (pv 0) (pv 6) rfl)
  (pss_cons (ps_fld (pv 0) (pv 7) rfl)
  (pss_cons (ps_fld (pv 0) (pv 8) rfl)
  (pss_cons (ps_fld (pv 0) (pv 9) rfl)
  (pss_cons (ps_fld (pv 0) (pv 10) rfl)
  (pss_cons (ps_fld (pv 0) (pv 11) rfl)
  (pss_cons (ps_fld (pv 0) (pe_callTy call_list_of (by rfl) T.f_list (by decide +kernel) (pa_cons (pv 12) pa_nil)) rfl)
  (pss_cons (ps_fld (pv 0) (pv 13) rfl)
  (pss_cons (ps_fld (pv 0) (pe_callTy call_list_of (by rfl) T.f_list (by decide +kernel) (pa_cons (pv 14) pa_nil)) rfl)
  (pss_cons (ps_fld (pv 0) (pv 15) rfl)
  (pss_one (ps_fld (pv 0) (pe_callTy call_list_of (by rfl) T.f_list (by decide +kernel) (pa_cons (pv 16) pa_nil)) rfl))))))))))))))))), ?_⟩
  have z0 : Fz (fun b => b = x) H F H F := Fz.refl hs
  have e0 := hx
  refine ⟨_, rfl, _, rfl, x, _, dx, _, rfl, e0, T.c_Bond, T.n_Bond_name, by simp, ?_⟩
  have f1 := f0
  have z1 := z0.set (o := .ins (BON K) dx (putF "name" v_name [])) (.inr rfl) f1
  have e1 := upd_same (H := H) (a := x) (o := .ins (BON K) dx (putF "name" v_name []))
  have n1 : (putF "name" v_name []).length ≤ 1 := pf (Nat.zero_le _)
  have name1 : (putF "name" v_name []).lookup ("name" : Str) = some v_name := by rw [lookup_putF, if_pos rfl]
  generalize putF "name" v_name [] = fs1 at z1 e1 n1 name1 ⊢
  generalize upd H x (.ins (BON K) dx fs1) = H1 at z1 e1 ⊢
  refine ⟨_, rfl, _, rfl, x, _, dx, _, rfl, e1, T.c_Bond, T.n_Bond_issuer, Nat.lt_of_le_of_lt n1 (by decide), ?_⟩
  have f2 := f1
  have z2 := z1.set (o := .ins (BON K) dx (putF "issuer" v_issuer fs1)) (.inr rfl) f2
  have e2 := upd_same (H := H1) (a := x) (o := .ins (BON K) dx (putF "issuer" v_issuer fs1))
  have n2 : (putF "issuer" v_issuer fs1).length ≤ 2 := pf n1
  have name2 : (putF "issuer" v_issuer fs1).lookup ("name" : Str) = some v_name := by rw [lookup_putF, if_neg (by decide +kernel)]; exact name1
  generalize putF "issuer" v_issuer fs1 = fs2 at z2 e2 n2 name2 ⊢
  generalize upd H1 x (.ins (BON K) dx fs2) = H2 at z2 e2 ⊢
  refine ⟨_, rfl, _, rfl, x, _, dx, _, rfl, e2, T.c_Bond, T.n_Bond_units, Nat.lt_of_le_of_lt n2 (by decide), ?_⟩
  have f3 := f2
  have z3 := z2.set (o := .ins (BON K) dx (putF "units" v_units fs2)) (.inr rfl) f3
  have e3 := upd_same (H := H2) (a := x) (o := .ins (BON K) dx (putF "units" v_units fs2))
  have n3 : (putF "units" v_units fs2).length ≤ 3 := pf n2
  have name3 : (putF "units" v_units fs2).lookup ("name" : Str) = some v_name := by rw [lookup_putF, if_neg (by decide +kernel)]; exact name2
  generalize putF "units" v_units fs2 = fs3 at z3 e3 n3 name3 ⊢
  generalize upd H2 x (.ins (BON K) dx fs3) = H3 at z3 e3 ⊢
  refine ⟨_, rfl, _, rfl, x, _, dx, _, rfl, e3, T.c_Bond, T.n_Bond_face, Nat.lt_of_le_of_lt n3 (by decide), ?_⟩
  have f4 := f3
  have z4 := z3.set (o := .ins (BON K) dx (putF "face" v_face fs3)) (.inr rfl) f4
  have e4 := upd_same (H := H3) (a := x) (o := .ins (BON K) dx (putF "face" v_face fs3))
  have n4 : (putF "face" v_face fs3).length ≤ 4 := pf n3
  have name4 : (putF "face" v_face fs3).lookup ("name" : Str) = some v_name := by rw [lookup_putF, if_neg (by decide +kernel)]; exact name3
  generalize putF "face" v_face fs3 = fs4 at z4 e4 n4 name4 ⊢
  generalize upd H3 x (.ins (BON K) dx fs4) = H4 at z4 e4 ⊢
  refine ⟨_, rfl, _, rfl, x, _, dx, _, rfl, e4, T.c_Bond, T.n_Bond_first_day, Nat.lt_of_le_of_lt n4 (by decide), ?_⟩
  have f5 := f4
  have z5 := z4.set (o := .ins (BON K) dx (putF "first_day" v_first_day fs4)) (.inr rfl) f5
  have e5 := upd_same (H := H4) (a := x) (o := .ins (BON K) dx (putF "first_day" v_first_day fs4))
  have n5 : (putF "first_day" v_first_day fs4).length ≤ 5 := pf n4
  have name5 : (putF "first_day" v_first_day fs4).lookup ("name" : Str) = some v_name := by rw [lookup_putF, if_neg (by decide +kernel)]; exact name4
  generalize putF "first_day" v_first_day fs4 = fs5 at z5 e5 n5 name5 ⊢
  generalize upd H4 x (.ins (BON K) dx fs5) = H5 at z5 e5 ⊢
  refine ⟨_, rfl, _, rfl, x, _, dx, _, rfl, e5, T.c_Bond, T.n_Bond_last_day, Nat.lt_of_le_of_lt n5 (by decide), ?_⟩
  have f6 := f5
  have z6 := z5.set (o := .ins (BON K) dx (putF "last_day" v_last_day fs5)) (.inr rfl) f6
  have e6 := upd_same (H := H5) (a := x) (o := .ins (BON K) dx (putF "last_day" v_last_day fs5))
  have n6 : (putF "last_day" v_last_day fs5).length ≤ 6 := pf n5
  have name6 : (putF "last_day" v_last_day fs5).lookup ("name" : Str) = some v_name := by rw [lookup_putF, if_neg (by decide +kernel)]; exact name5
  generalize putF "last_day" v_last_day fs5 = fs6 at z6 e6 n6 name6 ⊢
  generalize upd H5 x (.ins (BON K) dx fs6) = H6 at z6 e6 ⊢
  refine ⟨_, rfl, _, rfl, x, _, dx, _, rfl, e6, T.c_Bond, T.n_Bond_months, Nat.lt_of_le_of_lt n6 (by decide), ?_⟩
  have f7 := f6
  have z7 := z6.set (o := .ins (BON K) dx (putF "months" v_months fs6)) (.inr rfl) f7
  have e7 := upd_same (H := H6) (a := x) (o := .ins (BON K) dx (putF "months" v_months fs6))
  have n7 : (putF "months" v_months fs6).length ≤ 7 := pf n6
  have name7 : (putF "months" v_months fs6).lookup ("name" : Str) = some v_name := by rw [lookup_putF, if_neg (by decide +kernel)]; exact name6
  generalize putF "months" v_months fs6 = fs7 at z7 e7 n7 name7 ⊢
  generalize upd H6 x (.ins (BON K) dx fs7) = H7 at z7 e7 ⊢
  refine ⟨_, rfl, _, rfl, x, _, dx, _, rfl, e7, T.c_Bond, T.n_Bond_count, Nat.lt_of_le_of_lt n7 (by decide), ?_⟩
  have f8 := f7
  have z8 := z7.set (o := .ins (BON K) dx (putF "count" v_count fs7)) (.inr rfl) f8
  have e8 := upd_same (H := H7) (a := x) (o := .ins (BON K) dx (putF "count" v_count fs7))
  have n8 : (putF "count" v_count fs7).length ≤ 8 := pf n7
  have name8 : (putF "count" v_count fs7).lookup ("name" : Str) = some v_name := by rw [lookup_putF, if_neg (by decide +kernel)]; exact name7
  generalize putF "count" v_count fs7 = fs8 at z8 e8 n8 name8 ⊢
  generalize upd H7 x (.ins (BON K) dx fs8) = H8 at z8 e8 ⊢
  refine ⟨_, rfl, _, rfl, x, _, dx, _, rfl, e8, T.c_Bond, T.n_Bond_adjust, Nat.lt_of_le_of_lt n8 (by decide), ?_⟩
  have f9 := f8
  have z9 := z8.set (o := .ins (BON K) dx (putF "adjust" v_adjust fs8)) (.inr rfl) f9
  have e9 := upd_same (H := H8) (a := x) (o := .ins (BON K) dx (putF "adjust" v_adjust fs8))
  have n9 : (putF "adjust" v_adjust fs8).length ≤ 9 := pf n8
  have name9 : (putF "adjust" v_adjust fs8).lookup ("name" : Str) = some v_name := by rw [lookup_putF, if_neg (by decide +kernel)]; exact name8
  generalize putF "adjust" v_adjust fs8 = fs9 at z9 e9 n9 name9 ⊢
  generalize upd H8 x (.ins (BON K) dx fs9) = H9 at z9 e9 ⊢
  refine ⟨_, rfl, _, rfl, x, _, dx, _, rfl, e9, T.c_Bond, T.n_Bond_record, Nat.lt_of_le_of_lt n9 (by decide), ?_⟩
  have f10 := f9
  have z10 := z9.set (o := .ins (BON K) dx (putF "record" v_record fs9)) (.inr rfl) f10
  have e10 := upd_same (H := H9) (a := x) (o := .ins (BON K) dx (putF "record" v_record fs9))
  have n10 : (putF "record" v_record fs9).length ≤ 10 := pf n9
  have name10 : (putF "record" v_record fs9).lookup ("name" : Str) = some v_name := by rw [lookup_putF, if_neg (by decide +kernel)]; exact name9
  generalize putF "record" v_record fs9 = fs10 at z10 e10 n10 name10 ⊢
  generalize upd H9 x (.ins (BON K) dx fs10) = H10 at z10 e10 ⊢
  refine ⟨_, rfl, _, rfl, x, _, dx, _, rfl, e10, T.c_Bond, T.n_Bond_rank, Nat.lt_of_le_of_lt n10 (by decide), ?_⟩
  have f11 := f10
  have z11 := z10.set (o := .ins (BON K) dx (putF "rank" v_rank fs10)) (.inr rfl) f11
  have e11 := upd_same (H := H10) (a := x) (o := .ins (BON K) dx (putF "rank" v_rank fs10))
  have n11 : (putF "rank" v_rank fs10).length ≤ 11 := pf n10
  have name11 : (putF "rank" v_rank fs10).lookup ("name" : Str) = some v_name := by rw [lookup_putF, if_neg (by decide +kernel)]; exact name10
  generalize putF "rank" v_rank fs10 = fs11 at z11 e11 n11 name11 ⊢
  generalize upd H10 x (.ins (BON K) dx fs11) = H11 at z11 e11 ⊢
  refine ⟨_, rfl, la, vl, rfl, .inl (SqL.of (z11.keep _ _ nla hla)), fun l1 hl1 => ?_⟩
  have y1 := Fz.nw (o := .lst vl) z11.sub hl1
  have u1 : upd H11 l1 (.lst vl) x = some (.ins (BON K) dx fs11) := y1.same _ _ e11
  refine ⟨_, rfl, x, _, dx, _, rfl, u1, T.c_Bond, T.n_Bond_lets, Nat.lt_of_le_of_lt n11 (by decide), ?_⟩
  have f12 := y1.outS f11 e11
  have z12 := (z11.trans y1.to).set (o := .ins (BON K) dx (putF "lets" (.ref l1) fs11)) (.inr rfl) f12
  have e12 := upd_same (H := (upd H11 l1 (.lst vl))) (a := x) (o := .ins (BON K) dx (putF "lets" (.ref l1) fs11))
  have n12 : (putF "lets" (.ref l1) fs11).length ≤ 12 := pf n11
  have name12 : (putF "lets" (.ref l1) fs11).lookup ("name" : Str) = some v_name := by rw [lookup_putF, if_neg (by decide +kernel)]; exact name11
  have lets12 : (putF "lets" (.ref l1) fs11).lookup ("lets" : Str) = some (.ref l1) := by rw [lookup_putF, if_pos rfl]
  generalize putF "lets" (.ref l1) fs11 = fs12 at z12 e12 n12 name12 lets12 ⊢
  generalize upd (upd H11 l1 (.lst vl)) x (.ins (BON K) dx fs12) = H12 at z12 e12 ⊢
  refine ⟨_, rfl, _, rfl, x, _, dx, _, rfl, e12, T.c_Bond, T.n_Bond_coupon, Nat.lt_of_le_of_lt n12 (by decide), ?_⟩
  have f13 := f12
  have z13 := z12.set (o := .ins (BON K) dx (putF "coupon" v_coupon fs12)) (.inr rfl) f13
  have e13 := upd_same (H := H12) (a := x) (o := .ins (BON K) dx (putF "coupon" v_coupon fs12))
  have n13 : (putF "coupon" v_coupon fs12).length ≤ 13 := pf n12
  have name13 : (putF "coupon" v_coupon fs12).lookup ("name" : Str) = some v_name := by rw [lookup_putF, if_neg (by decide +kernel)]; exact name12
  have lets13 : (putF "coupon" v_coupon fs12).lookup ("lets" : Str) = some (.ref l1) := by rw [lookup_putF, if_neg (by decide +kernel)]; exact lets12
  have coupon13 : (putF "coupon" v_coupon fs12).lookup ("coupon" : Str) = some v_coupon := by rw [lookup_putF, if_pos rfl]
  generalize putF "coupon" v_coupon fs12 = fs13 at z13 e13 n13 name13 lets13 coupon13 ⊢
  generalize upd H12 x (.ins (BON K) dx fs13) = H13 at z13 e13 ⊢
  refine ⟨_, rfl, pa, [], rfl, .inl (SqL.of (z13.keep _ _ npa hpa)), fun l2 hl2 => ?_⟩
  have y2 := Fz.nw (o := .lst []) z13.sub hl2
  have u2 : upd H13 l2 (.lst []) x = some (.ins (BON K) dx fs13) := y2.same _ _ e13
  refine ⟨_, rfl, x, _, dx, _, rfl, u2, T.c_Bond, T.n_Bond_promises, Nat.lt_of_le_of_lt n13 (by decide), ?_⟩
  have f14 := y2.outS f13 e13
  have z14 := (z13.trans y2.to).set (o := .ins (BON K) dx (putF "promises" (.ref l2) fs13)) (.inr rfl) f14
  have e14 := upd_same (H := (upd H13 l2 (.lst []))) (a := x) (o := .ins (BON K) dx (putF "promises" (.ref l2) fs13))
  have n14 : (putF "promises" (.ref l2) fs13).length ≤ 14 := pf n13
  have name14 : (putF "promises" (.ref l2) fs13).lookup ("name" : Str) = some v_name := by rw [lookup_putF, if_neg (by decide +kernel)]; exact name13
  have lets14 : (putF "promises" (.ref l2) fs13).lookup ("lets" : Str) = some (.ref l1) := by rw [lookup_putF, if_neg (by decide +kernel)]; exact lets13
  have coupon14 : (putF "promises" (.ref l2) fs13).lookup ("coupon" : Str) = some v_coupon := by rw [lookup_putF, if_neg (by decide +kernel)]; exact coupon13
  generalize putF "promises" (.ref l2) fs13 = fs14 at z14 e14 n14 name14 lets14 coupon14 ⊢
  generalize upd (upd H13 l2 (.lst [])) x (.ins (BON K) dx fs14) = H14 at z14 e14 ⊢
  refine ⟨_, rfl, _, rfl, x, _, dx, _, rfl, e14, T.c_Bond, T.n_Bond_cross, Nat.lt_of_le_of_lt n14 (by decide), ?_⟩
  have f15 := f14
  have z15 := z14.set (o := .ins (BON K) dx (putF "cross" v_cross fs14)) (.inr rfl) f15
  have e15 := upd_same (H := H14) (a := x) (o := .ins (BON K) dx (putF "cross" v_cross fs14))
  have n15 : (putF "cross" v_cross fs14).length ≤ 15 := pf n14
  have name15 : (putF "cross" v_cross fs14).lookup ("name" : Str) = some v_name := by rw [lookup_putF, if_neg (by decide +kernel)]; exact name14
  have lets15 : (putF "cross" v_cross fs14).lookup ("lets" : Str) = some (.ref l1) := by rw [lookup_putF, if_neg (by decide +kernel)]; exact lets14
  have coupon15 : (putF "cross" v_cross fs14).lookup ("coupon" : Str) = some v_coupon := by rw [lookup_putF, if_neg (by decide +kernel)]; exact coupon14
  generalize putF "cross" v_cross fs14 = fs15 at z15 e15 n15 name15 lets15 coupon15 ⊢
  generalize upd H14 x (.ins (BON K) dx fs15) = H15 at z15 e15 ⊢
  refine ⟨_, rfl, ca, [], rfl, .inl (SqL.of (z15.keep _ _ nca hca)), fun l3 hl3 => ?_⟩
  have y3 := Fz.nw (o := .lst []) z15.sub hl3
  have u3 : upd H15 l3 (.lst []) x = some (.ins (BON K) dx fs15) := y3.same _ _ e15
  refine ⟨_, rfl, x, _, dx, _, rfl, u3, T.c_Bond, T.n_Bond_calls, Nat.lt_of_le_of_lt n15 (by decide), ?_⟩
  have f16 := y3.outS f15 e15
  have z16 := (z15.trans y3.to).set (o := .ins (BON K) dx (putF "calls" (.ref l3) fs15)) (.inr rfl) f16
  have e16 := upd_same (H := (upd H15 l3 (.lst []))) (a := x) (o := .ins (BON K) dx (putF "calls" (.ref l3) fs15))
  have n16 : (putF "calls" (.ref l3) fs15).length ≤ 16 := pf n15
  have name16 : (putF "calls" (.ref l3) fs15).lookup ("name" : Str) = some v_name := by rw [lookup_putF, if_neg (by decide +kernel)]; exact name15
  have lets16 : (putF "calls" (.ref l3) fs15).lookup ("lets" : Str) = some (.ref l1) := by rw [lookup_putF, if_neg (by decide +kernel)]; exact lets15
  have coupon16 : (putF "calls" (.ref l3) fs15).lookup ("coupon" : Str) = some v_coupon := by rw [lookup_putF, if_neg (by decide +kernel)]; exact coupon15
  generalize putF "calls" (.ref l3) fs15 = fs16 at z16 e16 n16 name16 lets16 coupon16 ⊢
  generalize upd (upd H15 l3 (.lst [])) x (.ins (BON K) dx fs16) = H16 at z16 e16 ⊢
  exact k _ _ _ l1 z16 f16 e16 name16 lets16 coupon16 (y3.grow _ _ (y2.grow _ _ upd_same))
end
end K3
end
section
set_option Elab.async false
set_option linter.all false
set_option maxRecDepth 100000
set_option exponentiation.threshold 100
namespace K3
open PySem PySem.Spec PyProof.Rows L2
/-! ### _law_bond -/
section
variable {P : Program} {w : World} {K : PySem.W.Frag} {mg : Str → Option Value} {base : Heap}
abbrev kBond : List Str := ["units", "face", "first_day", "last_day", "months", "count", "adjust", "record", "rank", "lets", "coupon", "promises", "cross", "calls"]
def spLBond (K : PySem.W.Frag) : Sp := fun vs H Q _ => ∃ (F : Hp) (n : Str) (l c : V) (pl : Option (Px Str)) (p : Px Str), vs = [.str n, l, c] ∧ Same F H ∧ LetsIn K F l pl ∧ PxIn K F pl c p ∧ Ret N0 H F (fun v F' => BoF K F' v ⟨n, pl, p⟩) Q
theorem len_succ {α : Type} {us : List α} {n : Nat} (h : us.length = n + 1) : ∃ a l, us = a :: l ∧ l.length = n := by
  cases us with
  | nil => cases h
  | cons a l => exact ⟨a, l, rfl, Nat.succ.inj h⟩
theorem bond_binds (kV doc pm : Value) (an : Option Addr) (cdv ct : Value) (u1 u2 u3 a b c d e f g h i j k l m n : Value) : bindArgs (PySem.W.fnOf "__init__" "Bond.__init__" (defArgs s_Bond_init) (defBody s_Bond_init) (defScope s_Bond_init) .none kV doc pm an cdv ct) ⟨[u1, u2, u3], kBond.zip [a, b, c, d, e, f, g, h, i, j, k, l, m, n]⟩ = pure (p_Bond_init.zip [u1, u2, u3, a, b, c, d, e, f, g, h, i, j, k, l, m, n]) := by kernel_rfl
theorem bond_kb {fd : FuncData} (F : FunD K "__init__" "Bond.__init__" (defArgs s_Bond_init) (defBody s_Bond_init) (defScope s_Bond_init) [] [] (He.fAd K ("Bond", some "__init__")) fd) : KBn K fd p_Bond_init 3 kBond (fun us ws => us ++ ws) (fun vs zs => vs ++ zs) := by
  refine kb_none F 3 kBond (fun a b => a ++ b) (fun r1 r2 => r1.append r2) fun kV doc pm an cdv ct us ws h1 h2 => ?_
  obtain ⟨u1, us1, e1, h11⟩ := len_succ h1
  obtain ⟨u2, us2, e2, h12⟩ := len_succ h11
  obtain ⟨u3, us3, e3, h13⟩ := len_succ h12
  have e4 := List.length_eq_zero_iff.mp h13
  subst e4 e3 e2 e1
  have h2 : ws.length = 14 := h2
  obtain ⟨w0, ws0, q0, k0⟩ := len_succ h2
  obtain ⟨w1, ws1, q1, k1⟩ := len_succ k0
  obtain ⟨w2, ws2, q2, k2⟩ := len_succ k1
  obtain ⟨w3, ws3, q3, k3⟩ := len_succ k2
  obtain ⟨w4, ws4, q4, k4⟩ := len_succ k3
  obtain ⟨w5, ws5, q5, k5⟩ := len_succ k4
  obtain ⟨w6, ws6, q6, k6⟩ := len_succ k5
  obtain ⟨w7, ws7, q7, k7⟩ := len_succ k6
  obtain ⟨w8, ws8, q8, k8⟩ := len_succ k7
  obtain ⟨w9, ws9, q9, k9⟩ := len_succ k8
  obtain ⟨w10, ws10, q10, k10⟩ := len_succ k9
  obtain ⟨w11, ws11, q11, k11⟩ := len_succ k10
  obtain ⟨w12, ws12, q12, k12⟩ := len_succ k11
  obtain ⟨w13, ws13, q13, k13⟩ := len_succ k12
  have q14 := List.length_eq_zero_iff.mp k13
  subst q14 q13 q12 q11 q10 q9 q8 q7 q6 q5 q4 q3 q2 q1 q0
  exact bond_binds kV doc pm an cdv ct u1 u2 u3 w0 w1 w2 w3 w4 w5 w6 w7 w8 w9 w10 w11 w12 w13
theorem g_L_bond (T : Txt K mg) : G P w K mg base CX0 3 "_law_bond" p_L_bond (spLBond K) := by
  refine G.mk' T.df_L_bond T.g_L_bond (fun _ _ _ _ _ _ us hl => match us, hl with | [_, _, _], _ => rfl) fun fd F => ?_
  refine F.ok sc_L_bond (fun vs H Q E h => ?_) (fun cdv A outer s H vs Q E hr hh => ?_)
  · obtain ⟨_, _, _, _, _, _, rfl, _⟩ := h
    rfl
  obtain ⟨F, n, _, c, pl, p, rfl, hs, hl, hc, k⟩ := hh
  obtain ⟨fdB, FB⟩ := T.df_Bond_init
  have hl0 := hl
  obtain ⟨la0, vl, rfl, hla0, hvl⟩ := hl0
  refine ⟨_, PSs.nox (pss_one (ps_ret (pe_makeK (n := 2) (ks := kBond) T.mk_Bond (bond_init T FB) (hr.mono (by omega)) (by rfl) T.g_Bond (bond_kb FB) pass0 (pa_cons (pv 0) (pa_cons pe_str pa_nil))
    (pk_cons pe_int (pk_cons (pe_tup (pa_cons pe_int (pa_cons pe_int pa_nil))) (pk_cons pe_int (pk_cons pe_int (pk_cons pe_int (pk_cons pe_str (pk_cons pe_str (pk_cons pe_int (pk_cons pe_int
      (pk_cons (pe_callTy call_list_of (by rfl) T.f_list (by decide +kernel) (pa_cons (pv 1) pa_nil)) (pk_cons (pv 2) (pk_cons (pe_lst pa_nil) (pk_cons pe_non (pk_cons (pe_lst pa_nil) pk_nil))))))))))))))))), ?_⟩
  refine ⟨_, rfl, two_ok, fun p1 hp1 => ?_⟩
  have z1 := Fz.raw (o := .tup [.int 100, .int 1]) hs hp1
  refine ⟨_, rfl, la0, vl, rfl, .inl (SqL.of (z1.sub _ _ hla0)), fun la hla => ⟨_, rfl, (by decide : 0 ≤ sizeLine), fun pa hpa => ⟨(by decide : 0 ≤ sizeLine), fun ca hca => ⟨rfl, rfl, fun x dx hx hdx ne => ?_⟩⟩⟩⟩
  have z2 := Fz.raw (o := .lst vl) z1.sub hla
  have z3 := Fz.raw (o := .lst []) z2.sub hpa
  have z4 := Fz.raw (o := .lst []) z3.sub hca
  have z04 := z1.trans (z2.trans (z3.trans z4))
  have eca := upd_same (H := upd (upd (upd H p1 (.tup [.int 100, .int 1])) la (.lst vl)) pa (.lst [])) (a := ca) (o := .lst [])
  have epa := z4.same _ _ (upd_same (a := pa) (o := .lst []))
  have ela := z4.same _ _ (z3.same _ _ (upd_same (a := la) (o := .lst vl)))
  have z5 := Fz.raw (o := .own x) z04.sub hdx
  have z6 := Fz.raw (o := .ins (BON K) dx []) z5.sub (by rw [upd_ne (Ne.symm ne)]; exact hx)
  have z56 := z5.trans z6
  have hxH : H x = none := z04.same.free hx
  have fx : F x = none := hs.free hxH
  refine ⟨F, x, dx, la, pa, ca, _, _, _, _, _, _, _, _, _, _, _, _, _, vl, pl, rfl, z56.sub, fx, upd_same, ne_of_none ela hx, ne_of_none epa hx, ne_of_none eca hx, z56.same _ _ ela, z56.same _ _ epa, z56.same _ _ eca, fun H2 F2 fs l1 z7 f7 e7 q1 q2 q3 q4 => ⟨rfl, ?_⟩⟩
  have z8 := (z04.trans z56).drop z7 (fun b e => by rw [e]; exact hxH)
  have z9 := z8.freeze hxH e7 f7
  have g7 := same_upd (o := .ins (BON K) dx fs) f7
  refine k _ _ _ z9 ⟨x, dx, fs, _, _, rfl, upd_same, q1, q2, q3, ?_, hc.up z9.grow⟩
  refine ⟨l1, vl, rfl, g7 _ _ q4, ?_⟩
  cases pl with
  | none => exact hvl
  | some p =>
    obtain ⟨t, u, h3, h4, h5⟩ := hvl
    exact ⟨t, u, h3, sq_t z9.grow h4, h5.up z9.grow⟩
end
end K3
end
section
set_option Elab.async false
set_option linter.all false
set_option maxRecDepth 100000
set_option exponentiation.threshold 100
namespace K3
open PySem PySem.Spec PyProof.Rows L2
/-! ### the law's small defs -/
def rs : Row → Rat
  | [] => 0
  | x :: r => x + rs r
theorem rs_snoc (x : Rat) : ∀ r : Row, rs (r ++ [x]) = rs r + x
  | [] => by show x + 0 = 0 + x; grind
  | y :: r => by
    show y + rs (r ++ [x]) = (y + rs r) + x
    rw [rs_snoc x r]; grind
theorem rs_zip : ∀ (a b : Row), a.length = b.length → rs (List.zipWith (· * ·) a b) = dot a (at0 b)
  | [], [], _ => rfl
  | x :: a, y :: b, h => by
    have ih := rs_zip a b (by simpa using h)
    show x * y + rs (List.zipWith (· * ·) a b) = x * at0 (y :: b) 0 + dot a (fun i => at0 (y :: b) (i + 1))
    rw [ih]
    rfl
section
variable {P : Program} {w : World} {K : PySem.W.Frag} {mg : Str → Option Value} {base : Heap}
theorem tyT {H : Hp} {a : Addr} {xs : List V} (h : SqT K H a xs) : TyX K H (.ref a) (.type "tuple") := by
  rcases h with (h | ⟨o, h⟩) | ⟨o, its, n, h1, h2, _⟩
  · exact .base (.tup h)
  · exact .fTuple h
  · exact .kTuple h1 h2
def spTotal (K : PySem.W.Frag) : Sp := fun vs H Q _ => ∃ (F : Hp) (a : V) (r : Row), vs = [a] ∧ Same F H ∧ RFs K F a r ∧ (∀ x ∈ r, Bt 600 600 x) ∧ r.length ≤ 3 ∧ Ret N0 H F (fun v F' => IsF K F' v (rs r)) Q
theorem bt_rs {r : Row} (h : ∀ x ∈ r, Bt 600 600 x) : ∀ i, Bt (601 * i) (600 * i) (rs (r.take i))
  | 0 => by rw [List.take_zero]; exact bt_zero
  | i + 1 => by
    have ih := bt_rs h i
    rw [List.take_add_one]
    cases q : r[i]? with
    | none =>
      rw [Option.toList_none, List.append_nil]
      exact ih.mono (by omega) (by omega)
    | some x =>
      rw [Option.toList_some, rs_snoc]
      exact (bt_add ih (h x (List.mem_of_getElem? q))).mono (by omega) (by omega)
theorem g_L_total (T : Txt K mg) : G P w K mg base CX0 4 "_law_total" p_L_total (spTotal K) := by
  refine G.mk' T.df_L_total T.g_L_total (fun _ _ _ _ _ _ us hl => match us, hl with | [_], _ => rfl) fun fd F => ?_
  refine F.ok sc_L_total (fun vs H Q E h => ?_) (fun cdv A outer s H vs Q E hr hh => ?_)
  · obtain ⟨_, _, _, rfl, _⟩ := h
    rfl
  obtain ⟨F, _, r, rfl, hs, ⟨a, va, rfl, ha, pa⟩, hB, h3, k⟩ := hh
  refine ⟨_, PSs.nox (pss_cons (ps_set (i := 1) sc_L_total.nd rfl (.inl rfl) (pe_tup (pa_cons pe_int (pa_cons pe_int pa_nil))))
  (pss_cons (ps_for PassesOwn.never rfl (pi_list (pv 0)) (pg_name (i := 2) sc_L_total.nd rfl (Or.inl rfl))
    (pss_one (ps_set (i := 1) sc_L_total.nd rfl (.inl rfl) (pe_g (g_L_add T) (hr.mono (by omega)) (by rfl) pass0 (pa_cons (pv 1) (pa_cons (pv 2) pa_nil))))))
  (pss_one (ps_ret (pv 1))))), ?_⟩
  refine ⟨two_ok, fun p hp => ?_⟩
  have z1 := Fz.nw (o := .tup [.int 0, .int 1]) hs hp
  have i0 : IsF K (upd F p (.tup [.int 0, .int 1])) (.ref p) 0 := ⟨p, rfl, .inl (.inl upd_same)⟩
  refine ⟨_, rfl, a, rfl, ⟨_, SqL.of (z1.sub _ _ (z1.grow _ _ ha))⟩, for_list (xs := va) (fun i σ H' => ∃ (rv : V) (r2 : Option V) (F' : Hp), σ = [some (.ref a), some rv, r2] ∧ Fz N0 H F H' F' ∧ IsF K F' rv (rs (r.take i))) ⟨_, none, _, rfl, z1, i0⟩ (fun i σ H' _ hp => ?_) (fun i v σ H' hv hp => ?_) (fun σ H' hp => ?_)⟩
  · obtain ⟨_, _, F', rfl, z, _⟩ := hp
    exact SqL.of (z.sub _ _ (z.grow _ _ ha))
  · obtain ⟨rv, r2, F', rfl, z, hrv⟩ := hp
    obtain ⟨x, hx, hxf⟩ := pr_at' pa hv
    have hi : i < r.length := (List.getElem?_eq_some_iff.mp hx).1
    have b1 := bt_rs hB i
    have b2 := hB x (List.mem_of_getElem? hx)
    have et : rs (r.take (i + 1)) = rs (r.take i) + x := by rw [List.take_add_one, hx]; exact rs_snoc x _
    have b3 := bt_rs hB (i + 1)
    rw [et] at b3
    refine ⟨_, rfl, _, rfl, F', _, _, _, _, rfl, z.sub, hrv, hxf.up z.grow, ⟨b1.mono (by omega) (by omega), b2.mono (by omega) (by omega), Sl.of b3 (by omega)⟩, fun v2 H2 F2 z2 hv2 => ?_⟩
    exact ⟨v2, _, F2, rfl, z.trans z2, by rw [et]; exact hv2⟩
  · obtain ⟨rv, r2, F', rfl, z, hrv⟩ := hp
    rw [pr_len pa, List.take_length] at hrv
    exact ⟨_, rfl, k _ _ _ z hrv⟩
def spDot (K : PySem.W.Frag) : Sp := fun vs H Q _ => ∃ (F : Hp) (a b : V) (r q : Row), vs = [a, b] ∧ Same F H ∧ RFs K F a r ∧ RFs K F b q ∧ r.length = q.length ∧ r.length ≤ 3 ∧ (∀ x ∈ r, Bt 100 100 x) ∧ (∀ x ∈ q, Bt 500 500 x) ∧ Ret N0 H F (fun v F' => IsF K F' v (dot r (at0 q))) Q
theorem g_L_dot (T : Txt K mg) : G P w K mg base CX0 5 "_law_dot" p_L_dot (spDot K) := by
  refine G.mk' T.df_L_dot T.g_L_dot (fun _ _ _ _ _ _ us hl => match us, hl with | [_, _], _ => rfl) fun fd F => ?_
  refine F.ok sc_L_dot (fun vs H Q E h => ?_) (fun cdv A outer s H vs Q E hr hh => ?_)
  · obtain ⟨_, _, _, _, _, rfl, _⟩ := h
    rfl
  obtain ⟨F, _, _, r, q, rfl, hs, ⟨a, va, rfl, ha, pa⟩, ⟨b, vb, rfl, hb, pb⟩, hl, h3, hr1, hq1, k⟩ := hh
  have la := pr_len pa
  have lb := pr_len pb
  refine ⟨_, PSs.nox (pss_one (ps_ret (pe_g (g_L_total T) (hr.mono (by omega)) (by rfl) pass0 (pa_cons (pe_lc (own := [("_law_k", 2)]) (g := gName 2) (tt := tYes) rfl sc_L_dot.nd (pi_range1 (by rfl) T.f_range (pa_cons (pe_callB (call_min2 rfl) (by rfl) T.f_min (by decide +kernel) (pa_cons (pe_callB call_len_seq (by rfl) T.f_len (by decide +kernel) (pa_cons (pv 0) pa_nil)) (pa_cons (pe_callB call_len_seq (by rfl) T.f_len (by decide +kernel) (pa_cons (pv 1) pa_nil)) pa_nil))) pa_nil)) (blkOk_by (own := [("_law_k", 2)]) (N := n_L_dot) (sc := defScope s_L_dot) (by decide +kernel)) (fun _ _ _ _ _ => (pg_name (i := 2) sc_L_dot.nd rfl (Or.inl rfl))) (fun _ _ _ _ _ => pts_nil) (fun _ _ _ _ _ => (pe_g (g_L_times T) (hr.mono (by omega)) (by rfl) pass0 (pa_cons (pe_ix (ix_listK (K := K) rfl) (pv 0) (pv 2) (fun _ _ => rfl)) (pa_cons (pe_ix (ix_listK (K := K) rfl) (pv 1) (pv 2) (fun _ _ => rfl)) pa_nil))))) pa_nil)))), ?_⟩
  have emin : (if (vb.length : Int) < (va.length : Int) then (vb.length : Int) else (va.length : Int)) = ((r.length : Nat) : Int) := by split <;> omega
  refine ⟨_, rfl, a, va, rfl, .inl (SqL.of (hs _ _ ha)), _, rfl, b, vb, rfl, .inl (SqL.of (hs _ _ hb)), _, _, rfl, ((r.length : Nat) : Int), by rw [emin], by omega, by omega, lc_R (S := N0) (n := ((r.length : Nat) : Int).toNat) (fun i acc F' => Paired (RF K F') acc ((List.zipWith (· * ·) r q).take i)) hs (fun _ z => z.elim) .nil (by omega) (fun _ => rfl) (fun i acc H' F' hi z p R R' hR hR' => ?_) (fun D ys H1 F1 hD z1 e1 e2 p1 => ?_)⟩
  · have e0 : (0 : Int) + (i : Int) = (i : Int) := Int.zero_add _
    simp only [e0]
    have hir : i < r.length := by omega
    have hiq : i < q.length := by omega
    obtain ⟨xv, hxv, rxv⟩ := pr_at pa (List.getElem?_eq_getElem hir)
    obtain ⟨yv, hyv, ryv⟩ := pr_at pb (List.getElem?_eq_getElem hiq)
    have b1 := hr1 _ (List.getElem_mem hir)
    have b2 := hq1 _ (List.getElem_mem hiq)
    have b3 := bt_mul b1 b2
    refine yes ⟨_, rfl, _, rfl, _, _, _, _, rfl, rfl, SqL.of (z.same _ _ (hs _ _ ha)), atI_nat hxv, _, rfl, _, rfl, _, _, _, _, rfl, rfl, SqL.of (z.same _ _ (hs _ _ hb)), atI_nat hyv, F', _, _, _, _, rfl, z.sub, rxv.up z.grow, ryv.up z.grow, ⟨b1.mono (by omega) (by omega), b2.mono (by omega) (by omega), Sl.of b3 (by omega)⟩, fun v2 H2 F2 z2 hv2 => hR v2 H2 F2 z2 ?_⟩
    refine pr_take (paired_up upF z2.grow p) (x := r[i] * q[i]) ?_ hv2
    rw [List.getElem?_zipWith, List.getElem?_eq_getElem hir, List.getElem?_eq_getElem hiq]
  · have p1 := pr_all p1 (by rw [List.length_zipWith]; omega)
    have z2 := z1.freeze hD e1 e2
    refine ⟨_, _, _, rfl, z2.sub, ⟨D, ys, rfl, upd_same, paired_up upF (same_upd e2) p1⟩, fun x hx => ?_, by rw [List.length_zipWith]; omega, fun v H3 F3 z3 hv => k _ _ _ (z2.trans z3) ?_⟩
    · obtain ⟨i, hi, e⟩ := List.getElem_of_mem hx
      rw [List.length_zipWith] at hi
      rw [← e, List.getElem_zipWith]
      exact (bt_mul (hr1 _ (List.getElem_mem (by omega))) (hq1 _ (List.getElem_mem (by omega)))).mono (by omega) (by omega)
    · rw [← rs_zip r q hl]; exact hv
/-- equal values of one kind -/
def spSame (K : PySem.W.Frag) (h : Nat) : Sp := fun vs H Q _ => 1 ≤ h ∧ ((∃ i : Int, vs = [.int i, .int i] ∧ Q (.bl true) H) ∨ (2 ≤ h ∧ ∃ (F : Hp) (a b : V) (x : Rat), vs = [a, b] ∧ Same F H ∧ IsF K F a x ∧ IsF K F b x ∧ Q (.bl true) H))
theorem same_succ (T : Txt K mg) {h : Nat} (ih : G P w K mg base CX0 (1 + h) "_law_same" p_L_same (spSame K h)) : G P w K mg base CX0 (1 + (h + 1)) "_law_same" p_L_same (spSame K (h + 1)) := by
  refine G.mk' T.df_L_same T.g_L_same (fun _ _ _ _ _ _ us hl => match us, hl with | [_, _], _ => rfl) fun fd F => ?_
  refine FnOk.mono (j := 1 + h + 1) ?_ (by omega)
  refine F.ok sc_L_same (fun vs H Q E h => ?_) (fun cdv A outer s H vs Q E hr hh => ?_)
  · obtain ⟨_, ⟨_, rfl, _⟩ | ⟨_, _, _, _, _, rfl, _⟩⟩ := h <;> rfl
  obtain ⟨_, hh⟩ := hh
  refine ⟨_, PSs.nox (pss_cons (ps_if (pt_val (pe_callB call_isi (by rfl) T.f_isinstance (by decide +kernel) (pa_cons (pv 1) (pa_cons (pe_bltn (v := .ty "tuple") (by rfl) T.f_tuple (by decide +kernel) rfl) pa_nil)))) (pss_cons (ps_if (PW.pt (pw_or (pt_not (pt_val (pe_callB call_isi (by rfl) T.f_isinstance (by decide +kernel) (pa_cons (pv 0) (pa_cons (pe_bltn (v := .ty "tuple") (by rfl) T.f_tuple (by decide +kernel) rfl) pa_nil))))) (pw_or1 (pt_cmpR op_ne (pe_callB call_len_seq (by rfl) T.f_len (by decide +kernel) (pa_cons (pv 0) pa_nil)) (pe_callB call_len_seq (by rfl) T.f_len (by decide +kernel) (pa_cons (pv 1) pa_nil)) (nomark _))))) (pss_one (ps_ret pe_bl)) pss_nil)
  (pss_cons (ps_for PassesOwn.never rfl (pi_range1 (by rfl) T.f_range (pa_cons (pe_callB call_len_seq (by rfl) T.f_len (by decide +kernel) (pa_cons (pv 1) pa_nil)) pa_nil)) (pg_name (i := 2) sc_L_same.nd rfl (Or.inl rfl))
    (pss_one (ps_if (pt_not (pt_val (pe_g ih (hr.mono (by omega)) (by rfl) pass0 (pa_cons (pe_ix ix_tup (pv 0) (pv 2) (fun _ _ => rfl)) (pa_cons (pe_ix ix_tup (pv 1) (pv 2) (fun _ _ => rfl)) pa_nil))))) (pss_one (ps_ret pe_bl)) pss_nil)))
  (pss_one (ps_ret pe_bl)))) pss_nil)
  (pss_cons (ps_if (PW.pt (pw_or (pt_val (pe_callB call_isi (by rfl) T.f_isinstance (by decide +kernel) (pa_cons (pv 1) (pa_cons (pe_bltn (v := .ty "bool") (by rfl) T.f_bool (by decide +kernel) rfl) pa_nil)))) (pw_or1 (pt_val (pe_callB call_isi (by rfl) T.f_isinstance (by decide +kernel) (pa_cons (pv 0) (pa_cons (pe_bltn (v := .ty "bool") (by rfl) T.f_bool (by decide +kernel) rfl) pa_nil))))))) (pss_one (ps_ret (pe_and (pe_callB call_isi (by rfl) T.f_isinstance (by decide +kernel) (pa_cons (pv 1) (pa_cons (pe_bltn (v := .ty "bool") (by rfl) T.f_bool (by decide +kernel) rfl) pa_nil))) (pe_and (pe_callB call_isi (by rfl) T.f_isinstance (by decide +kernel) (pa_cons (pv 0) (pa_cons (pe_bltn (v := .ty "bool") (by rfl) T.f_bool (by decide +kernel) rfl) pa_nil))) (pe_one (pe_cmpR (op_eqD hr.units) (pv 1) (pv 0) (nomark _))))))) pss_nil)
  (pss_cons (ps_if (pt_val (pe_callB call_isi (by rfl) T.f_isinstance (by decide +kernel) (pa_cons (pv 1) (pa_cons (pe_bltn (v := .ty "int") (by rfl) T.f_int (by decide +kernel) rfl) pa_nil)))) (pss_one (ps_ret (pe_and (pe_callB call_isi (by rfl) T.f_isinstance (by decide +kernel) (pa_cons (pv 0) (pa_cons (pe_bltn (v := .ty "int") (by rfl) T.f_int (by decide +kernel) rfl) pa_nil))) (pe_one (pe_cmpR op_eq (pv 0) (pv 1) (nomark _)))))) pss_nil)
  (pss_cons (ps_if (pt_val (pe_callB call_isi (by rfl) T.f_isinstance (by decide +kernel) (pa_cons (pv 1) (pa_cons (pe_bltn (v := .ty "str") (by rfl) T.f_str (by decide +kernel) rfl) pa_nil)))) (pss_one (ps_ret (pe_and (pe_callB call_isi (by rfl) T.f_isinstance (by decide +kernel) (pa_cons (pv 0) (pa_cons (pe_bltn (v := .ty "str") (by rfl) T.f_str (by decide +kernel) rfl) pa_nil))) (pe_one (pe_cmpR op_eq (pv 0) (pv 1) (nomark _)))))) pss_nil)
  (pss_one (ps_ret (pe_and (pe_cmpR op_isN (pv 1) pe_non (nomark _)) (pe_one (pe_cmpR op_isN (pv 0) pe_non (nomark _)))))))))), ?_⟩
  rcases hh with ⟨i, rfl, k⟩ | ⟨h2, F, _, _, x, rfl, hs, ⟨a, rfl, ha⟩, ⟨b, rfl, hb⟩, k⟩
  · refine ⟨_, rfl, _, _, _, _, false, rfl, .ty "tuple", .base (.int _), kit_ty (show kitB "int" "tuple" = some false by decide +kernel), _, rfl, iteF ?_⟩
    refine ⟨_, rfl, _, _, _, _, false, rfl, .ty "bool", .base (.int _), kit_ty (show kitB "int" "bool" = some false by decide +kernel), _, rfl, iteF ?_⟩
    refine ⟨_, rfl, _, _, _, _, false, rfl, .ty "bool", .base (.int _), kit_ty (show kitB "int" "bool" = some false by decide +kernel), _, rfl, iteF ?_⟩
    refine ⟨_, rfl, _, _, _, _, true, rfl, .ty "int", .base (.int _), kit_ty (show kitB "int" "int" = some true by decide +kernel), _, rfl, iteT ?_⟩
    refine ⟨_, rfl, _, _, _, _, true, rfl, .ty "int", .base (.int _), kit_ty (show kitB "int" "int" = some true by decide +kernel), _, rfl, iteT ?_⟩
    exact ⟨_, rfl, _, rfl, rfl, by rw [decide_eq_true rfl]; exact k⟩
  · have ha' := sq_t hs ha
    have hb' := sq_t hs hb
    have kT : PySem.W.kitOne (cxOf CX0 P w K mg base n_L_same "_law_same" (defScope s_L_same) (He.fAd K ("_law_same", none)) cdv A outer s H E).nox.K (.type "tuple") (.type "tuple") = some true := kit_ty (show kitB "tuple" "tuple" = some true by decide +kernel)
    refine ⟨_, rfl, _, _, _, _, true, rfl, .ty "tuple", tyT hb', kT, _, rfl, iteT ?_⟩
    refine ⟨_, rfl, _, _, _, _, true, rfl, .ty "tuple", tyT ha', kT, _, rfl, iteF ?_⟩
    refine ⟨_, rfl, a, _, rfl, .inr ha', _, rfl, b, _, rfl, .inr hb', rfl, _, rfl, iteF ?_⟩
    refine ⟨_, rfl, b, _, rfl, .inr hb', 2, rfl, by decide, by decide, for_range (lo := 0) (fun i σ H' => H' = H ∧ ∃ r2, σ = [some (.ref a), some (.ref b), r2]) ⟨rfl, none, rfl⟩ (fun i σ H' hi hp => ?_) (fun σ H' hp => ?_)⟩
    · obtain ⟨rfl, r2, rfl⟩ := hp
      have hi : i < 2 := hi
      have e0 : (0 : Int) + (i : Int) = (i : Int) := Int.zero_add _
      simp only [e0]
      have key : ∀ z : Int, [V.int x.num, V.int (x.den : Int)][i]? = some (.int z) → _ := fun z hz => (atI_nat hz : atI [V.int x.num, V.int (x.den : Int)] (i : Int) = some (V.int z))
      have hz : ∃ z : Int, [V.int x.num, V.int (x.den : Int)][i]? = some (.int z) := by
        match i, hi with
        | 0, _ => exact ⟨_, rfl⟩
        | 1, _ => exact ⟨_, rfl⟩
      obtain ⟨z, hz⟩ := hz
      refine ⟨_, rfl, _, rfl, a, _, _, _, rfl, rfl, ha', atI_nat hz, _, rfl, _, rfl, b, _, _, _, rfl, rfl, hb', atI_nat hz, by omega, .inl ⟨z, rfl, _, rfl, iteF ⟨rfl, _, rfl⟩⟩⟩
    · obtain ⟨rfl, r2, rfl⟩ := hp
      exact k
theorem g_L_same (T : Txt K mg) : ∀ h : Nat, G P w K mg base CX0 (1 + h) "_law_same" p_L_same (spSame K h)
  | 0 => by
    refine G.mk' T.df_L_same T.g_L_same (fun _ _ _ _ _ _ us hl => match us, hl with | [_, _], _ => rfl) fun fd F => ?_
    refine F.ok sc_L_same (fun vs H Q E h => ?_) (fun cdv A outer s H vs Q E hr hh => ?_)
    · obtain ⟨h, _⟩ := h
      omega
    · obtain ⟨h, _⟩ := hh
      omega
  | h + 1 => same_succ T (g_L_same T h)
def spSameL (K : PySem.W.Frag) : Sp := fun vs H Q _ => ∃ (F : Hp) (a b : V) (r : Row), vs = [a, b] ∧ Same F H ∧ RFs K F a r ∧ RFs K F b r ∧ r.length < 1000 ∧ Q (.bl true) H
theorem g_L_same_list (T : Txt K mg) : G P w K mg base CX0 4 "_law_same_list" p_L_same_list (spSameL K) := by
  refine G.mk' T.df_L_same_list T.g_L_same_list (fun _ _ _ _ _ _ us hl => match us, hl with | [_, _], _ => rfl) fun fd F => ?_
  refine F.ok sc_L_same_list (fun vs H Q E h => ?_) (fun cdv A outer s H vs Q E hr hh => ?_)
  · obtain ⟨_, _, _, _, rfl, _⟩ := h
    rfl
  obtain ⟨F, _, _, r, rfl, hs, ⟨a, va, rfl, ha, pa⟩, ⟨b, vb, rfl, hb, pb⟩, hl, k⟩ := hh
  have la := pr_len pa
  have lb := pr_len pb
  have ha' := hs _ _ ha
  have hb' := hs _ _ hb
  refine ⟨_, PSs.nox (pss_cons (ps_if (PW.pt (pw_or (pt_not (pt_val (pe_callB call_isi (by rfl) T.f_isinstance (by decide +kernel) (pa_cons (pv 0) (pa_cons (pe_bltn (v := .ty "list") (by rfl) T.f_list (by decide +kernel) rfl) pa_nil))))) (pw_or1 (pt_cmpR op_ne (pe_callB call_len_seq (by rfl) T.f_len (by decide +kernel) (pa_cons (pv 0) pa_nil)) (pe_callB call_len_seq (by rfl) T.f_len (by decide +kernel) (pa_cons (pv 1) pa_nil)) (nomark _))))) (pss_one (ps_ret pe_bl)) pss_nil)
  (pss_cons (ps_for PassesOwn.never rfl (pi_range1 (by rfl) T.f_range (pa_cons (pe_callB call_len_seq (by rfl) T.f_len (by decide +kernel) (pa_cons (pv 1) pa_nil)) pa_nil)) (pg_name (i := 2) sc_L_same_list.nd rfl (Or.inl rfl))
    (pss_one (ps_if (pt_not (pt_val (pe_g (g_L_same T 2) (hr.mono (by omega)) (by rfl) pass0 (pa_cons (pe_ix ix_list (pv 0) (pv 2) (fun _ _ => rfl)) (pa_cons (pe_ix ix_list (pv 1) (pv 2) (fun _ _ => rfl)) pa_nil))))) (pss_one (ps_ret pe_bl)) pss_nil)))
  (pss_one (ps_ret pe_bl)))), ?_⟩
  refine ⟨_, rfl, _, _, _, _, true, rfl, .ty "list", .base (.lst ha'), kit_ty (show kitB "list" "list" = some true by decide +kernel), _, rfl, iteF ?_⟩
  refine ⟨_, rfl, a, _, rfl, .inl (SqL.of ha'), _, rfl, b, _, rfl, .inl (SqL.of hb'), rfl, _, rfl, inF (by rw [la, lb]; simp) ?_⟩
  refine ⟨_, rfl, b, _, rfl, .inl (SqL.of hb'), _, rfl, by omega, by omega, for_range (lo := 0) (fun i σ H' => H' = H ∧ ∃ r2, σ = [some (.ref a), some (.ref b), r2]) ⟨rfl, none, rfl⟩ (fun i σ H' hi hp => ?_) (fun σ H' hp => ?_)⟩
  · obtain ⟨rfl, r2, rfl⟩ := hp
    have hir : i < r.length := by omega
    have e0 : (0 : Int) + (i : Int) = (i : Int) := Int.zero_add _
    simp only [e0]
    obtain ⟨xv, hxv, rxv⟩ := pr_at pa (List.getElem?_eq_getElem hir)
    obtain ⟨yv, hyv, ryv⟩ := pr_at pb (List.getElem?_eq_getElem hir)
    exact ⟨_, rfl, _, rfl, a, _, _, _, rfl, rfl, SqL.of ha', atI_nat hxv, _, rfl, _, rfl, b, _, _, _, rfl, rfl, SqL.of hb', atI_nat hyv, by omega, .inr ⟨by omega, F, _, _, _, rfl, hs, rxv, ryv, _, rfl, iteF ⟨rfl, _, rfl⟩⟩⟩
  · obtain ⟨rfl, r2, rfl⟩ := hp
    exact k
end
end K3
end
section
set_option Elab.async false
set_option linter.all false
set_option maxRecDepth 100000
set_option exponentiation.threshold 100
namespace K3
open PySem PySem.Spec PyProof.Rows L2
/-! ### _law_joined -/
section
variable {P : Program} {w : World} {K : PySem.W.Frag} {mg : Str → Option Value} {base : Heap}
def spJoin (K : PySem.W.Frag) : Sp := fun vs H Q _ => ∃ (F : Hp) (s : Str) (a b : V) (x y : Rat), vs = [.str s, a, b] ∧ Same F H ∧ IsF K F a x ∧ IsF K F b y ∧ Sm x ∧ Sm y ∧
  ((∃ wo : BinW, s = wo.str ∧ Sl (binV wo x y) ∧ Ret N0 H F (fun v F' => IsF K F' v (binV wo x y)) Q) ∨ ∃ wo : CmpW, s = wo.str ∧ Q (.bl (cmpB wo x y)) H)
theorem g_L_joined (T : Txt K mg) : G P w K mg base CX0 6 "_law_joined" p_L_joined (spJoin K) := by
  refine G.mk' T.df_L_joined T.g_L_joined (fun _ _ _ _ _ _ us hl => match us, hl with | [_, _, _], _ => rfl) fun fd F => ?_
  refine F.ok sc_L_joined (fun vs H Q E h => ?_) (fun cdv A outer s H vs Q E hr h => ?_)
  · obtain ⟨_, _, _, _, _, _, rfl, _⟩ := h
    rfl
  obtain ⟨F, s, a, b, x, y, rfl, hs, ha, hb, sx, sy, k⟩ := h
  have c1 := cmpI_spec x y
  refine ⟨_, PSs.nox (pss_cons (ps_if (pt_cmpR op_eq (pv 0) pe_str (nomark _)) (pss_one (ps_ret (pe_g (g_L_add T) (hr.mono (by omega)) (by rfl) pass0 (pa_cons (pv 1) (pa_cons (pv 2) pa_nil))))) pss_nil)
  (pss_cons (ps_if (pt_cmpR op_eq (pv 0) pe_str (nomark _)) (pss_one (ps_ret (pe_g (g_L_minus T) (hr.mono (by omega)) (by rfl) pass0 (pa_cons (pv 1) (pa_cons (pv 2) pa_nil))))) pss_nil)
  (pss_cons (ps_if (pt_cmpR op_eq (pv 0) pe_str (nomark _)) (pss_one (ps_ret (pe_g (g_L_times T) (hr.mono (by omega)) (by rfl) pass0 (pa_cons (pv 1) (pa_cons (pv 2) pa_nil))))) pss_nil)
  (pss_cons (ps_set (i := 3) sc_L_joined.nd rfl (.inl rfl) (pe_g (g_L_order T) (hr.mono (by omega)) (by rfl) pass0 (pa_cons (pv 1) (pa_cons (pv 2) pa_nil))))
  (pss_cons (ps_if (pt_cmpR op_eq (pv 0) pe_str (nomark _)) (pss_one (ps_ret (pe_cmpR op_lt (pv 3) pe_int (nomark _)))) pss_nil)
  (pss_cons (ps_if (pt_cmpR op_eq (pv 0) pe_str (nomark _)) (pss_one (ps_ret (pe_cmpR op_le (pv 3) pe_int (nomark _)))) pss_nil)
  (pss_cons (ps_if (pt_cmpR op_eq (pv 0) pe_str (nomark _)) (pss_one (ps_ret (pe_cmpR op_eq (pv 3) pe_int (nomark _)))) pss_nil)
  (pss_cons (ps_if (pt_cmpR op_eq (pe_cmpR op_eq (pv 0) pe_str (nomark _)) (pe_cmpR op_le (pv 3) pe_int (nomark _)) (nomark _)) (pss_one (ps_ret (pv 1))) pss_nil)
  (pss_one (ps_ret (pv 2))))))))))), ?_⟩
  rcases k with ⟨wo, rfl, sl, k⟩ | ⟨wo, rfl, k⟩
  · cases wo with
    | add => exact ⟨_, rfl, rfl, _, rfl, strT rfl ⟨_, rfl, _, rfl, F, a, b, x, y, rfl, hs, ha, hb, ⟨sx, sy, sl⟩, k⟩⟩
    | subtract => exact ⟨_, rfl, rfl, _, rfl, strF (by decide +kernel) ⟨_, rfl, rfl, _, rfl, strT rfl ⟨_, rfl, _, rfl, F, a, b, x, y, rfl, hs, ha, hb, ⟨sx, sy, sl⟩, k⟩⟩⟩
    | multiply => exact ⟨_, rfl, rfl, _, rfl, strF (by decide +kernel) ⟨_, rfl, rfl, _, rfl, strF (by decide +kernel) ⟨_, rfl, rfl, _, rfl, strT rfl ⟨_, rfl, _, rfl, F, a, b, x, y, rfl, hs, ha, hb, ⟨sx, sy, sl⟩, k⟩⟩⟩⟩
    | min =>
      refine ⟨_, rfl, rfl, _, rfl, strF (by decide +kernel) ⟨_, rfl, rfl, _, rfl, strF (by decide +kernel) ⟨_, rfl, rfl, _, rfl, strF (by decide +kernel) ⟨_, rfl, _, rfl, F, a, b, x, y, rfl, hs, ha, hb, sx, sy, ?_⟩⟩⟩⟩
      refine ⟨_, rfl, rfl, _, rfl, strF (by decide +kernel) ⟨_, rfl, rfl, _, rfl, strF (by decide +kernel) ⟨_, rfl, rfl, _, rfl, strF (by decide +kernel) ⟨_, rfl, rfl, _, rfl, _, _, rfl, rfl, rfl, _, rfl, ite2 (fun e => ?_) (fun e => ?_)⟩⟩⟩⟩
      · have e := V.bl.inj (of_decide_eq_true e)
        have e1 : decide (cmpI x y ≤ 0) = true := by rw [← e]; exact decide_eq_true rfl
        have h := c1.2.2.1.1 (of_decide_eq_true e1)
        exact ⟨_, rfl, k _ _ _ (Fz.refl hs) (by show IsF K F a (if x ≤ y then x else y); rw [if_pos h]; exact ha)⟩
      · have h : ¬ x ≤ y := fun z => e (decide_eq_true (congrArg V.bl (by rw [decide_eq_true (c1.2.2.1.2 z)]; exact decide_eq_true rfl)))
        exact ⟨_, rfl, k _ _ _ (Fz.refl hs) (by show IsF K F b (if x ≤ y then x else y); rw [if_neg h]; exact hb)⟩
    | max =>
      refine ⟨_, rfl, rfl, _, rfl, strF (by decide +kernel) ⟨_, rfl, rfl, _, rfl, strF (by decide +kernel) ⟨_, rfl, rfl, _, rfl, strF (by decide +kernel) ⟨_, rfl, _, rfl, F, a, b, x, y, rfl, hs, ha, hb, sx, sy, ?_⟩⟩⟩⟩
      have em : decide (V.str BinW.max.str = V.str "min") = false := by decide +kernel
      refine ⟨_, rfl, rfl, _, rfl, strF (by decide +kernel) ⟨_, rfl, rfl, _, rfl, strF (by decide +kernel) ⟨_, rfl, rfl, _, rfl, strF (by decide +kernel) ⟨_, rfl, rfl, _, rfl, _, _, rfl, rfl, rfl, _, rfl, ite2 (fun e => ?_) (fun e => ?_)⟩⟩⟩⟩
      · have e := V.bl.inj (of_decide_eq_true e)
        rw [em] at e
        have h : ¬ x ≤ y := fun z => by rw [decide_eq_true (c1.2.2.1.2 z)] at e; cases e
        have h2 : y ≤ x := Rat.le_of_lt (Rat.not_le.mp h)
        exact ⟨_, rfl, k _ _ _ (Fz.refl hs) (by show IsF K F a (if y ≤ x then x else y); rw [if_pos h2]; exact ha)⟩
      · have h : x ≤ y := by
          refine c1.2.2.1.1 ?_
          cases q : decide (cmpI x y ≤ 0) with
          | true => exact of_decide_eq_true q
          | false => exact absurd (decide_eq_true (congrArg V.bl (by rw [em, q]))) e
        have h2 : (if y ≤ x then x else y) = y := by
          by_cases z : y ≤ x
          · rw [if_pos z]; exact Rat.le_antisymm h z
          · rw [if_neg z]
        exact ⟨_, rfl, k _ _ _ (Fz.refl hs) (by show IsF K F b (if y ≤ x then x else y); rw [h2]; exact hb)⟩
  · obtain ⟨w1, w2, w3⟩ : wo.str ≠ "add" ∧ wo.str ≠ "subtract" ∧ wo.str ≠ "multiply" := by cases wo <;> decide +kernel
    refine ⟨_, rfl, rfl, _, rfl, strF w1 ⟨_, rfl, rfl, _, rfl, strF w2 ⟨_, rfl, rfl, _, rfl, strF w3 ⟨_, rfl, _, rfl, F, a, b, x, y, rfl, hs, ha, hb, sx, sy, ?_⟩⟩⟩⟩
    cases wo with
    | less =>
      refine ⟨_, rfl, rfl, _, rfl, strT rfl ⟨_, rfl, _, _, rfl, rfl, ?_⟩⟩
      show Q (.bl (decide (cmpI x y < 0))) H
      rw [show decide (cmpI x y < 0) = cmpB .less x y from decide_eq_decide.mpr c1.1]; exact k
    | atmost =>
      refine ⟨_, rfl, rfl, _, rfl, strF (by decide +kernel) ⟨_, rfl, rfl, _, rfl, strT rfl ⟨_, rfl, _, _, rfl, rfl, ?_⟩⟩⟩
      show Q (.bl (decide (cmpI x y ≤ 0))) H
      rw [show decide (cmpI x y ≤ 0) = cmpB .atmost x y from decide_eq_decide.mpr c1.2.2.1]; exact k
    | equal =>
      refine ⟨_, rfl, rfl, _, rfl, strF (by decide +kernel) ⟨_, rfl, rfl, _, rfl, strF (by decide +kernel) ⟨_, rfl, rfl, _, rfl, strT rfl ⟨_, rfl, rfl, ?_⟩⟩⟩⟩
      show Q (.bl (decide (V.int (cmpI x y) = V.int 0))) H
      rw [show decide (V.int (cmpI x y) = V.int 0) = cmpB .equal x y from decide_eq_decide.mpr ⟨fun z => c1.2.1.1 (V.int.inj z), fun z => congrArg V.int (c1.2.1.2 z)⟩]; exact k
end
end K3
end
section
set_option Elab.async false
set_option linter.all false
set_option maxRecDepth 100000
set_option exponentiation.threshold 100
namespace K3
open PySem PySem.Spec PyProof.Rows L2
/-! ### _law_value -/
def OkV (W : Wd Str) (day : Nat) : Px Str → Prop
  | .leaf _ => True
  | .ite _ p q => OkV W day p ∧ OkV W day q
  | .bin w p q => OkV W day p ∧ OkV W day q ∧ ∀ x y, pxv W day p = .ok x → pxv W day q = .ok y → Sm x ∧ Sm y ∧ Sl (binV w x y)
  | .part p => OkV W day p
/-- a walk over days that stops -/
def goG {ν : Type} (f : Nat → Ev ν Bool) (stop : Bool → Bool) (last : Bool) : List Nat → Ev ν Bool
  | [] => .ok last
  | d :: ds => match f d with
    | .error m => .error m
    | .ok b => if stop b = true then .ok b else goG f stop last ds
theorem goG_tim {ν : Type} (f : Nat → Ev ν Bool) (e : Bool) : ∀ ds : List Nat, goG f (fun b => decide (b = e)) (!e) ds = timGo f e ds
  | [] => rfl
  | d :: ds => by
    simp only [goG, timGo]
    cases f d with
    | error m => rfl
    | ok b =>
      by_cases h : b = e
      · simp only [h, decide_true, if_true]
      · simp only [h, decide_false, if_false]
        exact goG_tim f e ds
theorem pct_eq (x : Rat) : Rat.divInt x.num ((x.den : Int) * 100) = x * (1 / 100) := by
  have e : (1 / 100 : Rat).num = 1 ∧ (1 / 100 : Rat).den = 100 := by decide +kernel
  have := mul_gen x (1 / 100)
  rw [e.1, e.2, Int.mul_one] at this
  exact this
section
variable {P : Program} {w : World} {K : PySem.W.Frag} {mg : Str → Option Value} {base : Heap}
def AnsV (K : PySem.W.Frag) (H F : Hp) (Q : VK) : Ev Str Rat → Prop
  | .ok x => Ret N0 H F (fun v F' => IsF K F' v x) Q
  | .error m => Ret N0 H F (fun v F' => TpIn K F' v [.str "rate", .str m.1, .int (m.2 : Nat)]) Q
def AnsW (K : PySem.W.Frag) (H F : Hp) (Q : VK) : Ev Str Bool → Prop
  | .ok b => Ret N0 H F (fun v _ => v = .bl b) Q
  | .error m => Ret N0 H F (fun v F' => TpIn K F' v [.str "rate", .str m.1, .int (m.2 : Nat)]) Q
theorem ansV_on {H F H' F' : Hp} {Q : VK} {r : Ev Str Rat} (z : Fz N0 H F H' F') (k : AnsV K H F Q r) : AnsV K H' F' Q r := by
  cases r with
  | ok b => exact fun v H2 F2 z2 e => k v H2 F2 (z.trans z2) e
  | error m => exact fun d H2 F2 z2 e => k d H2 F2 (z.trans z2) e
theorem ansW_on {H F H' F' : Hp} {Q : VK} {r : Ev Str Bool} (z : Fz N0 H F H' F') (k : AnsW K H F Q r) : AnsW K H' F' Q r := by
  cases r with
  | ok b => exact fun v H2 F2 z2 e => k v H2 F2 (z.trans z2) e
  | error m => exact fun d H2 F2 z2 e => k d H2 F2 (z.trans z2) e
def spLV (K : PySem.W.Frag) (h : Nat) : Sp := fun vs H Q _ => ∃ (F : Hp) (a l f r : V) (pl : Option (Px Str)) (W : Wd Str) (day : Nat) (ring : List Str), vs = [a, l, .int (day : Nat), f, r] ∧ Same F H ∧ LetsIn K F l pl ∧ TabF K 100 W.facts F f ∧ TabF K 100 W.rates F r ∧ WB W day ∧ 1 ≤ h ∧
  ((∃ q, LfIn K F a q ∧ q.Ok ring FT ∧ AnsV K H F Q (lfv W day q)) ∨ (∃ c, TrIn K F a c ∧ c.Ok ring FT ∧ c.ht ≤ h ∧ AnsW K H F Q (trv W c day)) ∨
    ∃ p, PxIn K F pl a p ∧ p.Ok ring FT ∧ p.ht ≤ h ∧ OkV W day p ∧ ∃ x, pxv W day p = .ok x ∧ Ret N0 H F (fun v F' => IsF K F' v x) Q)
theorem lv_succ (T : Txt K mg) {h : Nat} (ih : G P w K mg base CX0 (10 + h) "_law_value" p_L_value (spLV K h)) : G P w K mg base CX0 (10 + (h + 1)) "_law_value" p_L_value (spLV K (h + 1)) := by
  refine G.mk' T.df_L_value T.g_L_value (fun _ _ _ _ _ _ us hl => match us, hl with | [_, _, _, _, _], _ => rfl) fun fd F => ?_
  refine FnOk.mono (j := 10 + h + 1) ?_ (by omega)
  refine F.ok sc_L_value (fun vs H Q E h => ?_) (fun cdv A outer s H vs Q E hr hh => ?_)
  · obtain ⟨_, _, _, _, _, _, _, _, _, rfl, _⟩ := h
    rfl
  obtain ⟨F, a, l, f, r, pl, W, day, ring, rfl, hs, hl, tf, tr, wb, _, hh⟩ := hh
  have one_ok : 1 ≤ sizeLine := by decide
  have three_ok : 3 ≤ sizeLine := by decide
  have kB : kitB "bool" "tuple" = some false := by decide +kernel
  have kT : kitB "tuple" "tuple" = some true := by decide +kernel
  have hp1 : ∀ c : Tr Str, c.ht ≤ h → 1 ≤ h := fun c hc => Nat.le_trans (by cases c <;> simp only [Tr.ht] <;> omega) hc
  have hp2 : ∀ c : Px Str, c.ht ≤ h → 1 ≤ h := fun c hc => Nat.le_trans (by cases c <;> simp only [Px.ht] <;> omega) hc
  have hh : (∃ q, LfIn K F a q ∧ q.Ok ring FT ∧ AnsV K H F Q (lfv W day q)) ∨ (∃ c, TrIn K F a c ∧ c.Ok ring FT ∧ c.ht ≤ h + 1 ∧ AnsW K H F Q (trv W c day)) ∨
    ∃ p, (∀ q, p ≠ .leaf q) ∧ PxIn K F pl a p ∧ p.Ok ring FT ∧ p.ht ≤ h + 1 ∧ OkV W day p ∧ ∃ x, pxv W day p = .ok x ∧ Ret N0 H F (fun v F' => IsF K F' v x) Q := by
    rcases hh with h1 | h1 | ⟨p, h1, h2, h3, h4, x, hx, k⟩
    · exact .inl h1
    · exact .inr (.inl h1)
    · cases p with
      | leaf q => exact .inl ⟨q, h1, h2, by rw [show lfv W day q = .ok x from hx]; exact k⟩
      | ite c p q => exact .inr (.inr ⟨_, fun q z => (by cases z), h1, h2, h3, h4, x, hx, k⟩)
      | bin w p q => exact .inr (.inr ⟨_, fun q z => (by cases z), h1, h2, h3, h4, x, hx, k⟩)
      | part p => exact .inr (.inr ⟨_, fun q z => (by cases z), h1, h2, h3, h4, x, hx, k⟩)
  refine ⟨_, PSs.nox (pss_cons (ps_set (i := 5) sc_L_value.nd rfl (.inl rfl) (pe_ix ix_tup (pv 0) pe_int (fun _ _ => rfl)))
  (pss_cons (ps_if (pt_cmpR op_in_seq (pv 5) (pe_lst (pa_cons pe_str (pa_cons pe_str pa_nil))) (by rfl)) (pss_one (ps_ret (pe_ix ix_tup (pv 0) pe_int (fun _ _ => rfl)))) pss_nil)
  (pss_cons (ps_if (pt_cmpR op_eq (pv 5) pe_str (nomark _)) (pss_one (ps_ret (pe_g (g_L_ratio T) (hr.mono (by omega)) (by rfl) pass0 (pa_cons (pe_ix ix_tup (pe_ix ix_tup (pv 0) pe_int (fun _ _ => rfl)) pe_int (fun _ _ => rfl)) (pa_cons (pe_op op_mulW (pe_ix ix_tup (pe_ix ix_tup (pv 0) pe_int (fun _ _ => rfl)) pe_int (fun _ _ => rfl)) pe_int) pa_nil))))) pss_nil)
  (pss_cons (ps_if (pt_cmpR op_in_seq (pv 5) (pe_lst (pa_cons pe_str (pa_cons pe_str pa_nil))) (by rfl)) (pss_cons (ps_set (i := 6) sc_L_value.nd rfl (.inl rfl) (pv 3))
  (pss_cons (ps_if (pt_cmpR op_eq (pv 5) pe_str (nomark _)) (pss_one (ps_set (i := 6) sc_L_value.nd rfl (.inl rfl) (pv 4))) pss_nil)
  (pss_cons (ps_set (i := 7) sc_L_value.nd rfl (.inl rfl) (pe_dget2 (hu_of hr) (pv 6) (pe_ix ix_tup (pv 0) pe_int (fun _ _ => rfl)) (pe_lst pa_nil) ⟨rfl, rfl, rfl, rfl⟩))
  (pss_cons (ps_if (pt_cmpR op_lt (pv 2) (pe_callB call_len_seq (by rfl) T.f_len (by decide +kernel) (pa_cons (pv 7) pa_nil)) (nomark _)) (pss_one (ps_ret (pe_ix ix_list (pv 7) (pv 2) (fun _ _ => rfl)))) pss_nil)
  (pss_one (ps_ret (pe_tup (pa_cons (pv 5) (pa_cons (pe_ix ix_tup (pv 0) pe_int (fun _ _ => rfl)) (pa_cons (pv 2) pa_nil)))))))))) pss_nil)
  (pss_cons (ps_if (pt_cmpR op_eq (pv 5) pe_str (nomark _)) (pss_one (ps_ret (pe_g ih (hr.mono (by omega)) (by rfl) pass0 (pa_cons (pe_ix ix_list (pe_lc (own := [("_law_row", 13)]) (g := gName 13) rfl sc_L_value.nd (pi_list (pv 1)) (blkOk_by (own := [("_law_row", 13)]) (N := n_L_value) (sc := defScope s_L_value) (by decide +kernel)) (fun _ _ _ _ _ => (pg_name (i := 13) sc_L_value.nd rfl (Or.inl rfl))) (fun _ _ _ _ _ => (pts_one (pt_cmpR op_eq (pe_ix (ix_tupK (K := K) rfl) (pv 13) pe_int (fun _ _ => rfl)) (pe_ix (ix_tupK (K := K) rfl) (pv 0) pe_int (fun _ _ => rfl)) (nomark _)))) (fun _ _ _ _ _ => (pe_ix (ix_tupK (K := K) rfl) (pv 13) pe_int (fun _ _ => rfl)))) pe_int (fun _ _ => rfl)) (pa_cons (pv 1) (pa_cons (pv 2) (pa_cons (pv 3) (pa_cons (pv 4) pa_nil)))))))) pss_nil)
  (pss_cons (ps_if (pt_cmpR op_in_seq (pv 5) (pe_lst (pa_cons pe_str (pa_cons pe_str pa_nil))) (by rfl)) (pss_one (ps_ret (pe_cmpR op_eq (pv 5) pe_str (nomark _)))) pss_nil)
  (pss_cons (ps_if (pt_cmpR op_in_seq (pv 5) (pe_lst (pa_cons pe_str (pa_cons pe_str (pa_cons pe_str pa_nil)))) (by rfl)) (pss_cons (ps_setLc (i := 8) (own := [("_law_k", 9)]) (g := gName 9) (tt := tYes) rfl sc_L_value.nd rfl rfl (sw_true rfl rfl rfl (by decide +kernel)) (pi_range2 (by rfl) T.f_range (pa_cons (pe_callB (call_max2 rfl) (by rfl) T.f_max (by decide +kernel) (pa_cons pe_int (pa_cons (pe_op op_add (pe_op op_sub (pv 2) (pe_ix ix_tup (pv 0) pe_int (fun _ _ => rfl))) pe_int) pa_nil))) (pa_cons (pe_op op_add (pv 2) pe_int) pa_nil))) (blkOk_by (own := [("_law_k", 9)]) (N := n_L_value) (sc := defScope s_L_value) (by decide +kernel)) (fun _ _ _ _ _ => (pg_name (i := 9) sc_L_value.nd rfl (Or.inl rfl))) (fun _ _ _ _ _ => pts_nil) (fun _ _ _ _ _ => (pv 9)))
  (pss_cut (ps_if (pt_cmpR op_eq (pv 5) pe_str (nomark _)) (pss_cons (ps_set (i := 8) sc_L_value.nd rfl (.inl rfl) (pe_lst (pa_cons (pe_op op_sub (pv 2) (pe_ix ix_tup (pv 0) pe_int (fun _ _ => rfl))) pa_nil)))
  (pss_one (ps_if (pt_cmpR op_lt (pv 2) (pe_ix ix_tup (pv 0) pe_int (fun _ _ => rfl)) (nomark _)) (pss_one (ps_ret pe_bl)) pss_nil))) pss_nil)
  (pss_cons (ps_for PassesOwn.never rfl (pi_list (pv 8)) (pg_name (i := 9) sc_L_value.nd rfl (Or.inl rfl))
    (pss_cons (ps_set (i := 10) sc_L_value.nd rfl (.inl rfl) (pe_g ih (hr.mono (by omega)) (by rfl) pass0 (pa_cons (pe_ix ix_tup (pv 0) pe_int (fun _ _ => rfl)) (pa_cons (pv 1) (pa_cons (pv 9) (pa_cons (pv 3) (pa_cons (pv 4) pa_nil)))))))
  (pss_one (ps_if (PW.pt (pw_or (pt_val (pe_callB call_isi (by rfl) T.f_isinstance (by decide +kernel) (pa_cons (pv 10) (pa_cons (pe_bltn (v := .ty "tuple") (by rfl) T.f_tuple (by decide +kernel) rfl) pa_nil)))) (pw_or (pt_cmpR op_eq (pv 5) pe_str (nomark _)) (pw_or1 (pt_cmpR op_eq (pv 10) (pe_cmpR op_eq (pv 5) pe_str (nomark _)) (nomark _)))))) (pss_one (ps_ret (pv 10))) pss_nil))))
  (pss_one (ps_ret (pe_cmpR op_eq (pv 5) pe_str (nomark _))))))) pss_nil)
  (pss_cons (ps_set (i := 11) sc_L_value.nd rfl (.inl rfl) (pe_g ih (hr.mono (by omega)) (by rfl) pass0 (pa_cons (pe_ix ix_tup (pv 0) pe_int (fun _ _ => rfl)) (pa_cons (pv 1) (pa_cons (pv 2) (pa_cons (pv 3) (pa_cons (pv 4) pa_nil)))))))
  (pss_cons (ps_if (PW.pt (pw_and (pt_val (pe_callB call_isi (by rfl) T.f_isinstance (by decide +kernel) (pa_cons (pv 11) (pa_cons (pe_bltn (v := .ty "tuple") (by rfl) T.f_tuple (by decide +kernel) rfl) pa_nil)))) (pw_and1 (pt_cmpR op_eq (pe_callB call_len_seq (by rfl) T.f_len (by decide +kernel) (pa_cons (pv 11) pa_nil)) pe_int (nomark _))))) (pss_one (ps_ret (pv 11))) pss_nil)
  (pss_cons (ps_if (pt_cmpR op_eq (pv 5) pe_str (nomark _)) (pss_one (ps_ret (pe_not (pv 11)))) pss_nil)
  (pss_cons (ps_if (pt_cmpR op_eq (pv 5) pe_str (nomark _)) (pss_one (ps_ret (pe_g ih (hr.mono (by omega)) (by rfl) pass0 (pa_cons (pe_ix ix_tup (pv 0) (pe_op op_add pe_int (pe_callTy call_int1 (by rfl) T.f_int (by decide +kernel) (pa_cons (pe_not (pv 11)) pa_nil))) (fun _ _ => rfl)) (pa_cons (pv 1) (pa_cons (pv 2) (pa_cons (pv 3) (pa_cons (pv 4) pa_nil)))))))) pss_nil)
  (pss_cons (ps_if (PW.pt (pw_or (PW.pt (pw_and (pt_cmpR op_eq (pv 5) pe_str (nomark _)) (pw_and1 (pt_not (pt_val (pv 11)))))) (pw_or1 (PW.pt (pw_and (pt_cmpR op_eq (pv 5) pe_str (nomark _)) (pw_and1 (pt_val (pv 11)))))))) (pss_one (ps_ret (pv 11))) pss_nil)
  (pss_cons (ps_set (i := 12) sc_L_value.nd rfl (.inl rfl) (pe_g ih (hr.mono (by omega)) (by rfl) pass0 (pa_cons (pe_ix ix_tup (pv 0) pe_int (fun _ _ => rfl)) (pa_cons (pv 1) (pa_cons (pv 2) (pa_cons (pv 3) (pa_cons (pv 4) pa_nil)))))))
  (pss_cons (ps_if (PW.pt (pw_or (PW.pt (pw_and (pt_val (pe_callB call_isi (by rfl) T.f_isinstance (by decide +kernel) (pa_cons (pv 12) (pa_cons (pe_bltn (v := .ty "tuple") (by rfl) T.f_tuple (by decide +kernel) rfl) pa_nil)))) (pw_and1 (pt_cmpR op_eq (pe_callB call_len_seq (by rfl) T.f_len (by decide +kernel) (pa_cons (pv 12) pa_nil)) pe_int (nomark _))))) (pw_or1 (pt_cmpR op_in_seq (pv 5) (pe_lst (pa_cons pe_str (pa_cons pe_str pa_nil))) (by rfl))))) (pss_one (ps_ret (pv 12))) pss_nil)
  (pss_one (ps_ret (pe_g (g_L_joined T) (hr.mono (by omega)) (by rfl) pass0 (pa_cons (pv 5) (pa_cons (pv 11) (pa_cons (pv 12) pa_nil)))))))))))))))))))), ?_⟩
  rcases hh with ⟨q, hq, hok, k⟩ | ⟨c, hc, hok, hht, k⟩ | ⟨p, hnl, hp, hok, hht, of, x, hx, k⟩
  · -- leaves
    cases q with
    | pct x =>
      obtain ⟨u, ⟨t, rfl, ht⟩, ⟨ua, rfl, hu⟩⟩ := hq
      refine ⟨_, rfl, t, _, _, _, rfl, rfl, sq_t hs ht, rfl, _, rfl, two_ok, fun q1 hq1 => ?_⟩
      have z1 := Fz.raw (o := .lst [.str "number", .str "money"]) hs hq1
      refine ⟨q1, _, rfl, .inl (SqL.of upd_same), rfl, rfl, _, rfl, inF (by decide +kernel) ?_⟩
      refine ⟨_, rfl, rfl, _, rfl, strT rfl ?_⟩
      have hok : Bt 3 0 x := hok
      have b1 := bt_mul hok (show Bt 0 7 (1 / 100) from ⟨by decide +kernel, by decide +kernel⟩)
      have cm : CMulW (x.den : Int) 100 := cmulw (a := 0) (b := 7) hok.2 (by decide) (by decide)
      have dp := den_pos x
      have hd : x.den ≤ 1 := hok.2
      refine ⟨_, rfl, t, _, _, _, rfl, rfl, sq_t (z1.sub) ht, rfl, ua, _, _, _, rfl, rfl, sq_t z1.sub hu, rfl, _, rfl, t, _, _, _, rfl, rfl, sq_t (z1.sub) ht, rfl, ua, _, _, _, rfl, rfl, sq_t z1.sub hu, rfl, _, _, rfl, rfl, cm, F, _, _, rfl, z1.sub, by omega, ?_, ?_, ?_⟩
      · show ((x.den : Int) * 100).natAbs ≤ 2 ^ 8998
        exact Nat.le_trans (show ((x.den : Int) * 100).natAbs ≤ 2 ^ 7 by omega) (Nat.pow_le_pow_right (by decide) (by decide))
      · rw [pct_eq]; exact Sl.of b1 (by decide)
      · rw [pct_eq]; exact fun v H2 F2 z2 hv => k _ _ _ (z1.trans z2) hv
    | num x =>
      obtain ⟨u, ⟨t, rfl, ht⟩, hu⟩ := hq
      refine ⟨_, rfl, t, _, _, _, rfl, rfl, sq_t hs ht, rfl, _, rfl, two_ok, fun q1 hq1 => ?_⟩
      have z1 := Fz.raw (o := .lst [.str "number", .str "money"]) hs hq1
      refine ⟨q1, _, rfl, .inl (SqL.of upd_same), rfl, rfl, _, rfl, inT (by decide +kernel) ?_⟩
      refine ⟨_, rfl, t, _, _, _, rfl, rfl, sq_t (z1.sub) ht, rfl, k _ _ _ z1 hu⟩
    | fact n =>
      obtain ⟨t, rfl, ht⟩ := hq
      obtain ⟨da, od, kvs, rfl, hda, hK⟩ := tf
      simp only [lfv] at k
      refine ⟨_, rfl, t, _, _, _, rfl, rfl, sq_t hs ht, rfl, _, rfl, two_ok, fun q1 hq1 => ?_⟩
      have z1 := Fz.raw (o := .lst [.str "number", .str "money"]) hs hq1
      refine ⟨q1, _, rfl, .inl (SqL.of upd_same), rfl, rfl, _, rfl, inF (by decide +kernel) ?_⟩
      refine ⟨_, rfl, rfl, _, rfl, strF (by decide +kernel) ?_⟩
      refine ⟨_, rfl, two_ok, fun q2 hq2 => ?_⟩
      have z2 := z1.trans (Fz.raw (o := .lst [.str "fact", .str "rate"]) z1.sub hq2)
      refine ⟨q2, _, rfl, .inl (SqL.of upd_same), rfl, rfl, _, rfl, inT (by decide +kernel) ?_⟩
      refine ⟨_, rfl, ?_⟩
      refine ⟨_, rfl, rfl, _, rfl, strF (by decide +kernel) ?_⟩
      have hd2 := z2.same _ _ (hs _ _ hda)
      refine ⟨_, rfl, da, rfl, .inl ⟨kvs, .inr ⟨od, hd2⟩⟩, _, rfl, t, _, _, _, rfl, rfl, sq_t (z2.sub) ht, rfl, (by decide : 0 ≤ sizeLine), fun l0 hl0 => ⟨_, dget_any (k := Sum.inr n) (.inr ⟨od, (Fz.raw z2.sub hl0).same _ _ hd2⟩), ?_⟩⟩
      have z3 := z2.trans (Fz.raw (o := .lst []) z2.sub hl0)
      obtain ⟨p1, ys, e1, e2, e3⟩ := tab_get hK z2.sub hl0 n
      rw [e1]
      have ly := pr_len e3
      refine ⟨_, rfl, _, rfl, p1, ys, rfl, .inl (SqL.of e2), _, _, rfl, rfl, _, rfl, ite2 (fun e => ?_) (fun e => ?_)⟩
      · have e := of_decide_eq_true e
        have hx : (W.facts n)[day]? = some ((W.facts n)[day]'(by omega)) := List.getElem?_eq_getElem (by omega)
        rw [hx] at k
        obtain ⟨xv, hxv, rxv⟩ := pr_at e3 hx
        exact ⟨_, rfl, _, rfl, p1, _, _, _, rfl, rfl, SqL.of e2, atI_nat hxv, k _ _ _ z3 rxv⟩
      · have e : ¬ ((day : Int) < (ys.length : Int)) := fun z => e (decide_eq_true z)
        have := wb.lo n (ok_fitL (ring := ring) hok)
        omega
    | rate n =>
      obtain ⟨t, rfl, ht⟩ := hq
      obtain ⟨da, od, kvs, rfl, hda, hK⟩ := tr
      simp only [lfv] at k
      refine ⟨_, rfl, t, _, _, _, rfl, rfl, sq_t hs ht, rfl, _, rfl, two_ok, fun q1 hq1 => ?_⟩
      have z1 := Fz.raw (o := .lst [.str "number", .str "money"]) hs hq1
      refine ⟨q1, _, rfl, .inl (SqL.of upd_same), rfl, rfl, _, rfl, inF (by decide +kernel) ?_⟩
      refine ⟨_, rfl, rfl, _, rfl, strF (by decide +kernel) ?_⟩
      refine ⟨_, rfl, two_ok, fun q2 hq2 => ?_⟩
      have z2 := z1.trans (Fz.raw (o := .lst [.str "fact", .str "rate"]) z1.sub hq2)
      refine ⟨q2, _, rfl, .inl (SqL.of upd_same), rfl, rfl, _, rfl, inT (by decide +kernel) ?_⟩
      refine ⟨_, rfl, ?_⟩
      refine ⟨_, rfl, rfl, _, rfl, strT rfl ?_⟩
      refine ⟨_, rfl, ?_⟩
      have hd2 := z2.same _ _ (hs _ _ hda)
      refine ⟨_, rfl, da, rfl, .inl ⟨kvs, .inr ⟨od, hd2⟩⟩, _, rfl, t, _, _, _, rfl, rfl, sq_t (z2.sub) ht, rfl, (by decide : 0 ≤ sizeLine), fun l0 hl0 => ⟨_, dget_any (k := Sum.inr n) (.inr ⟨od, (Fz.raw z2.sub hl0).same _ _ hd2⟩), ?_⟩⟩
      have z3 := z2.trans (Fz.raw (o := .lst []) z2.sub hl0)
      obtain ⟨p1, ys, e1, e2, e3⟩ := tab_get hK z2.sub hl0 n
      rw [e1]
      have ly := pr_len e3
      refine ⟨_, rfl, _, rfl, p1, ys, rfl, .inl (SqL.of e2), _, _, rfl, rfl, _, rfl, ite2 (fun e => ?_) (fun e => ?_)⟩
      · have e := of_decide_eq_true e
        have hx : (W.rates n)[day]? = some ((W.rates n)[day]'(by omega)) := List.getElem?_eq_getElem (by omega)
        rw [hx] at k
        obtain ⟨xv, hxv, rxv⟩ := pr_at e3 hx
        exact ⟨_, rfl, _, rfl, p1, _, _, _, rfl, rfl, SqL.of e2, atI_nat hxv, k _ _ _ z3 rxv⟩
      · have e : ¬ ((day : Int) < (ys.length : Int)) := fun z => e (decide_eq_true z)
        have hx : (W.rates n)[day]? = none := List.getElem?_eq_none (by omega)
        rw [hx] at k
        refine ⟨_, rfl, _, rfl, t, _, _, _, rfl, rfl, sq_t (z3.sub) ht, rfl, _, rfl, three_ok, fun q4 hq4 => ?_⟩
        have z4 := z3.trans (Fz.nw (o := .tup [.str "rate", .str n, .int (day : Nat)]) z3.sub hq4)
        exact k _ _ _ z4 ⟨q4, rfl, .inl (.inl upd_same)⟩
  · -- truths
    cases c with
    | tru =>
      obtain ⟨t, rfl, ht⟩ := hc
      refine ⟨_, rfl, t, _, _, _, rfl, rfl, sq_t hs ht, rfl, _, rfl, two_ok, fun q1 hq1 => ?_⟩
      have z1 := Fz.raw (o := .lst [.str "number", .str "money"]) hs hq1
      refine ⟨q1, _, rfl, .inl (SqL.of upd_same), rfl, rfl, _, rfl, inF (by decide +kernel) ?_⟩
      refine ⟨_, rfl, rfl, _, rfl, strF (by decide +kernel) ?_⟩
      refine ⟨_, rfl, two_ok, fun q2 hq2 => ?_⟩
      have z2 := z1.trans (Fz.raw (o := .lst [.str "fact", .str "rate"]) z1.sub hq2)
      refine ⟨q2, _, rfl, .inl (SqL.of upd_same), rfl, rfl, _, rfl, inF (by decide +kernel) ?_⟩
      refine ⟨_, rfl, rfl, _, rfl, strF (by decide +kernel) ?_⟩
      refine ⟨_, rfl, two_ok, fun q3 hq3 => ?_⟩
      have z3 := z2.trans (Fz.raw (o := .lst [.str "true", .str "false"]) z2.sub hq3)
      refine ⟨q3, _, rfl, .inl (SqL.of upd_same), rfl, rfl, _, rfl, inT (by decide +kernel) ?_⟩
      refine ⟨_, rfl, rfl, ?_⟩
      exact k _ _ _ z3 (by rfl)
    | fls =>
      obtain ⟨t, rfl, ht⟩ := hc
      refine ⟨_, rfl, t, _, _, _, rfl, rfl, sq_t hs ht, rfl, _, rfl, two_ok, fun q1 hq1 => ?_⟩
      have z1 := Fz.raw (o := .lst [.str "number", .str "money"]) hs hq1
      refine ⟨q1, _, rfl, .inl (SqL.of upd_same), rfl, rfl, _, rfl, inF (by decide +kernel) ?_⟩
      refine ⟨_, rfl, rfl, _, rfl, strF (by decide +kernel) ?_⟩
      refine ⟨_, rfl, two_ok, fun q2 hq2 => ?_⟩
      have z2 := z1.trans (Fz.raw (o := .lst [.str "fact", .str "rate"]) z1.sub hq2)
      refine ⟨q2, _, rfl, .inl (SqL.of upd_same), rfl, rfl, _, rfl, inF (by decide +kernel) ?_⟩
      refine ⟨_, rfl, rfl, _, rfl, strF (by decide +kernel) ?_⟩
      refine ⟨_, rfl, two_ok, fun q3 hq3 => ?_⟩
      have z3 := z2.trans (Fz.raw (o := .lst [.str "true", .str "false"]) z2.sub hq3)
      refine ⟨q3, _, rfl, .inl (SqL.of upd_same), rfl, rfl, _, rfl, inT (by decide +kernel) ?_⟩
      refine ⟨_, rfl, rfl, ?_⟩
      exact k _ _ _ z3 (congrArg V.bl (by decide +kernel))
    | tim wo n c =>
      obtain ⟨u, ⟨t, rfl, ht⟩, hc⟩ := hc
      have hsub : c.ht ≤ h := by simp only [Tr.ht] at hht; omega
      obtain ⟨w1, w2, w3, w4, w5, w6⟩ : wo.str ≠ "percent" ∧ wo.str ≠ "name" ∧ inV (.str wo.str) [.str "number", .str "money"] = false ∧ inV (.str wo.str) [.str "fact", .str "rate"] = false ∧ inV (.str wo.str) [.str "true", .str "false"] = false ∧ inV (.str wo.str) [.str "ever", .str "always", .str "before"] = true := by cases wo <;> decide +kernel
      refine ⟨_, rfl, t, _, _, _, rfl, rfl, sq_t hs ht, rfl, _, rfl, two_ok, fun q1 hq1 => ?_⟩
      have z1 := Fz.raw (o := .lst [.str "number", .str "money"]) hs hq1
      refine ⟨q1, _, rfl, .inl (SqL.of upd_same), rfl, rfl, _, rfl, inF w3 ?_⟩
      refine ⟨_, rfl, rfl, _, rfl, strF w1 ?_⟩
      refine ⟨_, rfl, two_ok, fun q2 hq2 => ?_⟩
      have z2 := z1.trans (Fz.raw (o := .lst [.str "fact", .str "rate"]) z1.sub hq2)
      refine ⟨q2, _, rfl, .inl (SqL.of upd_same), rfl, rfl, _, rfl, inF w4 ?_⟩
      refine ⟨_, rfl, rfl, _, rfl, strF w2 ?_⟩
      refine ⟨_, rfl, two_ok, fun q3 hq3 => ?_⟩
      have z3 := z2.trans (Fz.raw (o := .lst [.str "true", .str "false"]) z2.sub hq3)
      refine ⟨q3, _, rfl, .inl (SqL.of upd_same), rfl, rfl, _, rfl, inF w5 ?_⟩
      refine ⟨_, rfl, three_ok, fun q4 hq4 => ?_⟩
      have z4 := z3.trans (Fz.raw (o := .lst [.str "ever", .str "always", .str "before"]) z3.sub hq4)
      refine ⟨q4, _, rfl, .inl (SqL.of upd_same), rfl, rfl, _, rfl, inT w6 ?_⟩
      have hday := wb.sm
      have hn : n ≤ 2 := hok.2.1
      have hlo : (if (day : Int) - (n : Int) + 1 > 0 then (day : Int) - (n : Int) + 1 else 0) = ((day + 1 - n : Nat) : Int) := by split <;> omega
      refine ⟨_, rfl, _, rfl, t, _, _, _, rfl, rfl, sq_t (z4.sub) ht, rfl, _, _, rfl, rfl, _, _, rfl, rfl, _, _, rfl, _, rfl, _, _, rfl, rfl, ((day + 1 - n : Nat) : Int), ((day + 1 : Nat) : Int), by rw [hlo]; rfl, ⟨by omega, by omega, by omega, by omega⟩, lc_R (S := N0) (lo := ((day + 1 - n : Nat) : Int)) (n := (((day + 1 : Nat) : Int) - ((day + 1 - n : Nat) : Int)).toNat) (fun i acc F' => acc = (List.range' (day + 1 - n) i).map fun d => V.int (d : Nat)) z4.sub (fun _ z => z.elim) rfl (by omega) (fun _ => rfl) (fun i acc H' F' hi z p R R' hR hR' => ?_) (fun D ys H1 F1 hD z5 e1 e2 p1 => ?_)⟩
      · refine yes ⟨_, rfl, hR _ H' F' (Fz.refl z.sub) ?_⟩
        rw [p, List.range'_concat, List.map_append]
        have : ((day + 1 - n : Nat) : Int) + (i : Int) = ((day + 1 - n + 1 * i : Nat) : Int) := by omega
        rw [this]; rfl
      · have ecnt : (((day + 1 : Nat) : Int) - ((day + 1 - n : Nat) : Int)).toNat = day + 1 - (day + 1 - n) := by omega
        rw [ecnt] at p1
        have z6 := z4.trans z5
        have z7 := z6.freeze (z4.same.free hD) e1 e2
        have fD := upd_same (H := F1) (a := D) (o := .lst ys)
        generalize upd F1 D (.lst ys) = F2 at z7 fD
        obtain ⟨stop, hstop, hgo⟩ : ∃ stop : Bool → Bool, (∀ b, stop b = true ↔ (decide (V.str wo.str = V.str "before") = true ∨ b = decide (V.str wo.str = V.str "ever"))) ∧ (¬ (wo = .before ∧ day < n) → goG (trv W c) stop (decide (V.str wo.str = V.str "always")) (if wo = .before then [day - n] else days day n) = trv W (.tim wo n c) day) := by
          cases wo with
          | before =>
            refine ⟨fun _ => true, fun b => ⟨fun _ => .inl (by decide +kernel), fun _ => rfl⟩, fun hno => ?_⟩
            have hno : ¬ day < n := fun z => hno ⟨rfl, z⟩
            simp only [trv, if_neg hno, if_true, goG]
            cases trv W c (day - n) <;> rfl
          | ever => exact ⟨fun b => decide (b = true), fun b => ⟨fun z => .inr ((of_decide_eq_true z).trans (show true = decide (V.str TimW.ever.str = V.str "ever") by decide +kernel)), fun z => z.elim (fun z => absurd z (by decide +kernel)) fun z => decide_eq_true (z.trans (show decide (V.str TimW.ever.str = V.str "ever") = true by decide +kernel))⟩, fun _ => (by rw [if_neg (by decide), show decide (V.str TimW.ever.str = V.str "always") = !true by decide +kernel, goG_tim]; rfl)⟩
          | always => exact ⟨fun b => decide (b = false), fun b => ⟨fun z => .inr ((of_decide_eq_true z).trans (show false = decide (V.str TimW.always.str = V.str "ever") by decide +kernel)), fun z => z.elim (fun z => absurd z (by decide +kernel)) fun z => decide_eq_true (z.trans (show decide (V.str TimW.always.str = V.str "ever") = false by decide +kernel))⟩, fun _ => (by rw [if_neg (by decide), show decide (V.str TimW.always.str = V.str "always") = !false by decide +kernel, goG_tim]; rfl)⟩
        refine ⟨fun σ' H' => ∃ (D2 : Addr) (ds : List Nat) (F3 : Hp) (r9 : Option V), σ' = [some (.ref t), some l, some (.int (day : Nat)), some f, some r, some (.str wo.str), none, none, some (.ref D2), r9, none, none, none, none] ∧ Fz N0 H F H' F3 ∧ F3 D2 = some (.lst (ds.map fun d => V.int (d : Nat))) ∧ (∀ d ∈ ds, d ≤ day) ∧ goG (trv W c) stop (decide (V.str wo.str = V.str "always")) ds = trv W (.tim wo n c) day, ?_, ?_⟩
        · refine ⟨_, rfl, rfl, _, rfl, ite2 (fun e => ?_) (fun e => ?_)⟩
          · have ew : wo = .before := by
              cases wo with
              | before => rfl
              | ever => exact absurd e (by decide +kernel)
              | always => exact absurd e (by decide +kernel)
            subst ew
            refine ⟨_, rfl, _, rfl, t, _, _, _, rfl, rfl, sq_t (hs.trans z7.same) ht, rfl, _, _, rfl, rfl, one_ok, fun q8 hq8 => ?_⟩
            have z8 := z7.trans (Fz.nw (o := .lst [.int ((day : Int) - (n : Int))]) z7.sub hq8)
            refine ⟨_, rfl, _, rfl, t, _, _, _, rfl, rfl, sq_t (hs.trans z8.same) ht, rfl, _, _, rfl, rfl, _, rfl, ite2 (fun e2 => ?_) (fun e2 => ?_)⟩
            · have e2 := of_decide_eq_true e2
              have ek : trv W (.tim .before n c) day = .ok false := by simp only [trv]; rw [if_pos (by omega)]
              rw [ek] at k
              exact k _ _ _ z8 rfl
            · have e2 : ¬ ((day : Int) < (n : Int)) := fun z => e2 (decide_eq_true z)
              refine ⟨q8, [day - n], _, none, rfl, z8, ?_, fun d hd => ?_, hgo (fun z => e2 (by omega))⟩
              · have : (day : Int) - (n : Int) = ((day - n : Nat) : Int) := by omega
                rw [upd_same, this]; rfl
              · rw [List.mem_singleton.mp hd]; omega
          · have ew : wo ≠ .before := fun z => by subst z; exact e (by decide +kernel)
            refine ⟨D, days day n, F2, none, rfl, z7, by rw [fD, p1]; rfl, fun d hd => ?_, ?_⟩
            · obtain ⟨j, hj, e⟩ := List.mem_range'.mp hd
              omega
            · have := hgo (fun z => ew z.1)
              rw [if_neg ew] at this
              exact this
        · rintro σ' H' ⟨D2, ds, F3, r9, rfl, z8, hD2, hds, hgo2⟩
          have gz := z8.grow
          refine ⟨_, rfl, D2, rfl, ⟨_, SqL.of (z8.sub _ _ hD2)⟩, for_list (xs := ds.map fun d => V.int (d : Nat)) (fun i σ H' => ∃ (r9 r10 : Option V) (F4 : Hp), σ = [some (.ref t), some l, some (.int (day : Nat)), some f, some r, some (.str wo.str), none, none, some (.ref D2), r9, r10, none, none, none] ∧ Fz N0 H F H' F4 ∧ Same F3 F4 ∧ goG (trv W c) stop (decide (V.str wo.str = V.str "always")) (ds.drop i) = trv W (.tim wo n c) day)
            ⟨_, none, F3, rfl, z8, Same.refl _, by rw [List.drop_zero]; exact hgo2⟩ (fun i σ H' _ hp => ?_) (fun i v σ H' hv hp => ?_) (fun σ H' hp => ?_)⟩
          · obtain ⟨_, _, F4, rfl, z, g, _⟩ := hp
            exact SqL.of (z.sub _ _ (g _ _ hD2))
          · obtain ⟨r9, r10, F4, rfl, z, g, hg⟩ := hp
            obtain ⟨d, hd, rfl⟩ : ∃ d, ds[i]? = some d ∧ v = V.int (d : Nat) := by
              rw [List.getElem?_map] at hv
              cases q : ds[i]? with
              | none => rw [q] at hv; cases hv
              | some d => rw [q] at hv; exact ⟨d, rfl, (Option.some.inj hv).symm⟩
            have hid := (List.getElem?_eq_some_iff.mp hd).1
            have ed : ds.drop i = d :: ds.drop (i + 1) := by
              rw [List.drop_eq_getElem_cons hid]
              rw [List.getElem?_eq_getElem hid] at hd
              rw [Option.some.inj hd]
            rw [ed] at hg
            refine ⟨_, rfl, t, _, _, _, rfl, rfl, sq_t (hs.trans z.same) ht, rfl, _, rfl, _, rfl, _, rfl, _, rfl, F4, u, _, _, _, pl, W, d, ring, rfl, z.sub, hl.up z.grow, tf.up upTab z.grow, tr.up upTab z.grow, (wb.le (hds d (List.mem_of_getElem? hd))), hp1 c hsub, .inr (.inl ⟨c, hc.up z.grow, hok.2.2, hsub, ?_⟩)⟩
            cases qv : trv W c d with
            | error m =>
              have eg : trv W (.tim wo n c) day = .error m := by rw [← hg]; simp only [goG, qv]
              rw [eg] at k
              intro v H2 F5 z2 hv2
              obtain ⟨tv, rfl, htv⟩ := hv2
              have hv2 := sq_t z2.sub htv
              refine ⟨_, rfl, _, _, _, _, true, rfl, .ty "tuple", tyT hv2, kit_ty kT, _, rfl, iteT (iteT ⟨_, rfl, k _ _ _ (z.trans z2) ⟨tv, rfl, htv⟩⟩)⟩
            | ok b =>
              have eg : trv W (.tim wo n c) day = if stop b = true then .ok b else goG (trv W c) stop (decide (V.str wo.str = V.str "always")) (ds.drop (i + 1)) := by rw [← hg]; simp only [goG, qv]
              intro v H2 F5 z2 ev
              subst ev
              refine ⟨_, rfl, _, _, _, _, false, rfl, .ty "tuple", .base (.bl _), kit_ty kB, _, rfl, iteF ?_⟩
              refine ⟨_, rfl, rfl, _, rfl, ite2 (fun e => ?_) (fun e => ?_)⟩
              · rw [if_pos ((hstop b).2 (.inl e))] at eg
                rw [eg] at k
                exact iteT ⟨_, rfl, k _ _ _ (z.trans z2) rfl⟩
              · refine ⟨_, rfl, _, rfl, rfl, rfl, _, rfl, ite2 (fun e' => ?_) (fun e' => ?_)⟩
                · rw [if_pos ((hstop b).2 (.inr (V.bl.inj (of_decide_eq_true e'))))] at eg
                  rw [eg] at k
                  exact ⟨_, rfl, k _ _ _ (z.trans z2) rfl⟩
                · have hns : ¬ stop b = true := fun q => ((hstop b).1 q).elim e (fun q => e' (decide_eq_true (congrArg V.bl q)))
                  rw [if_neg hns] at eg
                  exact ⟨_, _, F5, rfl, z.trans z2, g.trans z2.grow, eg.symm⟩
          · obtain ⟨r9, r10, F4, rfl, z, g, hg⟩ := hp
            rw [List.drop_eq_nil_of_le (by rw [List.length_map]; omega)] at hg
            have hg : Except.ok (decide (V.str wo.str = V.str "always")) = trv W (.tim wo n c) day := hg
            rw [← hg] at k
            exact ⟨_, rfl, rfl, k _ _ _ z rfl⟩
    | not c =>
      obtain ⟨u, ⟨t, rfl, ht⟩, hc⟩ := hc
      have hsub : c.ht ≤ h := by simp only [Tr.ht] at hht; omega
      refine ⟨_, rfl, t, _, _, _, rfl, rfl, sq_t hs ht, rfl, _, rfl, two_ok, fun q1 hq1 => ?_⟩
      have z1 := Fz.raw (o := .lst [.str "number", .str "money"]) hs hq1
      refine ⟨q1, _, rfl, .inl (SqL.of upd_same), rfl, rfl, _, rfl, inF (by decide +kernel) ?_⟩
      refine ⟨_, rfl, rfl, _, rfl, strF (by decide +kernel) ?_⟩
      refine ⟨_, rfl, two_ok, fun q2 hq2 => ?_⟩
      have z2 := z1.trans (Fz.raw (o := .lst [.str "fact", .str "rate"]) z1.sub hq2)
      refine ⟨q2, _, rfl, .inl (SqL.of upd_same), rfl, rfl, _, rfl, inF (by decide +kernel) ?_⟩
      refine ⟨_, rfl, rfl, _, rfl, strF (by decide +kernel) ?_⟩
      refine ⟨_, rfl, two_ok, fun q3 hq3 => ?_⟩
      have z3 := z2.trans (Fz.raw (o := .lst [.str "true", .str "false"]) z2.sub hq3)
      refine ⟨q3, _, rfl, .inl (SqL.of upd_same), rfl, rfl, _, rfl, inF (by decide +kernel) ?_⟩
      refine ⟨_, rfl, three_ok, fun q4 hq4 => ?_⟩
      have z4 := z3.trans (Fz.raw (o := .lst [.str "ever", .str "always", .str "before"]) z3.sub hq4)
      refine ⟨q4, _, rfl, .inl (SqL.of upd_same), rfl, rfl, _, rfl, inF (by decide +kernel) ?_⟩
      refine ⟨_, rfl, t, _, _, _, rfl, rfl, sq_t (z4.sub) ht, rfl, _, rfl, _, rfl, _, rfl, _, rfl, F, u, _, _, _, pl, W, day, ring, rfl, z4.sub, hl, tf, tr, wb, hp1 c hsub, .inr (.inl ⟨c, hc, hok, hsub, ?_⟩)⟩
      simp only [trv] at k
      cases q : trv W c day with
      | error m =>
        rw [q] at k
        intro v H2 F2 z5 hv
        obtain ⟨tv, rfl, htv⟩ := hv
        have hv2 := sq_t z5.sub htv
        refine ⟨_, rfl, _, _, _, _, true, rfl, .ty "tuple", tyT hv2, kit_ty kT, _, rfl, iteT ⟨_, rfl, tv, _, rfl, .inr hv2, rfl, _, rfl, inT rfl ?_⟩⟩
        exact ⟨_, rfl, k _ _ _ (z4.trans z5) ⟨tv, rfl, htv⟩⟩
      | ok b =>
        rw [q] at k
        intro v H2 F2 z5 ev
        subst ev
        refine ⟨_, rfl, _, _, _, _, false, rfl, .ty "tuple", .base (.bl _), kit_ty kB, _, rfl, iteF (iteF ?_)⟩
        refine ⟨_, rfl, rfl, _, rfl, strT rfl ?_⟩
        exact ⟨_, rfl, _, rfl, k _ _ _ (z4.trans z5) rfl⟩
    | and c d =>
      obtain ⟨u, u2, ⟨t, rfl, ht⟩, hc, hd⟩ := hc
      have hsub : c.ht ≤ h ∧ d.ht ≤ h := by simp only [Tr.ht] at hht; omega
      refine ⟨_, rfl, t, _, _, _, rfl, rfl, sq_t hs ht, rfl, _, rfl, two_ok, fun q1 hq1 => ?_⟩
      have z1 := Fz.raw (o := .lst [.str "number", .str "money"]) hs hq1
      refine ⟨q1, _, rfl, .inl (SqL.of upd_same), rfl, rfl, _, rfl, inF (by decide +kernel) ?_⟩
      refine ⟨_, rfl, rfl, _, rfl, strF (by decide +kernel) ?_⟩
      refine ⟨_, rfl, two_ok, fun q2 hq2 => ?_⟩
      have z2 := z1.trans (Fz.raw (o := .lst [.str "fact", .str "rate"]) z1.sub hq2)
      refine ⟨q2, _, rfl, .inl (SqL.of upd_same), rfl, rfl, _, rfl, inF (by decide +kernel) ?_⟩
      refine ⟨_, rfl, rfl, _, rfl, strF (by decide +kernel) ?_⟩
      refine ⟨_, rfl, two_ok, fun q3 hq3 => ?_⟩
      have z3 := z2.trans (Fz.raw (o := .lst [.str "true", .str "false"]) z2.sub hq3)
      refine ⟨q3, _, rfl, .inl (SqL.of upd_same), rfl, rfl, _, rfl, inF (by decide +kernel) ?_⟩
      refine ⟨_, rfl, three_ok, fun q4 hq4 => ?_⟩
      have z4 := z3.trans (Fz.raw (o := .lst [.str "ever", .str "always", .str "before"]) z3.sub hq4)
      refine ⟨q4, _, rfl, .inl (SqL.of upd_same), rfl, rfl, _, rfl, inF (by decide +kernel) ?_⟩
      refine ⟨_, rfl, t, _, _, _, rfl, rfl, sq_t (z4.sub) ht, rfl, _, rfl, _, rfl, _, rfl, _, rfl, F, u, _, _, _, pl, W, day, ring, rfl, z4.sub, hl, tf, tr, wb, hp1 c hsub.1, .inr (.inl ⟨c, hc, hok.1, hsub.1, ?_⟩)⟩
      simp only [trv] at k
      cases q : trv W c day with
      | error m =>
        rw [q] at k
        intro v H2 F2 z5 hv
        obtain ⟨tv, rfl, htv⟩ := hv
        have hv2 := sq_t z5.sub htv
        refine ⟨_, rfl, _, _, _, _, true, rfl, .ty "tuple", tyT hv2, kit_ty kT, _, rfl, iteT ⟨_, rfl, tv, _, rfl, .inr hv2, rfl, _, rfl, inT rfl ?_⟩⟩
        exact ⟨_, rfl, k _ _ _ (z4.trans z5) ⟨tv, rfl, htv⟩⟩
      | ok b =>
        rw [q] at k
        intro v H2 F2 z5 ev
        subst ev
        have z6 := z4.trans z5
        refine ⟨_, rfl, _, _, _, _, false, rfl, .ty "tuple", .base (.bl _), kit_ty kB, _, rfl, iteF (iteF ?_)⟩
        refine ⟨_, rfl, rfl, _, rfl, strF (by decide +kernel) ?_⟩
        refine ⟨_, rfl, rfl, _, rfl, strF (by decide +kernel) ?_⟩
        refine ⟨_, rfl, rfl, _, rfl, strT rfl ⟨_, rfl, b, rfl, ?_⟩⟩
        cases b with
        | false => exact iteT (iteT ⟨_, rfl, k _ _ _ z6 rfl⟩)
        | true =>
          refine iteF ?_
          refine ⟨_, rfl, rfl, _, rfl, strF (by decide +kernel) (iteF ?_)⟩
          refine ⟨_, rfl, t, _, _, _, rfl, rfl, sq_t (z6.grow.trans z6.sub) ht, rfl, _, rfl, _, rfl, _, rfl, _, rfl, F2, u2, _, _, _, pl, W, day, ring, rfl, z6.sub, hl.up z6.grow, tf.up upTab z6.grow, tr.up upTab z6.grow, wb, hp1 d hsub.2, .inr (.inl ⟨d, hd.up z6.grow, hok.2, hsub.2, ?_⟩)⟩
          cases q2 : trv W d day with
          | error m =>
            simp only [q2] at k
            intro v H3 F3 z7 hv
            obtain ⟨tv, rfl, htv⟩ := hv
            have hv2 := sq_t z7.sub htv
            refine ⟨_, rfl, _, _, _, _, true, rfl, .ty "tuple", tyT hv2, kit_ty kT, _, rfl, iteT ⟨_, rfl, tv, _, rfl, .inr hv2, rfl, _, rfl, inT rfl (iteT ?_)⟩⟩
            exact ⟨_, rfl, k _ _ _ (z6.trans z7) ⟨tv, rfl, htv⟩⟩
          | ok b2 =>
            simp only [q2] at k
            intro v H3 F3 z7 ev
            subst ev
            have z8 := z6.trans z7
            refine ⟨_, rfl, _, _, _, _, false, rfl, .ty "tuple", .base (.bl _), kit_ty kB, _, rfl, iteF (iteF ?_)⟩
            refine ⟨_, rfl, two_ok, fun q9 hq9 => ?_⟩
            have z9 := z8.trans (Fz.raw (o := .lst [.str "and", .str "or"]) z8.sub hq9)
            exact ⟨q9, _, rfl, .inl (SqL.of upd_same), rfl, rfl, _, rfl, inT (by decide +kernel) ⟨_, rfl, k _ _ _ z9 rfl⟩⟩
    | or c d =>
      obtain ⟨u, u2, ⟨t, rfl, ht⟩, hc, hd⟩ := hc
      have hsub : c.ht ≤ h ∧ d.ht ≤ h := by simp only [Tr.ht] at hht; omega
      refine ⟨_, rfl, t, _, _, _, rfl, rfl, sq_t hs ht, rfl, _, rfl, two_ok, fun q1 hq1 => ?_⟩
      have z1 := Fz.raw (o := .lst [.str "number", .str "money"]) hs hq1
      refine ⟨q1, _, rfl, .inl (SqL.of upd_same), rfl, rfl, _, rfl, inF (by decide +kernel) ?_⟩
      refine ⟨_, rfl, rfl, _, rfl, strF (by decide +kernel) ?_⟩
      refine ⟨_, rfl, two_ok, fun q2 hq2 => ?_⟩
      have z2 := z1.trans (Fz.raw (o := .lst [.str "fact", .str "rate"]) z1.sub hq2)
      refine ⟨q2, _, rfl, .inl (SqL.of upd_same), rfl, rfl, _, rfl, inF (by decide +kernel) ?_⟩
      refine ⟨_, rfl, rfl, _, rfl, strF (by decide +kernel) ?_⟩
      refine ⟨_, rfl, two_ok, fun q3 hq3 => ?_⟩
      have z3 := z2.trans (Fz.raw (o := .lst [.str "true", .str "false"]) z2.sub hq3)
      refine ⟨q3, _, rfl, .inl (SqL.of upd_same), rfl, rfl, _, rfl, inF (by decide +kernel) ?_⟩
      refine ⟨_, rfl, three_ok, fun q4 hq4 => ?_⟩
      have z4 := z3.trans (Fz.raw (o := .lst [.str "ever", .str "always", .str "before"]) z3.sub hq4)
      refine ⟨q4, _, rfl, .inl (SqL.of upd_same), rfl, rfl, _, rfl, inF (by decide +kernel) ?_⟩
      refine ⟨_, rfl, t, _, _, _, rfl, rfl, sq_t (z4.sub) ht, rfl, _, rfl, _, rfl, _, rfl, _, rfl, F, u, _, _, _, pl, W, day, ring, rfl, z4.sub, hl, tf, tr, wb, hp1 c hsub.1, .inr (.inl ⟨c, hc, hok.1, hsub.1, ?_⟩)⟩
      simp only [trv] at k
      cases q : trv W c day with
      | error m =>
        rw [q] at k
        intro v H2 F2 z5 hv
        obtain ⟨tv, rfl, htv⟩ := hv
        have hv2 := sq_t z5.sub htv
        refine ⟨_, rfl, _, _, _, _, true, rfl, .ty "tuple", tyT hv2, kit_ty kT, _, rfl, iteT ⟨_, rfl, tv, _, rfl, .inr hv2, rfl, _, rfl, inT rfl ?_⟩⟩
        exact ⟨_, rfl, k _ _ _ (z4.trans z5) ⟨tv, rfl, htv⟩⟩
      | ok b =>
        rw [q] at k
        intro v H2 F2 z5 ev
        subst ev
        have z6 := z4.trans z5
        refine ⟨_, rfl, _, _, _, _, false, rfl, .ty "tuple", .base (.bl _), kit_ty kB, _, rfl, iteF (iteF ?_)⟩
        refine ⟨_, rfl, rfl, _, rfl, strF (by decide +kernel) ?_⟩
        refine ⟨_, rfl, rfl, _, rfl, strF (by decide +kernel) ?_⟩
        refine ⟨_, rfl, rfl, _, rfl, strF (by decide +kernel) (iteF ?_)⟩
        refine ⟨_, rfl, rfl, _, rfl, strT rfl ⟨_, rfl, b, rfl, ?_⟩⟩
        cases b with
        | true => exact iteT ⟨_, rfl, k _ _ _ z6 rfl⟩
        | false =>
          refine iteF ?_
          refine ⟨_, rfl, t, _, _, _, rfl, rfl, sq_t (z6.grow.trans z6.sub) ht, rfl, _, rfl, _, rfl, _, rfl, _, rfl, F2, u2, _, _, _, pl, W, day, ring, rfl, z6.sub, hl.up z6.grow, tf.up upTab z6.grow, tr.up upTab z6.grow, wb, hp1 d hsub.2, .inr (.inl ⟨d, hd.up z6.grow, hok.2, hsub.2, ?_⟩)⟩
          cases q2 : trv W d day with
          | error m =>
            simp only [q2] at k
            intro v H3 F3 z7 hv
            obtain ⟨tv, rfl, htv⟩ := hv
            have hv2 := sq_t z7.sub htv
            refine ⟨_, rfl, _, _, _, _, true, rfl, .ty "tuple", tyT hv2, kit_ty kT, _, rfl, iteT ⟨_, rfl, tv, _, rfl, .inr hv2, rfl, _, rfl, inT rfl (iteT ?_)⟩⟩
            exact ⟨_, rfl, k _ _ _ (z6.trans z7) ⟨tv, rfl, htv⟩⟩
          | ok b2 =>
            simp only [q2] at k
            intro v H3 F3 z7 ev
            subst ev
            have z8 := z6.trans z7
            refine ⟨_, rfl, _, _, _, _, false, rfl, .ty "tuple", .base (.bl _), kit_ty kB, _, rfl, iteF (iteF ?_)⟩
            refine ⟨_, rfl, two_ok, fun q9 hq9 => ?_⟩
            have z9 := z8.trans (Fz.raw (o := .lst [.str "and", .str "or"]) z8.sub hq9)
            exact ⟨q9, _, rfl, .inl (SqL.of upd_same), rfl, rfl, _, rfl, inT (by decide +kernel) ⟨_, rfl, k _ _ _ z9 rfl⟩⟩
    | cmp wo x y =>
      obtain ⟨u, u2, ⟨t, rfl, ht⟩, hx, hy⟩ := hc
      have hsub : 1 ≤ h := by simp only [Tr.ht] at hht; omega
      obtain ⟨n0, n1, n2, n3, n4, n5, n6, n7, n8, n9, n10⟩ : wo.str ≠ "percent" ∧ wo.str ≠ "name" ∧ wo.str ≠ "not" ∧ wo.str ≠ "if" ∧ wo.str ≠ "and" ∧ wo.str ≠ "or" ∧ inV (.str wo.str) [.str "number", .str "money"] = false ∧ inV (.str wo.str) [.str "fact", .str "rate"] = false ∧ inV (.str wo.str) [.str "true", .str "false"] = false ∧ inV (.str wo.str) [.str "ever", .str "always", .str "before"] = false ∧ inV (.str wo.str) [.str "and", .str "or"] = false := by cases wo <;> decide +kernel
      refine ⟨_, rfl, t, _, _, _, rfl, rfl, sq_t hs ht, rfl, _, rfl, two_ok, fun q1 hq1 => ?_⟩
      have z1 := Fz.raw (o := .lst [.str "number", .str "money"]) hs hq1
      refine ⟨q1, _, rfl, .inl (SqL.of upd_same), rfl, rfl, _, rfl, inF n6 ?_⟩
      refine ⟨_, rfl, rfl, _, rfl, strF n0 ?_⟩
      refine ⟨_, rfl, two_ok, fun q2 hq2 => ?_⟩
      have z2 := z1.trans (Fz.raw (o := .lst [.str "fact", .str "rate"]) z1.sub hq2)
      refine ⟨q2, _, rfl, .inl (SqL.of upd_same), rfl, rfl, _, rfl, inF n7 ?_⟩
      refine ⟨_, rfl, rfl, _, rfl, strF n1 ?_⟩
      refine ⟨_, rfl, two_ok, fun q3 hq3 => ?_⟩
      have z3 := z2.trans (Fz.raw (o := .lst [.str "true", .str "false"]) z2.sub hq3)
      refine ⟨q3, _, rfl, .inl (SqL.of upd_same), rfl, rfl, _, rfl, inF n8 ?_⟩
      refine ⟨_, rfl, three_ok, fun q4 hq4 => ?_⟩
      have z4 := z3.trans (Fz.raw (o := .lst [.str "ever", .str "always", .str "before"]) z3.sub hq4)
      refine ⟨q4, _, rfl, .inl (SqL.of upd_same), rfl, rfl, _, rfl, inF n9 ?_⟩
      refine ⟨_, rfl, t, _, _, _, rfl, rfl, sq_t (z4.sub) ht, rfl, _, rfl, _, rfl, _, rfl, _, rfl, F, u, _, _, _, pl, W, day, ring, rfl, z4.sub, hl, tf, tr, wb, hsub, .inl ⟨x, hx, hok.1, ?_⟩⟩
      simp only [trv] at k
      cases q : lfv W day x with
      | error m =>
        rw [q] at k
        intro v H2 F2 z5 hv
        obtain ⟨tv, rfl, htv⟩ := hv
        have hv2 := sq_t z5.sub htv
        refine ⟨_, rfl, _, _, _, _, true, rfl, .ty "tuple", tyT hv2, kit_ty kT, _, rfl, iteT ⟨_, rfl, tv, _, rfl, .inr hv2, rfl, _, rfl, inT rfl ?_⟩⟩
        exact ⟨_, rfl, k _ _ _ (z4.trans z5) ⟨tv, rfl, htv⟩⟩
      | ok x1 =>
        rw [q] at k
        intro v H2 F2 z5 hv
        have z6 := z4.trans z5
        have hv0 := hv
        obtain ⟨va, rfl, hva⟩ := hv0
        have hw := sq_t z5.sub hva
        refine ⟨_, rfl, _, _, _, _, true, rfl, .ty "tuple", tyT hw, kit_ty kT, _, rfl, iteT ⟨_, rfl, va, _, rfl, .inr hw, rfl, _, rfl, inF rfl ?_⟩⟩
        refine ⟨_, rfl, rfl, _, rfl, strF n2 ?_⟩
        refine ⟨_, rfl, rfl, _, rfl, strF n3 ?_⟩
        refine ⟨_, rfl, rfl, _, rfl, strF n4 (iteF ?_)⟩
        refine ⟨_, rfl, rfl, _, rfl, strF n5 (iteF ?_)⟩
        refine ⟨_, rfl, t, _, _, _, rfl, rfl, sq_t (z6.grow.trans z6.sub) ht, rfl, _, rfl, _, rfl, _, rfl, _, rfl, F2, u2, _, _, _, pl, W, day, ring, rfl, z6.sub, hl.up z6.grow, tf.up upTab z6.grow, tr.up upTab z6.grow, wb, hsub, .inl ⟨y, hy.up z6.grow, hok.2, ?_⟩⟩
        cases q2 : lfv W day y with
        | error m =>
          simp only [q2] at k
          intro v H3 F3 z7 hv
          obtain ⟨tv, rfl, htv⟩ := hv
          have hv2 := sq_t z7.sub htv
          refine ⟨_, rfl, _, _, _, _, true, rfl, .ty "tuple", tyT hv2, kit_ty kT, _, rfl, iteT ⟨_, rfl, tv, _, rfl, .inr hv2, rfl, _, rfl, inT rfl (iteT ?_)⟩⟩
          exact ⟨_, rfl, k _ _ _ (z6.trans z7) ⟨tv, rfl, htv⟩⟩
        | ok y1 =>
          simp only [q2] at k
          intro v2 H3 F3 z7 hv2
          have z8 := z6.trans z7
          have hv20 := hv2
          obtain ⟨wa, rfl, hwa⟩ := hv20
          have hw2 := sq_t z7.sub hwa
          refine ⟨_, rfl, _, _, _, _, true, rfl, .ty "tuple", tyT hw2, kit_ty kT, _, rfl, iteT ⟨_, rfl, wa, _, rfl, .inr hw2, rfl, _, rfl, inF rfl ?_⟩⟩
          refine ⟨_, rfl, two_ok, fun q9 hq9 => ?_⟩
          have z9 := z8.trans (Fz.raw (o := .lst [.str "and", .str "or"]) z8.sub hq9)
          refine ⟨q9, _, rfl, .inl (SqL.of upd_same), rfl, rfl, _, rfl, inF n10 ?_⟩
          exact ⟨_, rfl, _, rfl, _, rfl, F3, _, _, _, x1, y1, rfl, z9.sub, hv.up z7.grow, hv2, lfv_sm wb (ok_fitL (ring := ring) hok.1) q, lfv_sm wb (ok_fitL (ring := ring) hok.2) q2, .inr ⟨wo, rfl, k _ _ _ z9 rfl⟩⟩
  · -- plain
    cases p with
    | leaf q =>
      exact absurd rfl (hnl q)
    | ite c p q =>
      obtain ⟨u, u1, u2, ⟨t, rfl, ht⟩, hc, h1, h2⟩ := hp
      have hsub : c.ht ≤ h ∧ p.ht ≤ h ∧ q.ht ≤ h := by simp only [Px.ht] at hht; omega
      refine ⟨_, rfl, t, _, _, _, rfl, rfl, sq_t hs ht, rfl, _, rfl, two_ok, fun q1 hq1 => ?_⟩
      have z1 := Fz.raw (o := .lst [.str "number", .str "money"]) hs hq1
      refine ⟨q1, _, rfl, .inl (SqL.of upd_same), rfl, rfl, _, rfl, inF (by decide +kernel) ?_⟩
      refine ⟨_, rfl, rfl, _, rfl, strF (by decide +kernel) ?_⟩
      refine ⟨_, rfl, two_ok, fun q2 hq2 => ?_⟩
      have z2 := z1.trans (Fz.raw (o := .lst [.str "fact", .str "rate"]) z1.sub hq2)
      refine ⟨q2, _, rfl, .inl (SqL.of upd_same), rfl, rfl, _, rfl, inF (by decide +kernel) ?_⟩
      refine ⟨_, rfl, rfl, _, rfl, strF (by decide +kernel) ?_⟩
      refine ⟨_, rfl, two_ok, fun q3 hq3 => ?_⟩
      have z3 := z2.trans (Fz.raw (o := .lst [.str "true", .str "false"]) z2.sub hq3)
      refine ⟨q3, _, rfl, .inl (SqL.of upd_same), rfl, rfl, _, rfl, inF (by decide +kernel) ?_⟩
      refine ⟨_, rfl, three_ok, fun q4 hq4 => ?_⟩
      have z4 := z3.trans (Fz.raw (o := .lst [.str "ever", .str "always", .str "before"]) z3.sub hq4)
      refine ⟨q4, _, rfl, .inl (SqL.of upd_same), rfl, rfl, _, rfl, inF (by decide +kernel) ?_⟩
      refine ⟨_, rfl, t, _, _, _, rfl, rfl, sq_t (z4.sub) ht, rfl, _, rfl, _, rfl, _, rfl, _, rfl, F, u, _, _, _, pl, W, day, ring, rfl, z4.sub, hl, tf, tr, wb, hp1 c hsub.1, .inr (.inl ⟨c, hc, hok.1, hsub.1, ?_⟩)⟩
      simp only [pxv] at hx
      cases q0 : trv W c day with
      | error m => rw [q0] at hx; cases hx
      | ok b =>
        rw [q0] at hx
        intro v H2 F2 z5 ev
        subst ev
        have z6 := z4.trans z5
        have ht6 := sq_t (z6.grow.trans z6.sub) ht
        refine ⟨_, rfl, _, _, _, _, false, rfl, .ty "tuple", .base (.bl _), kit_ty kB, _, rfl, iteF (iteF ?_)⟩
        refine ⟨_, rfl, rfl, _, rfl, strF (by decide +kernel) ?_⟩
        refine ⟨_, rfl, rfl, _, rfl, strT rfl ?_⟩
        cases b with
        | true =>
          exact ⟨_, rfl, _, rfl, _, rfl, .inr ⟨_, rfl, _, _, rfl, rfl, t, _, _, _, rfl, rfl, ht6, rfl, _, rfl, _, rfl, _, rfl, _, rfl, F2, u1, _, _, _, pl, W, day, ring, rfl, z6.sub, hl.up z6.grow, tf.up upTab z6.grow, tr.up upTab z6.grow, wb, hp2 p hsub.2.1, .inr (.inr ⟨p, h1.up z6.grow, hok.2.1, hsub.2.1, of.1, x, hx, fun v H3 F3 z7 hv => k _ _ _ (z6.trans z7) hv⟩)⟩⟩
        | false =>
          exact ⟨_, rfl, _, rfl, _, rfl, .inr ⟨_, rfl, _, _, rfl, rfl, t, _, _, _, rfl, rfl, ht6, rfl, _, rfl, _, rfl, _, rfl, _, rfl, F2, u2, _, _, _, pl, W, day, ring, rfl, z6.sub, hl.up z6.grow, tf.up upTab z6.grow, tr.up upTab z6.grow, wb, hp2 q hsub.2.2, .inr (.inr ⟨q, h2.up z6.grow, hok.2.2, hsub.2.2, of.2, x, hx, fun v H3 F3 z7 hv => k _ _ _ (z6.trans z7) hv⟩)⟩⟩
    | bin wo p q =>
      obtain ⟨u, u2, ⟨t, rfl, ht⟩, h1, h2⟩ := hp
      have hsub : p.ht ≤ h ∧ q.ht ≤ h := by simp only [Px.ht] at hht; omega
      obtain ⟨n0, n1, n2, n3, n4, n5, n6, n7, n8, n9, n10⟩ : wo.str ≠ "percent" ∧ wo.str ≠ "name" ∧ wo.str ≠ "not" ∧ wo.str ≠ "if" ∧ wo.str ≠ "and" ∧ wo.str ≠ "or" ∧ inV (.str wo.str) [.str "number", .str "money"] = false ∧ inV (.str wo.str) [.str "fact", .str "rate"] = false ∧ inV (.str wo.str) [.str "true", .str "false"] = false ∧ inV (.str wo.str) [.str "ever", .str "always", .str "before"] = false ∧ inV (.str wo.str) [.str "and", .str "or"] = false := by cases wo <;> decide +kernel
      simp only [pxv] at hx
      cases e1 : pxv W day p with
      | error m => rw [e1] at hx; cases hx
      | ok x1 =>
      rw [e1] at hx
      cases e2 : pxv W day q with
      | error m => simp only [e2] at hx; cases hx
      | ok y1 =>
      simp only [e2] at hx
      cases hx
      obtain ⟨s1, s2, s3⟩ := of.2.2 x1 y1 e1 e2
      refine ⟨_, rfl, t, _, _, _, rfl, rfl, sq_t hs ht, rfl, _, rfl, two_ok, fun q1 hq1 => ?_⟩
      have z1 := Fz.raw (o := .lst [.str "number", .str "money"]) hs hq1
      refine ⟨q1, _, rfl, .inl (SqL.of upd_same), rfl, rfl, _, rfl, inF n6 ?_⟩
      refine ⟨_, rfl, rfl, _, rfl, strF n0 ?_⟩
      refine ⟨_, rfl, two_ok, fun q2 hq2 => ?_⟩
      have z2 := z1.trans (Fz.raw (o := .lst [.str "fact", .str "rate"]) z1.sub hq2)
      refine ⟨q2, _, rfl, .inl (SqL.of upd_same), rfl, rfl, _, rfl, inF n7 ?_⟩
      refine ⟨_, rfl, rfl, _, rfl, strF n1 ?_⟩
      refine ⟨_, rfl, two_ok, fun q3 hq3 => ?_⟩
      have z3 := z2.trans (Fz.raw (o := .lst [.str "true", .str "false"]) z2.sub hq3)
      refine ⟨q3, _, rfl, .inl (SqL.of upd_same), rfl, rfl, _, rfl, inF n8 ?_⟩
      refine ⟨_, rfl, three_ok, fun q4 hq4 => ?_⟩
      have z4 := z3.trans (Fz.raw (o := .lst [.str "ever", .str "always", .str "before"]) z3.sub hq4)
      refine ⟨q4, _, rfl, .inl (SqL.of upd_same), rfl, rfl, _, rfl, inF n9 ?_⟩
      refine ⟨_, rfl, t, _, _, _, rfl, rfl, sq_t (z4.sub) ht, rfl, _, rfl, _, rfl, _, rfl, _, rfl, F, u, _, _, _, pl, W, day, ring, rfl, z4.sub, hl, tf, tr, wb, hp2 p hsub.1, .inr (.inr ⟨p, h1, hok.1, hsub.1, of.1, x1, e1, ?_⟩)⟩
      intro v H2 F2 z5 hv
      have z6 := z4.trans z5
      have hv0 := hv
      obtain ⟨va, rfl, hva⟩ := hv0
      have hw := sq_t z5.sub hva
      refine ⟨_, rfl, _, _, _, _, true, rfl, .ty "tuple", tyT hw, kit_ty kT, _, rfl, iteT ⟨_, rfl, va, _, rfl, .inr hw, rfl, _, rfl, inF rfl ?_⟩⟩
      refine ⟨_, rfl, rfl, _, rfl, strF n2 ?_⟩
      refine ⟨_, rfl, rfl, _, rfl, strF n3 ?_⟩
      refine ⟨_, rfl, rfl, _, rfl, strF n4 (iteF ?_)⟩
      refine ⟨_, rfl, rfl, _, rfl, strF n5 (iteF ?_)⟩
      refine ⟨_, rfl, t, _, _, _, rfl, rfl, sq_t (z6.grow.trans z6.sub) ht, rfl, _, rfl, _, rfl, _, rfl, _, rfl, F2, u2, _, _, _, pl, W, day, ring, rfl, z6.sub, hl.up z6.grow, tf.up upTab z6.grow, tr.up upTab z6.grow, wb, hp2 q hsub.2, .inr (.inr ⟨q, h2.up z6.grow, hok.2, hsub.2, of.2.1, y1, e2, ?_⟩)⟩
      intro v2 H3 F3 z7 hv2
      have z8 := z6.trans z7
      have hv20 := hv2
      obtain ⟨wa, rfl, hwa⟩ := hv20
      have hw2 := sq_t z7.sub hwa
      refine ⟨_, rfl, _, _, _, _, true, rfl, .ty "tuple", tyT hw2, kit_ty kT, _, rfl, iteT ⟨_, rfl, wa, _, rfl, .inr hw2, rfl, _, rfl, inF rfl ?_⟩⟩
      refine ⟨_, rfl, two_ok, fun q9 hq9 => ?_⟩
      have z9 := z8.trans (Fz.raw (o := .lst [.str "and", .str "or"]) z8.sub hq9)
      refine ⟨q9, _, rfl, .inl (SqL.of upd_same), rfl, rfl, _, rfl, inF n10 ?_⟩
      exact ⟨_, rfl, _, rfl, _, rfl, F3, _, _, _, x1, y1, rfl, z9.sub, hv.up z7.grow, hv2, s1, s2, .inl ⟨wo, rfl, s3, fun v H4 F4 z10 hv => k _ _ _ (z9.trans z10) hv⟩⟩
    | part p =>
      obtain ⟨⟨t, rfl, ht⟩, epl⟩ := hp
      subst epl
      have hsub : p.ht ≤ h := by simp only [Px.ht] at hht; omega
      have hl0 := hl
      obtain ⟨la, vl, rfl, hla, t2, u, rfl, ht2, hu⟩ := hl0
      refine ⟨_, rfl, t, _, _, _, rfl, rfl, sq_t hs ht, rfl, _, rfl, two_ok, fun q1 hq1 => ?_⟩
      have z1 := Fz.raw (o := .lst [.str "number", .str "money"]) hs hq1
      refine ⟨q1, _, rfl, .inl (SqL.of upd_same), rfl, rfl, _, rfl, inF (by decide +kernel) ?_⟩
      refine ⟨_, rfl, rfl, _, rfl, strF (by decide +kernel) ?_⟩
      refine ⟨_, rfl, two_ok, fun q2 hq2 => ?_⟩
      have z2 := z1.trans (Fz.raw (o := .lst [.str "fact", .str "rate"]) z1.sub hq2)
      refine ⟨q2, _, rfl, .inl (SqL.of upd_same), rfl, rfl, _, rfl, inF (by decide +kernel) ?_⟩
      refine ⟨_, rfl, rfl, _, rfl, strT rfl ?_⟩
      have hla2 := z2.same _ _ (hs _ _ hla)
      refine ⟨_, rfl, la, rfl, ⟨_, SqL.of hla2⟩, lc_L (S := N0) (a := la) (xs := [.ref t2]) (fun i acc F' => acc = List.replicate i u) z2.sub (fun _ z => z.elim) hla2 (fun z => z.elim) rfl (by simp) (fun _ => rfl) (fun i acc H' F' v hv z p R R' hR hR' => ?_) (fun D ys H1 F1 hD z3 e1 e2 p1 => ?_)⟩
      · have ev : v = .ref t2 ∧ i = 0 := by
          match i, hv with
          | 0, hv => exact ⟨(Option.some.inj hv).symm, rfl⟩
          | i + 1, hv => simp at hv
        obtain ⟨rfl, rfl⟩ := ev
        have ht2' := sq_t (hs.trans (z2.trans z).same) ht2
        have ht' := sq_t (hs.trans (z2.trans z).same) ht
        refine ⟨_, rfl, t2, _, _, _, rfl, rfl, ht2', rfl, _, rfl, t, _, _, _, rfl, rfl, ht', rfl, rfl, _, rfl, ?_⟩
        refine strT rfl ⟨_, rfl, t2, _, _, _, rfl, rfl, ht2', rfl, hR _ H' F' (Fz.refl z.sub) ?_⟩
        rw [p]; rfl
      · have p1 : ys = [u] := p1
        subst p1
        have z4 := z2.trans z3
        refine ⟨D, _, _, _, rfl, rfl, SqL.of e1, rfl, _, rfl, _, rfl, _, rfl, _, rfl, F1, u, _, _, _, some p, W, day, ring, rfl, z4.sub, LetsIn.up hl z4.grow, tf.up upTab z4.grow, tr.up upTab z4.grow, wb, hp2 p hsub, .inr (.inr ⟨p, hu.up z4.grow, hok, hsub, of, x, hx, fun v H3 F3 z7 hv => k _ _ _ (z4.trans z7) hv⟩)⟩
theorem g_L_value (T : Txt K mg) : ∀ h : Nat, G P w K mg base CX0 (10 + h) "_law_value" p_L_value (spLV K h)
  | 0 => by
    refine G.mk' T.df_L_value T.g_L_value (fun _ _ _ _ _ _ us hl => match us, hl with | [_, _, _, _, _], _ => rfl) fun fd F => ?_
    refine FnOk.mono (j := 9 + 1) ?_ (by omega)
    refine F.ok sc_L_value (fun vs H Q E h => ?_) (fun cdv A outer s H vs Q E hr hh => ?_)
    · obtain ⟨_, _, _, _, _, _, _, _, _, rfl, _⟩ := h
      rfl
    · obtain ⟨_, _, _, _, _, _, _, _, _, _, _, _, _, _, _, h1, _⟩ := hh
      omega
  | h + 1 => lv_succ T (g_L_value T h)
end
end K3
end
section
set_option Elab.async false
set_option linter.all false
set_option maxRecDepth 100000
set_option exponentiation.threshold 100
namespace K3
open PySem PySem.Spec PyProof.Rows L2
/-! ### _law_form -/
structure FSl (g : Fm Str) : Prop where
  f : ∀ n, Sl (g.1 n)
  c : Sl g.2
def OkL (W : Wd Str) (day : Nat) (ring : List Str) : Px Str → Prop
  | .leaf _ => True
  | .ite _ p q => OkL W day ring p ∧ OkL W day ring q
  | .bin w p q => OkL W day ring p ∧ OkL W day ring q ∧ ∀ f g, fm W day ring p = some f → fm W day ring q = some g → FSm f ∧ FSm g ∧ ∀ h, comb ring w f g = some h → FSl h
  | .part p => OkL W day ring p
theorem OkL.okF {W : Wd Str} {day : Nat} {ring : List Str} : ∀ {p : Px Str}, OkL W day ring p → OkF W day ring p
  | .leaf _, _ => trivial
  | .ite _ _ _, h => ⟨OkL.okF h.1, OkL.okF h.2⟩
  | .bin _ _ _, h => ⟨OkL.okF h.1, OkL.okF h.2.1, fun f g e1 e2 => ⟨(h.2.2 f g e1 e2).1, (h.2.2 f g e1 e2).2.1⟩⟩
  | .part p, h => OkL.okF (p := p) h
open Classical in
/-- h at the names seen so far, nothing elsewhere -/
noncomputable def upto (p : Str → Prop) (h : Str → Rat) : Str → Rat := fun n => if p n then h n else 0
section
variable {P : Program} {w : World} {K : PySem.W.Frag} {mg : Str → Option Value} {base : Heap}
theorem upto_all {p : Str → Prop} {h : Str → Rat} (e : ∀ n, ¬ p n → h n = 0) : upto p h = h := by
  funext n
  unfold upto
  by_cases q : p n
  · rw [if_pos q]
  · rw [if_neg q, e n q]
theorem upto_ne {p p' : Str → Prop} {h : Str → Rat} {n m : Str} (hp : ∀ m, p' m ↔ p m ∨ m = n) (hm : m ≠ n) : upto p' h m = upto p h m := by
  unfold upto
  by_cases q : p m
  · rw [if_pos q, if_pos ((hp m).2 (.inl q))]
  · rw [if_neg q, if_neg fun z => ((hp m).1 z).elim q hm]
theorem upto_at {p p' : Str → Prop} {h : Str → Rat} {n : Str} (hp : ∀ m, p' m ↔ p m ∨ m = n) : upto p' h n = h n := by
  unfold upto
  rw [if_pos ((hp n).2 (.inr rfl))]
theorem co_skip {ring : List Str} {F : Hp} {kvs : KVs} {N : Nat} {p p' : Str → Prop} {h : Str → Rat} {n : Str} (hK : DcK (pCo K ring (upto p h)) F kvs N) (hp : ∀ m, p' m ↔ p m ∨ m = n) (h0 : h n = 0) : DcK (pCo K ring (upto p' h)) F kvs N := by
  have e : upto p' h = upto p h := by
    funext m
    by_cases q : m = n
    · subst q
      rw [upto_at hp, h0]
      unfold upto
      by_cases z : p m
      · rw [if_pos z, h0]
      · rw [if_neg z]
    · exact upto_ne hp q
  rw [e]; exact hK
theorem co_put' {ring : List Str} {F : Hp} {kvs : KVs} {p p' : Str → Prop} {h : Str → Rat} {n : Str} {u : V} (hK : DcK (pCo K ring (upto p h)) F kvs ring.length) (hp : ∀ m, p' m ↔ p m ∨ m = n) (hn : n ∈ ring) (h0 : h n ≠ 0) (hu : IsF K F u (h n)) :
    DcK (pCo K ring (upto p' h)) F (putK kvs (Sum.inr n) u) ring.length :=
  co_put hK hn (by rw [upto_at hp]; exact hu) (by rw [upto_at hp]; exact h0) fun m hm => upto_ne hp hm
theorem co_start {ring : List Str} {F : Hp} {p : Str → Prop} {h : Str → Rat} (e : ∀ n, ¬ p n) : DcK (pCo K ring (upto p h)) F [] ring.length := by
  refine ⟨DOk.nil, fun n => ?_⟩
  show upto p h n = 0
  unfold upto
  rw [if_neg (e n)]
theorem co_out {ring : List Str} {f : Str → Rat} {F : Hp} {kvs : KVs} {N : Nat} (h : DcK (pCo K ring f) F kvs N) {n : Str} (hn : n ∉ ring) : f n = 0 := by
  cases z : valV kvs (Sum.inr n : Key) with
  | none => exact co_none h z
  | some v =>
    obtain ⟨m, e, h1, _⟩ := co_key h z
    cases e
    exact absurd h1 hn
theorem lco_get {ring : List Str} {f : Str → Rat} {F : Hp} {kvs : KVs} {N : Nat} (hK : DcK (pCo K ring f) F kvs N) {q : Addr} (hq : F q = none) (n : Str) : IsF K (upd F q (.tup [.int 0, .int 1])) ((valV kvs (Sum.inr n : Key)).getD (.ref q)) (f n) := by
  have h := hK.2 n
  cases z : valV kvs (Sum.inr n : Key) with
  | none => rw [z] at h; have h : f n = 0 := h; rw [h]; exact ⟨q, rfl, .inl (.inl upd_same)⟩
  | some u => rw [z] at h; exact h.2.2.up (same_upd hq)
theorem binV_comb {ring : List Str} {wo : BinW} (h : wo = .add ∨ wo = .subtract) (f g : Fm Str) : comb ring wo f g = some (fun x => binV wo (f.1 x) (g.1 x), binV wo f.2 g.2) := by
  rcases h with rfl | rfl <;> rfl
theorem mem_take_succ {ring : List Str} {i : Nat} {n : Str} (e : ring[i]? = some n) (m : Str) : m ∈ ring.take (i + 1) ↔ m ∈ ring.take i ∨ m = n := by
  rw [List.take_add_one, e, List.mem_append]
  simp
theorem mem_keys_succ {kvs : KVs} {i : Nat} {n : Str} {v : V} (e : kvs[i]? = some (Sum.inr n, v)) (m : Str) : (Sum.inr m : Key) ∈ (kvs.take (i + 1)).map (·.1) ↔ (Sum.inr m : Key) ∈ (kvs.take i).map (·.1) ∨ m = n := by
  rw [List.take_add_one, e, List.map_append, List.mem_append]
  refine or_congr Iff.rfl ⟨fun h => ?_, fun h => ?_⟩
  · simp at h; exact h
  · rw [h]; exact List.mem_cons_self
def LmF (K : PySem.W.Frag) (ring : List Str) (F : Hp) (v : V) (g : Fm Str) : Prop := ∃ a d c, v = .ref a ∧ F a = some (.lst [d, c]) ∧ CoF K ring g.1 F d ∧ IsF K F c g.2
theorem LmF.up {ring : List Str} {F F' : Hp} {v : V} {g : Fm Str} (h : LmF K ring F v g) (e : Same F F') : LmF K ring F' v g := let ⟨a, d, c, e1, e2, e3, e4⟩ := h; ⟨a, d, c, e1, e _ _ e2, e3.up upCo e, e4.up e⟩
def OlF (K : PySem.W.Frag) (ring : List Str) (F : Hp) (v : V) : Option (Fm Str) → Prop
  | some g => LmF K ring F v g
  | none => v = .non
def spLF (K : PySem.W.Frag) (h : Nat) : Sp := fun vs H Q _ => ∃ (F : Hp) (a l f r rg : V) (pl : Option (Px Str)) (W : Wd Str) (day : Nat) (ring : List Str) (p : Px Str), vs = [a, l, .int (day : Nat), f, r, rg] ∧ Same F H ∧ LetsIn K F l pl ∧ TabF K 100 W.facts F f ∧ TabF K 100 W.rates F r ∧ IsL RS F rg ring ∧ ring.Nodup ∧ ring.length ≤ 50 ∧
  WB W day ∧ PxIn K F pl a p ∧ p.Ok ring FT ∧ p.ht ≤ h ∧ h ≤ 6 ∧ OkL W day ring p ∧ Ret N0 H F (fun v F' => OlF K ring F' v (fm W day ring p)) Q
theorem lf_succ (T : Txt K mg) {h : Nat} (ih : G P w K mg base CX0 (20 + h) "_law_form" p_L_form (spLF K h)) : G P w K mg base CX0 (20 + (h + 1)) "_law_form" p_L_form (spLF K (h + 1)) := by
  refine G.mk' T.df_L_form T.g_L_form (fun _ _ _ _ _ _ us hl => match us, hl with | [_, _, _, _, _, _], _ => rfl) fun fd F => ?_
  refine FnOk.mono (j := 20 + h + 1) ?_ (by omega)
  refine F.ok sc_L_form (fun vs H Q E h => ?_) (fun cdv A outer s H vs Q E hr hh => ?_)
  · obtain ⟨_, _, _, _, _, _, _, _, _, _, _, rfl, _⟩ := h
    rfl
  obtain ⟨F, a, l, f, r, _, pl, W, day, ring, p, rfl, hs, hl, tf, tr, hrg, hnd, hrn, wb, hp, hok, hht, h6, of, k⟩ := hh
  have hrg0 := hrg
  obtain ⟨ga, vg, rfl, hga, pg⟩ := hrg0
  have evg : vg = ring.map V.str := paired_eq pg
  subst evg
  have five : 5 ≤ sizeLine := by decide
  have kB : kitB "bool" "tuple" = some false := by decide +kernel
  have kT : kitB "tuple" "tuple" = some true := by decide +kernel
  refine ⟨_, PSs.nox (pss_cons (ps_set (i := 6) sc_L_form.nd rfl (.inl rfl) (pe_ix ix_tup (pv 0) pe_int (fun _ _ => rfl)))
  (pss_cons (ps_if (PW.pt (pw_and (pt_cmpR op_eq (pv 6) pe_str (nomark _)) (pw_and1 (pt_cmpR op_in_seq (pe_ix ix_tup (pv 0) pe_int (fun _ _ => rfl)) (pv 5) (by rfl))))) (pss_one (ps_ret (pe_lst (pa_cons (pe_frz (pe_disp (pps_cons (pe_ix ix_tup (pv 0) pe_int (fun _ _ => rfl)) (pe_tup (pa_cons pe_int (pa_cons pe_int pa_nil))) pps_nil) (by rfl) (by rfl) (fun z => by cases z) (by decide))) (pa_cons (pe_tup (pa_cons pe_int (pa_cons pe_int pa_nil))) pa_nil))))) pss_nil)
  (pss_cons (ps_if (pt_cmpR op_eq (pv 6) pe_str (nomark _)) (pss_cons (ps_set (i := 7) sc_L_form.nd rfl (.inl rfl) (pe_ix ix_list (pe_lc (own := [("_law_row", 17)]) (g := gName 17) rfl sc_L_form.nd (pi_list (pv 1)) (blkOk_by (own := [("_law_row", 17)]) (N := n_L_form) (sc := defScope s_L_form) (by decide +kernel)) (fun _ _ _ _ _ => (pg_name (i := 17) sc_L_form.nd rfl (Or.inl rfl))) (fun _ _ _ _ _ => (pts_one (pt_cmpR op_eq (pe_ix (ix_tupK (K := K) rfl) (pv 17) pe_int (fun _ _ => rfl)) (pe_ix (ix_tupK (K := K) rfl) (pv 0) pe_int (fun _ _ => rfl)) (nomark _)))) (fun _ _ _ _ _ => (pe_ix (ix_tupK (K := K) rfl) (pv 17) pe_int (fun _ _ => rfl)))) pe_int (fun _ _ => rfl)))
  (pss_one (ps_ret (pe_g ih (hr.mono (by omega)) (by rfl) pass0 (pa_cons (pv 7) (pa_cons (pv 1) (pa_cons (pv 2) (pa_cons (pv 3) (pa_cons (pv 4) (pa_cons (pv 5) pa_nil)))))))))) pss_nil)
  (pss_cons (ps_if (pt_cmpR op_eq (pv 6) pe_str (nomark _)) (pss_cons (ps_set (i := 8) sc_L_form.nd rfl (.inl rfl) (pe_g (g_L_value T 7) (hr.mono (by omega)) (by rfl) pass0 (pa_cons (pe_ix ix_tup (pv 0) pe_int (fun _ _ => rfl)) (pa_cons (pv 1) (pa_cons (pv 2) (pa_cons (pv 3) (pa_cons (pv 4) pa_nil)))))))
  (pss_cons (ps_if (pt_val (pe_callB call_isi (by rfl) T.f_isinstance (by decide +kernel) (pa_cons (pv 8) (pa_cons (pe_bltn (v := .ty "tuple") (by rfl) T.f_tuple (by decide +kernel) rfl) pa_nil)))) (pss_one (ps_ret pe_non)) pss_nil)
  (pss_one (ps_ret (pe_g ih (hr.mono (by omega)) (by rfl) pass0 (pa_cons (pe_ix ix_tup (pv 0) (pe_op op_add pe_int (pe_callTy call_int1 (by rfl) T.f_int (by decide +kernel) (pa_cons (pe_not (pv 8)) pa_nil))) (fun _ _ => rfl)) (pa_cons (pv 1) (pa_cons (pv 2) (pa_cons (pv 3) (pa_cons (pv 4) (pa_cons (pv 5) pa_nil))))))))))) pss_nil)
  (pss_cons (ps_if (pt_cmpR op_notIn_seq (pv 6) (pe_lst (pa_cons pe_str (pa_cons pe_str (pa_cons pe_str (pa_cons pe_str (pa_cons pe_str pa_nil)))))) (by rfl)) (pss_one (ps_ret (pe_lst (pa_cons (pe_frz pe_dnewK) (pa_cons (pe_g (g_L_value T 7) (hr.mono (by omega)) (by rfl) pass0 (pa_cons (pv 0) (pa_cons (pv 1) (pa_cons (pv 2) (pa_cons (pv 3) (pa_cons (pv 4) pa_nil)))))) pa_nil))))) pss_nil)
  (pss_cons (ps_set (i := 9) sc_L_form.nd rfl (.inl rfl) (pe_g ih (hr.mono (by omega)) (by rfl) pass0 (pa_cons (pe_ix ix_tup (pv 0) pe_int (fun _ _ => rfl)) (pa_cons (pv 1) (pa_cons (pv 2) (pa_cons (pv 3) (pa_cons (pv 4) (pa_cons (pv 5) pa_nil))))))))
  (pss_cons (ps_set (i := 10) sc_L_form.nd rfl (.inl rfl) pe_non)
  (pss_cons (ps_if (pt_cmpR op_notN (pv 9) pe_non (nomark _)) (pss_one (ps_set (i := 10) sc_L_form.nd rfl (.inl rfl) (pe_g ih (hr.mono (by omega)) (by rfl) pass0 (pa_cons (pe_ix ix_tup (pv 0) pe_int (fun _ _ => rfl)) (pa_cons (pv 1) (pa_cons (pv 2) (pa_cons (pv 3) (pa_cons (pv 4) (pa_cons (pv 5) pa_nil))))))))) pss_nil)
  (pss_cons (ps_if (pt_cmpR op_isN (pv 10) pe_non (nomark _)) (pss_one (ps_ret pe_non)) pss_nil)
  (pss_cons (ps_if (pt_cmpR op_in_seq (pv 6) (pe_lst (pa_cons pe_str (pa_cons pe_str pa_nil))) (by rfl)) (pss_cons (ps_set (i := 11) sc_L_form.nd rfl (.inl rfl) pe_dnewK)
  (pss_cons (ps_for PassesOwn.never rfl (pi_list (pv 5)) (pg_name (i := 12) sc_L_form.nd rfl (Or.inl rfl))
    (pss_cons (ps_set (i := 13) sc_L_form.nd rfl (.inl rfl) (pe_dget2 (hu_of hr) (pe_ix ix_list (pv 9) pe_int (fun _ _ => rfl)) (pv 12) (pe_tup (pa_cons pe_int (pa_cons pe_int pa_nil))) ⟨rfl, rfl, rfl, rfl⟩))
  (pss_cons (ps_set (i := 14) sc_L_form.nd rfl (.inl rfl) (pe_g (g_L_joined T) (hr.mono (by omega)) (by rfl) pass0 (pa_cons (pv 6) (pa_cons (pv 13) (pa_cons (pe_dget2 (hu_of hr) (pe_ix ix_list (pv 10) pe_int (fun _ _ => rfl)) (pv 12) (pe_tup (pa_cons pe_int (pa_cons pe_int pa_nil))) ⟨rfl, rfl, rfl, rfl⟩) pa_nil)))))
  (pss_one (ps_if (pt_cmpR op_ne (pe_ix ix_tup (pv 14) pe_int (fun _ _ => rfl)) pe_int (nomark _)) (pss_one (ps_dput (hu_of hr) (pv 11) (pv 12) (pv 14) rfl)) pss_nil)))))
  (pss_one (ps_ret (pe_lst (pa_cons (pe_frz (pv 11)) (pa_cons (pe_g (g_L_joined T) (hr.mono (by omega)) (by rfl) pass0 (pa_cons (pv 6) (pa_cons (pe_ix ix_list (pv 9) pe_int (fun _ _ => rfl)) (pa_cons (pe_ix ix_list (pv 10) pe_int (fun _ _ => rfl)) pa_nil)))) pa_nil))))))) pss_nil)
  (pss_cons (ps_if (pt_cmpR op_in_seq (pv 6) (pe_lst (pa_cons pe_str (pa_cons pe_str pa_nil))) (by rfl)) (pss_cons (ps_if (PW.pt (pw_or (pt_cmpR op_gt (pe_callB call_lenR (by rfl) T.f_len (by decide +kernel) (pa_cons (pe_ix ix_list (pv 9) pe_int (fun _ _ => rfl)) pa_nil)) pe_int (nomark _)) (pw_or1 (pt_cmpR op_gt (pe_callB call_lenR (by rfl) T.f_len (by decide +kernel) (pa_cons (pe_ix ix_list (pv 10) pe_int (fun _ _ => rfl)) pa_nil)) pe_int (nomark _))))) (pss_one (ps_ret pe_non)) pss_nil)
  (pss_one (ps_ret (pe_lst (pa_cons (pe_frz pe_dnewK) (pa_cons (pe_g (g_L_joined T) (hr.mono (by omega)) (by rfl) pass0 (pa_cons (pv 6) (pa_cons (pe_ix ix_list (pv 9) pe_int (fun _ _ => rfl)) (pa_cons (pe_ix ix_list (pv 10) pe_int (fun _ _ => rfl)) pa_nil)))) pa_nil)))))) pss_nil)
  (pss_cut (ps_if (PW.pt (pw_and (pt_cmpR op_gt (pe_callB call_lenR (by rfl) T.f_len (by decide +kernel) (pa_cons (pe_ix ix_list (pv 9) pe_int (fun _ _ => rfl)) pa_nil)) pe_int (nomark _)) (pw_and1 (pt_cmpR op_gt (pe_callB call_lenR (by rfl) T.f_len (by decide +kernel) (pa_cons (pe_ix ix_list (pv 10) pe_int (fun _ _ => rfl)) pa_nil)) pe_int (nomark _))))) (pss_one (ps_ret pe_non)) pss_nil)
  (pss_cons (ps_set (i := 15) sc_L_form.nd rfl (.inl rfl) (pe_ix ix_list (pv 9) pe_int (fun _ _ => rfl)))
  (pss_cons (ps_set (i := 16) sc_L_form.nd rfl (.inl rfl) (pv 10))
  (pss_cut (ps_if (pt_cmpR op_gt (pe_callB call_lenR (by rfl) T.f_len (by decide +kernel) (pa_cons (pe_ix ix_list (pv 9) pe_int (fun _ _ => rfl)) pa_nil)) pe_int (nomark _)) (pss_cons (ps_set (i := 15) sc_L_form.nd rfl (.inl rfl) (pe_ix ix_list (pv 10) pe_int (fun _ _ => rfl)))
  (pss_one (ps_set (i := 16) sc_L_form.nd rfl (.inl rfl) (pv 9)))) pss_nil)
  (pss_cons (ps_set (i := 11) sc_L_form.nd rfl (.inl rfl) pe_dnewK)
  (pss_cons (ps_for PassesOwn.never rfl (pi_keys (pe_ix ix_list (pv 16) pe_int (fun _ _ => rfl))) (pg_name (i := 12) sc_L_form.nd rfl (Or.inl rfl))
    (pss_one (ps_if (pt_cmpR op_ne (pe_ix ix_tup (pv 15) pe_int (fun _ _ => rfl)) pe_int (nomark _)) (pss_one (ps_dput (hu_of hr) (pv 11) (pv 12) (pe_g (g_L_times T) (hr.mono (by omega)) (by rfl) pass0 (pa_cons (pe_dget (hu_of hr) (pe_ix ix_list (pv 16) pe_int (fun _ _ => rfl)) (pv 12) (fun _ _ => rfl)) (pa_cons (pv 15) pa_nil))) rfl)) pss_nil)))
  (pss_one (ps_ret (pe_lst (pa_cons (pe_frz (pv 11)) (pa_cons (pe_g (g_L_times T) (hr.mono (by omega)) (by rfl) pass0 (pa_cons (pe_ix ix_list (pv 16) pe_int (fun _ _ => rfl)) (pa_cons (pv 15) pa_nil))) pa_nil)))))))))))))))))))))), ?_⟩
  have go : ∀ {H2 F2 : Hp} {g : Fm Str} {c : V} {D q : Addr}, fm W day ring p = some g → Fz N0 H F H2 F2 → CoF K ring g.1 F2 (.ref D) → IsF K F2 c g.2 → H2 q = none → Q (.ref q) (upd H2 q (.lst [.ref D, c])) := by
    intro H2 F2 g c D q e z h1 h2 hq
    rw [e] at k
    have z2 := Fz.nw (o := .lst [.ref D, c]) z.sub hq
    exact k _ _ _ (z.trans z2) ⟨q, _, _, rfl, upd_same, h1.up upCo z2.grow, h2.up z2.grow⟩
  have nogo : ∀ {H2 F2 : Hp}, fm W day ring p = none → Fz N0 H F H2 F2 → Q .non H2 := by
    intro H2 F2 e z
    rw [e] at k
    exact k _ _ _ z rfl
  cases p with
  | leaf q =>
    by_cases hrate : ∃ n, q = .rate n
    · obtain ⟨n, rfl⟩ := hrate
      obtain ⟨t, rfl, ht⟩ := hp
      have hn : n ∈ ring := hok
      refine ⟨_, rfl, t, _, _, _, rfl, rfl, sq_t hs ht, rfl, _, rfl, rfl, _, rfl, strT rfl ⟨_, rfl, t, _, _, _, rfl, rfl, sq_t hs ht, rfl, _, rfl, ga, _, rfl, .inl (SqL.of (hs _ _ hga)), rfl, flat_str ring, _, rfl, inT (by rw [inV_str]; exact decide_eq_true hn) ?_⟩⟩
      refine fun p hp => ⟨_, rfl, t, _, _, _, rfl, rfl, sq_t (Fz.raw hs hp).sub ht, rfl, two_ok, fun p2 hp2 => ?_⟩
      have fp := hs.free hp
      have z0 := Fz.raw (o := .dK []) hs hp
      have z1 := z0.trans (Fz.nw (o := .tup [.int 1, .int 1]) z0.sub hp2)
      have np : p ≠ p2 := ne_of_none upd_same hp2
      have ep := (Fz.nw (o := .tup [.int 1, .int 1]) z0.sub hp2).same _ _ (upd_same (H := H) (a := p) (o := .dK []))
      refine ⟨ep, [(Sum.inr n, .ref p2)], rfl, by simp, p, _, upd_same, True.intro, fun od => ⟨two_ok, fun p3 hp3 => ⟨two_ok, fun q hq => ?_⟩⟩⟩
      have i1 : IsF K (upd F p2 (.tup [.int 1, .int 1])) (.ref p2) 1 := ⟨p2, rfl, .inl (.inl upd_same)⟩
      have fp1 : upd F p2 (.tup [.int 1, .int 1]) p = none := by rw [upd_ne np]; exact fp
      have z2 := (z1.set (o := .dK (mergeK [] [(Sum.inr n, .ref p2)])) (.inl hp) fp1).frz (o := .frz od (.dK (mergeK [] [(Sum.inr n, .ref p2)]))) hp fp1
      have z3 := Fz.nw (o := .tup [.int 0, .int 1]) z2.sub hp3
      have i0 : IsF K _ (.ref p3) 0 := ⟨p3, rfl, .inl (.inl (upd_same (H := upd (upd F p2 (.tup [.int 1, .int 1])) p (.frz od (.dK (mergeK [] [(Sum.inr n, .ref p2)])))) (a := p3) (o := .tup [.int 0, .int 1])))⟩
      exact go (g := (fun x => if x = n then 1 else 0, 0)) rfl (z2.trans z3) (Dc.up upCo (co_one hn i1 fp1 (by decide)) z3.grow) i0 hq
    · obtain ⟨t, ws, u, rfl, ht, w1, w2, w3, w4, x, hx, hfm⟩ : ∃ (t : Addr) (ws : Str) (u : V), a = .ref t ∧ SqT K F t [.str ws, u] ∧ ws ≠ "rate" ∧ ws ≠ "name" ∧ ws ≠ "if" ∧ (!inV (.str ws) [.str "add", .str "subtract", .str "multiply", .str "min", .str "max"]) = true ∧ ∃ x, lfv W day q = .ok x ∧ fm W day ring (.leaf q) = some (fun _ => 0, x) := by
        cases q with
        | pct x => obtain ⟨u, ⟨t, rfl, ht⟩, _⟩ := hp; exact ⟨t, _, u, rfl, ht, by decide +kernel, by decide +kernel, by decide +kernel, by decide +kernel, _, rfl, rfl⟩
        | num x => obtain ⟨u, ⟨t, rfl, ht⟩, _⟩ := hp; exact ⟨t, _, u, rfl, ht, by decide +kernel, by decide +kernel, by decide +kernel, by decide +kernel, _, rfl, rfl⟩
        | fact n =>
          obtain ⟨t, rfl, ht⟩ := hp
          have hl := wb.lo n (ok_fitL (ring := ring) hok)
          have e : lfv W day (.fact n) = .ok ((W.facts n)[day]'hl) := by simp only [lfv]; rw [List.getElem?_eq_getElem hl]
          exact ⟨t, _, _, rfl, ht, by decide +kernel, by decide +kernel, by decide +kernel, by decide +kernel, _, e, by simp only [fm, e]⟩
        | rate n => exact absurd ⟨n, rfl⟩ hrate
      refine ⟨_, rfl, t, _, _, _, rfl, rfl, sq_t hs ht, rfl, _, rfl, rfl, _, rfl, strF w1 (iteF ⟨_, rfl, rfl, _, rfl, strF w2 ⟨_, rfl, rfl, _, rfl, strF w3 ⟨_, rfl, five, fun p1 hp1 => ⟨p1, _, rfl, .inl (SqL.of upd_same), rfl, rfl, _, rfl, inT w4 ?_⟩⟩⟩⟩)⟩
      have z1 := Fz.raw (o := .lst [.str "add", .str "subtract", .str "multiply", .str "min", .str "max"]) hs hp1
      refine fun p hp2 => ⟨p, _, upd_same, True.intro, fun od => ?_⟩
      have z2 := z1.trans (fz_dict (S := N0) (o := .dK []) (u := .frz od (.dK [])) z1.sub hp2)
      refine ⟨_, rfl, _, rfl, _, rfl, _, rfl, _, rfl, _, _, _, _, _, pl, W, day, ring, rfl, z2.sub, hl.up z2.grow, tf.up upTab z2.grow, tr.up upTab z2.grow, wb, by decide, .inl ⟨q, LfIn.up (show LfIn K F _ q from hp) z2.grow, hok, ?_⟩⟩
      rw [hx]
      intro v H2 F2 z3 hv
      refine ⟨two_ok, fun q hq => ?_⟩
      exact go hfm (z2.trans z3) (Dc.up upCo co_nil z3.grow) hv hq
  | ite c p q =>
    obtain ⟨u0, u1, u2, ⟨t, rfl, ht⟩, hc, hp1, hp2⟩ := hp
    have hsub : c.ht ≤ 6 ∧ p.ht ≤ h ∧ q.ht ≤ h := by simp only [Px.ht] at hht; omega
    refine ⟨_, rfl, t, _, _, _, rfl, rfl, sq_t hs ht, rfl, _, rfl, rfl, _, rfl, strF (by decide +kernel) (iteF ⟨_, rfl, rfl, _, rfl, strF (by decide +kernel) ⟨_, rfl, rfl, _, rfl, strT rfl ?_⟩⟩)⟩
    refine ⟨_, rfl, t, _, _, _, rfl, rfl, sq_t hs ht, rfl, _, rfl, _, rfl, _, rfl, _, rfl, F, _, _, _, _, pl, W, day, ring, rfl, hs, hl, tf, tr, wb, by decide, .inr (.inl ⟨c, hc, hok.1, by omega, ?_⟩)⟩
    cases q0 : trv W c day with
    | error m =>
      intro v H2 F2 z hv
      obtain ⟨tv, rfl, htv⟩ := hv
      have hv2 := sq_t z.sub htv
      exact ⟨_, rfl, _, _, _, _, true, rfl, .ty "tuple", tyT hv2, kit_ty kT, _, rfl, iteT (nogo (by simp only [fm, q0]) z)⟩
    | ok b =>
      intro v H2 F2 z ev
      subst ev
      have ht2 := sq_t (z.grow.trans z.sub) ht
      refine ⟨_, rfl, _, _, _, _, false, rfl, .ty "tuple", .base (.bl _), kit_ty kB, _, rfl, iteF ?_⟩
      cases b with
      | true =>
        have e : fm W day ring (.ite c p q) = fm W day ring p := by simp only [fm, q0]
        rw [e] at k
        exact ⟨_, rfl, _, rfl, _, rfl, .inr ⟨_, rfl, _, _, rfl, rfl, t, _, _, _, rfl, rfl, ht2, rfl, _, rfl, _, rfl, _, rfl, _, rfl, _, rfl, F2, _, _, _, _, _, pl, W, day, ring, p, rfl, z.sub, hl.up z.grow, tf.up upTab z.grow, tr.up upTab z.grow, IsL.up upS _ _ _ _ z.grow hrg, hnd, hrn, wb, hp1.up z.grow, hok.2.1, hsub.2.1, by omega, of.1, fun v H3 F3 z3 hv => k _ _ _ (z.trans z3) hv⟩⟩
      | false =>
        have e : fm W day ring (.ite c p q) = fm W day ring q := by simp only [fm, q0]
        rw [e] at k
        exact ⟨_, rfl, _, rfl, _, rfl, .inr ⟨_, rfl, _, _, rfl, rfl, t, _, _, _, rfl, rfl, ht2, rfl, _, rfl, _, rfl, _, rfl, _, rfl, _, rfl, F2, _, _, _, _, _, pl, W, day, ring, q, rfl, z.sub, hl.up z.grow, tf.up upTab z.grow, tr.up upTab z.grow, IsL.up upS _ _ _ _ z.grow hrg, hnd, hrn, wb, hp2.up z.grow, hok.2.2, hsub.2.2, by omega, of.2, fun v H3 F3 z3 hv => k _ _ _ (z.trans z3) hv⟩⟩
  | bin wo p q =>
    obtain ⟨u1, u2, ⟨t, rfl, ht⟩, hp1, hp2⟩ := hp
    have hsub : p.ht ≤ h ∧ q.ht ≤ h := by simp only [Px.ht] at hht; omega
    obtain ⟨w1, w2, w3, w4⟩ : wo.str ≠ "rate" ∧ wo.str ≠ "name" ∧ wo.str ≠ "if" ∧ (!inV (.str wo.str) [.str "add", .str "subtract", .str "multiply", .str "min", .str "max"]) = false := by cases wo <;> decide +kernel
    refine ⟨_, rfl, t, _, _, _, rfl, rfl, sq_t hs ht, rfl, _, rfl, rfl, _, rfl, strF w1 (iteF ⟨_, rfl, rfl, _, rfl, strF w2 ⟨_, rfl, rfl, _, rfl, strF w3 ⟨_, rfl, five, fun pz hpz => ⟨pz, _, rfl, .inl (SqL.of upd_same), rfl, rfl, _, rfl, inF w4 ?_⟩⟩⟩⟩)⟩
    have z1 := Fz.raw (o := .lst [.str "add", .str "subtract", .str "multiply", .str "min", .str "max"]) hs hpz
    refine ⟨_, rfl, t, _, _, _, rfl, rfl, sq_t z1.sub ht, rfl, _, rfl, _, rfl, _, rfl, _, rfl, _, rfl, F, _, _, _, _, _, pl, W, day, ring, p, rfl, z1.sub, hl, tf, tr, hrg, hnd, hrn, wb, hp1, hok.1, hsub.1, by omega, of.1, fun v H2 F2 z2 hv => ?_⟩
    have z02 := z1.trans z2
    cases qp : fm W day ring p with
    | none =>
      rw [qp] at hv
      have hv : v = .non := hv
      subst hv
      refine ⟨_, rfl, rfl, _, rfl, inF rfl ⟨_, rfl, rfl, _, rfl, inT rfl ?_⟩⟩
      exact nogo (by simp only [fm, qp]) z02
    | some g1 =>
    rw [qp] at hv
    have hv' := hv
    obtain ⟨a1, _, _, rfl, _⟩ := hv'
    refine ⟨_, rfl, rfl, _, rfl, inT rfl ?_⟩
    refine ⟨_, rfl, t, _, _, _, rfl, rfl, sq_t (z02.grow.trans z02.sub) ht, rfl, _, rfl, _, rfl, _, rfl, _, rfl, _, rfl, F2, _, _, _, _, _, pl, W, day, ring, q, rfl, z02.sub, hl.up z02.grow, tf.up upTab z02.grow, tr.up upTab z02.grow, IsL.up upS _ _ _ _ z02.grow hrg, hnd, hrn, wb, hp2.up z02.grow, hok.2, hsub.2, by omega, of.2.1, fun v2 H3 F3 z3 hv2 => ?_⟩
    have z03 := z02.trans z3
    cases qq : fm W day ring q with
    | none =>
      rw [qq] at hv2
      have hv2 : v2 = .non := hv2
      subst hv2
      refine ⟨_, rfl, rfl, _, rfl, inT rfl ?_⟩
      exact nogo (by simp only [fm, qp, qq]) z03
    | some g2 =>
    rw [qq] at hv2
    obtain ⟨s1, s2, s3⟩ := of.2.2 g1 g2 qp qq
    have efm : fm W day ring (.bin wo p q) = comb ring wo g1 g2 := by simp only [fm, qp, qq]
    have hv1 := hv.up z3.grow
    obtain ⟨_, _, c1, ea1, ha1, ⟨d1, o1, k1, rfl, hd1, hK1⟩, hc1⟩ := hv1
    cases ea1
    obtain ⟨a2, _, c2, rfl, ha2, ⟨d2, o2, k2, rfl, hd2, hK2⟩, hc2⟩ := hv2
    have em1 := co_empty (c := g1.2) hK1
    have em2 := co_empty (c := g2.2) hK2
    refine ⟨_, rfl, rfl, _, rfl, inF rfl ?_⟩
    refine ⟨_, rfl, two_ok, fun p5 hp5 => ?_⟩
    have z5 := z03.trans (Fz.raw (o := .lst [.str "add", .str "subtract"]) z03.sub hp5)
    by_cases was : wo = .add ∨ wo = .subtract
    · have hin : inV (.str wo.str) [.str "add", .str "subtract"] = true := by rcases was with rfl | rfl <;> decide +kernel
      refine ⟨p5, _, rfl, .inl (SqL.of upd_same), rfl, rfl, _, rfl, inT hin ?_⟩
      have ec := binV_comb (ring := ring) was g1 g2
      have hsl := s3 _ ec
      refine fun D hD => ?_
      have z6 := z5.trans (Fz.raw (o := .dK []) z5.sub hD)
      have hDH : H D = none := z5.same.free hD
      have hga6 := z6.sub _ _ (z6.grow _ _ hga)
      refine ⟨_, rfl, ga, rfl, ⟨_, SqL.of hga6⟩, for_list (xs := ring.map V.str) (fun i σ H' => ∃ (r12 r13 r14 : Option V) (F' : Hp) (cur : KVs), σ = [some (.ref t), some l, some (.int (day : Nat)), some f, some r, some (.ref ga), some (.str wo.str), none, none, some (.ref a1), some (.ref a2), some (.ref D), r12, r13, r14, none, none, none] ∧
        Fz N0 H F H' F' ∧ Same F3 F' ∧ H' D = some (.dK cur) ∧ F' D = none ∧ DcK (pCo K ring (upto (fun n => n ∈ ring.take i) fun x => binV wo (g1.1 x) (g2.1 x))) F' cur ring.length)
        ⟨none, none, none, F3, [], rfl, z6, Same.refl _, upd_same, z5.sub.free hD, co_start (fun n => by simp)⟩ (fun i σ H' _ hp => ?_) (fun i v σ H' hv hp => ?_) (fun σ H' hp => ?_)⟩
      · obtain ⟨_, _, _, F', _, rfl, z, _⟩ := hp
        exact SqL.of (z.sub _ _ (z.grow _ _ hga))
      · obtain ⟨r12, r13, r14, F', cur, rfl, z, g', eD, fD, hC⟩ := hp
        obtain ⟨n, hn, rfl⟩ : ∃ n, ring[i]? = some n ∧ v = V.str n := by
          rw [List.getElem?_map] at hv
          cases q' : ring[i]? with
          | none => rw [q'] at hv; cases hv
          | some n => rw [q'] at hv; exact ⟨n, rfl, (Option.some.inj hv).symm⟩
        have hnr := List.mem_of_getElem? hn
        have gH := g'.trans z.sub
        refine ⟨_, rfl, a1, _, _, _, rfl, rfl, SqL.of (gH _ _ ha1), rfl, d1, rfl, .inl ⟨k1, .inr ⟨o1, gH _ _ hd1⟩⟩, _, rfl, two_ok, fun q1 hq1 => ?_⟩
        have y1 := Fz.nw (o := .tup [.int 0, .int 1]) z.sub hq1
        have f1 := z.sub.free hq1
        refine ⟨_, dget_any (k := Sum.inr n) (.inr ⟨o1, y1.same _ _ (gH _ _ hd1)⟩), ?_⟩
        have i1 := lco_get (hK1.up upCo g') f1 n
        refine ⟨_, rfl, _, rfl, _, rfl, a2, _, _, _, rfl, rfl, SqL.of (y1.same _ _ (gH _ _ ha2)), rfl, d2, rfl, .inl ⟨k2, .inr ⟨o2, y1.same _ _ (gH _ _ hd2)⟩⟩, _, rfl, two_ok, fun q2 hq2 => ?_⟩
        have y2 := Fz.nw (o := .tup [.int 0, .int 1]) y1.sub hq2
        have f2 := y1.sub.free hq2
        refine ⟨_, dget_any (k := Sum.inr n) (.inr ⟨o2, y2.same _ _ (y1.same _ _ (gH _ _ hd2))⟩), ?_⟩
        have i2 := lco_get (hK2.up upCo (g'.trans y1.grow)) f2 n
        refine ⟨_, _, _, _, _, _, rfl, y2.sub, i1.up y2.grow, i2, s1.f n, s2.f n, .inl ⟨wo, rfl, hsl.f n, fun rv H7 F7 z7 hrv => ?_⟩⟩
        have y := y1.trans (y2.trans z7)
        have eD7 := y.same _ _ eD
        have fD7 := y.outS fD eD
        have lc := hC.1.le
        have hrv0 := hrv
        obtain ⟨ra, rfl, hra⟩ := hrv0
        refine ⟨_, rfl, ra, _, _, _, rfl, rfl, sq_t z7.sub hra, rfl, rfl, _, rfl, ite2 (fun e => ?_) (fun e => ?_)⟩
        · have h0 : binV wo (g1.1 n) (g2.1 n) ≠ 0 := fun z => by
            rw [(num_zero _).2 z] at e
            simp at e
          refine ⟨_, rfl, _, rfl, _, rfl, D, _, rfl, .inl ⟨cur, Sum.inr n, eD7, rfl, small10 (by omega), rfl⟩, ?_⟩
          exact ⟨_, _, _, F7, _, rfl, (z.trans y).set (.inl hDH) fD7, g'.trans y.grow, upd_same, fD7, co_put' (hC.up upCo y.grow) (mem_take_succ hn) hnr h0 hrv⟩
        · have h0 : binV wo (g1.1 n) (g2.1 n) = 0 := by
            refine (num_zero _).1 ?_
            cases q' : decide (V.int (binV wo (g1.1 n) (g2.1 n)).num = V.int 0) with
            | true => exact V.int.inj (of_decide_eq_true q')
            | false => rw [q'] at e; exact absurd rfl e
          exact ⟨_, _, _, F7, _, rfl, z.trans y, g'.trans y.grow, eD7, fD7, co_skip (hC.up upCo y.grow) (mem_take_succ hn) h0⟩
      · obtain ⟨r12, r13, r14, F', cur, rfl, z, g', eD, fD, hC⟩ := hp
        rw [List.length_map, List.take_length, upto_all (fun n hn => by rw [show binV wo (g1.1 n) (g2.1 n) = 0 from by rw [co_out hK1 hn, co_out hK2 hn]; rcases was with rfl | rfl <;> decide +kernel])] at hC
        refine ⟨_, rfl, D, _, eD, True.intro, fun od => ?_⟩
        have z7 := z.frz (o := .frz od (.dK cur)) hDH fD
        have g7 := g'.trans (same_upd (o := .frz od (.dK cur)) fD)
        have gH := g7.trans z7.sub
        refine ⟨_, rfl, _, rfl, a1, _, _, _, rfl, rfl, SqL.of (gH _ _ ha1), rfl, _, rfl, a2, _, _, _, rfl, rfl, SqL.of (gH _ _ ha2), rfl, _, _, _, _, _, _, rfl, z7.sub, hc1.up g7, hc2.up g7, s1.c, s2.c, .inl ⟨wo, rfl, hsl.c, fun v H8 F8 z8 hv => ⟨two_ok, fun q hq => ?_⟩⟩⟩
        exact go (efm.trans ec) (z7.trans z8) (Dc.up upCo (F := upd F' D (.frz od (.dK cur))) ⟨D, od, cur, rfl, upd_same, co_norm (hC.up upCo (same_upd fD)) (by omega)⟩ z8.grow) hv hq
    have hni : inV (.str wo.str) [.str "add", .str "subtract"] = false := by
      cases wo with
      | add => exact absurd (.inl rfl) was
      | subtract => exact absurd (.inr rfl) was
      | multiply => decide +kernel
      | min => decide +kernel
      | max => decide +kernel
    refine ⟨p5, _, rfl, .inl (SqL.of upd_same), rfl, rfl, _, rfl, inF hni ?_⟩
    refine ⟨_, rfl, two_ok, fun p6 hp6 => ?_⟩
    have z6 := z5.trans (Fz.raw (o := .lst [.str "min", .str "max"]) z5.sub hp6)
    have g6 : Same F3 (upd (upd H3 p5 (.lst [.str "add", .str "subtract"])) p6 (.lst [.str "min", .str "max"])) := z6.sub
    by_cases wmm : wo = .min ∨ wo = .max
    · have hin : inV (.str wo.str) [.str "min", .str "max"] = true := by rcases wmm with rfl | rfl <;> decide +kernel
      refine ⟨p6, _, rfl, .inl (SqL.of upd_same), rfl, rfl, _, rfl, inT hin ?_⟩
      have ec : comb ring wo g1 g2 = if noF ring g1 && noF ring g2 then some (fun _ => 0, binV wo g1.2 g2.2) else none := by
        rcases wmm with rfl | rfl <;> rfl
      refine ⟨_, rfl, a1, _, _, _, rfl, rfl, SqL.of (g6 _ _ ha1), rfl, d1, k1, rfl, .inr ⟨o1, g6 _ _ hd1⟩, _, _, rfl, rfl, _, rfl, ite2 (fun e => ?_) (fun e => ?_)⟩
      · rw [gt_zero] at e
        have e1 : ¬ noF ring g1 = true := fun z => by rw [decide_eq_true (em1.2 z)] at e; cases e
        exact iteT (nogo (by rw [efm, ec, if_neg (by simp [e1])]) z6)
      · rw [gt_zero] at e
        have e1 : noF ring g1 = true := em1.1 (by
          cases q : decide (k1.length = 0) with
          | true => exact of_decide_eq_true q
          | false => rw [q] at e; exact absurd rfl e)
        refine ⟨_, rfl, a2, _, _, _, rfl, rfl, SqL.of (g6 _ _ ha2), rfl, d2, k2, rfl, .inr ⟨o2, g6 _ _ hd2⟩, _, _, rfl, rfl, _, rfl, ite2 (fun e => ?_) (fun e => ?_)⟩
        · rw [gt_zero] at e
          have e2 : ¬ noF ring g2 = true := fun z => by rw [decide_eq_true (em2.2 z)] at e; cases e
          exact nogo (by rw [efm, ec, if_neg (by simp [e2])]) z6
        · rw [gt_zero] at e
          have e2 : noF ring g2 = true := em2.1 (by
            cases q : decide (k2.length = 0) with
            | true => exact of_decide_eq_true q
            | false => rw [q] at e; exact absurd rfl e)
          have ec2 : comb ring wo g1 g2 = some (fun _ => 0, binV wo g1.2 g2.2) := by rw [ec, if_pos (by rw [e1, e2]; rfl)]
          have hsl := s3 _ ec2
          refine fun D hD => ⟨D, _, upd_same, True.intro, fun od => ?_⟩
          have z7 := z6.trans (fz_dict (S := N0) (o := .dK []) (u := .frz od (.dK [])) z6.sub hD)
          have g7 := (same_upd (o := .frz od (.dK [])) (z6.sub.free hD))
          have gH := g7.trans z7.sub
          refine ⟨_, rfl, _, rfl, a1, _, _, _, rfl, rfl, SqL.of (gH _ _ ha1), rfl, _, rfl, a2, _, _, _, rfl, rfl, SqL.of (gH _ _ ha2), rfl, _, _, _, _, _, _, rfl, z7.sub, hc1.up g7, hc2.up g7, s1.c, s2.c, .inl ⟨wo, rfl, hsl.c, fun v H8 F8 z8 hv => ⟨two_ok, fun q hq => ?_⟩⟩⟩
          exact go (efm.trans ec2) (z7.trans z8) (Dc.up upCo co_nil z8.grow) hv hq
    · have hwo : wo = .multiply := by
        cases wo with
        | add => exact absurd (.inl rfl) was
        | subtract => exact absurd (.inr rfl) was
        | multiply => rfl
        | min => exact absurd (.inl rfl) wmm
        | max => exact absurd (.inr rfl) wmm
      subst hwo
      refine ⟨p6, _, rfl, .inl (SqL.of upd_same), rfl, rfl, _, rfl, inF (by decide +kernel) ?_⟩
      have ec : comb ring .multiply g1 g2 = if noF ring g1 then some (scF g2 g1.2) else if noF ring g2 then some (scF g1 g2.2) else none := rfl
      have e1' : decide ((0 : Int) < (k1.length : Int)) = !noF ring g1 := by
        rw [gt_zero]
        cases q : noF ring g1 with
        | true => rw [decide_eq_true (em1.2 q)]
        | false => rw [decide_eq_false fun z => by rw [em1.1 z] at q; cases q]
      have e2' : decide ((0 : Int) < (k2.length : Int)) = !noF ring g2 := by
        rw [gt_zero]
        cases q : noF ring g2 with
        | true => rw [decide_eq_true (em2.2 q)]
        | false => rw [decide_eq_false fun z => by rw [em2.1 z] at q; cases q]
      refine ⟨fun σ' H' => ¬ (noF ring g1 = false ∧ noF ring g2 = false) ∧ σ' = [some (.ref t), some l, some (.int (day : Nat)), some f, some r, some (.ref ga), some (.str BinW.multiply.str), none, none, some (.ref a1), some (.ref a2), none, none, none, none, none, none, none] ∧ H' = upd (upd H3 p5 (.lst [.str "add", .str "subtract"])) p6 (.lst [.str "min", .str "max"]), ?_, ?_⟩
      · refine ⟨_, rfl, a1, _, _, _, rfl, rfl, SqL.of (g6 _ _ ha1), rfl, d1, k1, rfl, .inr ⟨o1, g6 _ _ hd1⟩, _, _, rfl, rfl, _, rfl, ?_⟩
        refine ite2 (fun e => ?_) (fun e => ?_)
        · rw [e1'] at e
          have b1 : noF ring g1 = false := by cases q : noF ring g1 with
            | true => rw [q] at e; cases e
            | false => rfl
          refine ⟨_, rfl, a2, _, _, _, rfl, rfl, SqL.of (g6 _ _ ha2), rfl, d2, k2, rfl, .inr ⟨o2, g6 _ _ hd2⟩, _, _, rfl, rfl, _, rfl, ite2 (fun e => ?_) (fun e => ?_)⟩
          · rw [e2'] at e
            have b2 : noF ring g2 = false := by cases q : noF ring g2 with
              | true => rw [q] at e; cases e
              | false => rfl
            exact nogo (by rw [efm, ec, b1, b2]; rfl) z6
          · rw [e2'] at e
            exact ⟨fun z => e (by rw [z.2]; rfl), rfl, rfl⟩
        · rw [e1'] at e
          exact iteF ⟨fun z => e (by rw [z.1]; rfl), rfl, rfl⟩
      · rintro σ' H' ⟨hno, rfl, rfl⟩
        refine ⟨_, rfl, a1, _, _, _, rfl, rfl, SqL.of (g6 _ _ ha1), rfl, _, rfl, ?_⟩
        refine ⟨fun σ' H' => ∃ (aA dA : Addr) (oA : Obj) (kA : KVs) (gA : Fm Str) (cA cB : V) (sB : Rat), σ' = [some (.ref t), some l, some (.int (day : Nat)), some f, some r, some (.ref ga), some (.str BinW.multiply.str), none, none, some (.ref a1), some (.ref a2), none, none, none, none, some cB, some (.ref aA), none] ∧
          H' = upd (upd H3 p5 (.lst [.str "add", .str "subtract"])) p6 (.lst [.str "min", .str "max"]) ∧ F3 aA = some (.lst [.ref dA, cA]) ∧ F3 dA = some (.frz oA (.dK kA)) ∧ DcK (pCo K ring gA.1) F3 kA 1000 ∧ IsF K F3 cA gA.2 ∧ IsF K F3 cB sB ∧ FSm gA ∧ Sm sB ∧ comb ring .multiply g1 g2 = some (scF gA sB), ?_, ?_⟩
        · refine ⟨_, rfl, a1, _, _, _, rfl, rfl, SqL.of (g6 _ _ ha1), rfl, d1, k1, rfl, .inr ⟨o1, g6 _ _ hd1⟩, _, _, rfl, rfl, _, rfl, ite2 (fun e => ?_) (fun e => ?_)⟩
          · rw [e1'] at e
            have b1 : noF ring g1 = false := by cases q : noF ring g1 with
              | true => rw [q] at e; cases e
              | false => rfl
            have b2 : noF ring g2 = true := by cases q : noF ring g2 with
              | true => rfl
              | false => exact absurd ⟨b1, q⟩ hno
            refine ⟨_, rfl, a2, _, _, _, rfl, rfl, SqL.of (g6 _ _ ha2), rfl, _, rfl, ?_⟩
            exact ⟨a1, d1, o1, k1, g1, c1, c2, g2.2, rfl, rfl, ha1, hd1, hK1, hc1, hc2, s1, s2.c, by rw [ec, b1, b2]; rfl⟩
          · rw [e1'] at e
            have b1 : noF ring g1 = true := by cases q : noF ring g1 with
              | true => rfl
              | false => rw [q] at e; exact absurd rfl e
            exact ⟨a2, d2, o2, k2, g2, c2, c1, g1.2, rfl, rfl, ha2, hd2, hK2, hc2, hc1, s2, s1.c, by rw [ec, b1]; rfl⟩
        · rintro σ' H' ⟨aA, dA, oA, kA, gA, cA, cB, sB, rfl, rfl, haA, hdA, hKA, hcA, hcB, sA, sSB, ecb⟩
          have hsl := s3 _ ecb
          have lA := co_len hKA
          refine fun D hD => ?_
          have z7 := z6.trans (Fz.raw (o := .dK []) z6.sub hD)
          have hDH : H D = none := z6.same.free hD
          have hdA7 := z7.sub _ _ hdA
          refine ⟨_, rfl, aA, _, _, _, rfl, rfl, SqL.of (z7.sub _ _ haA), rfl, dA, oA, rfl, .inl ⟨kA, hdA7, for_K (fun i σ H' => ∃ (r12 : Option V) (F' : Hp) (cur : KVs), σ = [some (.ref t), some l, some (.int (day : Nat)), some f, some r, some (.ref ga), some (.str BinW.multiply.str), none, none, some (.ref a1), some (.ref a2), some (.ref D), r12, none, none, some cB, some (.ref aA), none] ∧
            Fz N0 H F H' F' ∧ Same F3 F' ∧ H' D = some (.dK cur) ∧ F' D = none ∧ DcK (pCo K ring (upto (fun n => (Sum.inr n : Key) ∈ (kA.take i).map (·.1)) fun x => gA.1 x * sB)) F' cur ring.length)
            ⟨none, F3, [], rfl, z7, Same.refl _, upd_same, z6.sub.free hD, co_start (fun n => by simp)⟩ (fun i σ H' hp => ?_) (fun i ky v σ H' hkv hp => ?_) (fun σ H' hp => ?_)⟩⟩
          · obtain ⟨_, F', _, rfl, z, g', _⟩ := hp
            exact z.sub _ _ (g' _ _ hdA)
          · obtain ⟨r12, F', cur, rfl, z, g', eD, fD, hC⟩ := hp
            have hv := valV_at hKA.1.nd hkv
            obtain ⟨n, rfl, hn, hne, hv2⟩ := co_key hKA hv
            have gH := g'.trans z.sub
            have hcB0 := hcB
            obtain ⟨cb, rfl, hcb⟩ := hcB0
            refine ⟨_, rfl, cb, _, _, _, rfl, rfl, sq_t gH hcb, rfl, rfl, _, rfl, ite2 (fun e => ?_) (fun e => ?_)⟩
            · have hs0 : sB ≠ 0 := fun z => by
                rw [(num_zero _).2 z] at e
                simp at e
              refine ⟨_, rfl, aA, _, _, _, rfl, rfl, SqL.of (gH _ _ haA), rfl, _, rfl, dA, v, rfl, dget_frz (gH _ _ hdA) hv, _, rfl, F', _, _, _, _, rfl, z.sub, hv2.up g', hcB.up g', ⟨sA.f n, sSB, hsl.f n⟩, fun rv H7 F7 z7 hrv => ?_⟩
              have eD7 := z7.same _ _ eD
              have fD7 := z7.outS fD eD
              have lc := hC.1.le
              refine ⟨_, rfl, _, rfl, D, _, rfl, .inl ⟨cur, Sum.inr n, eD7, rfl, small10 (by omega), rfl⟩, ?_⟩
              exact ⟨_, F7, _, rfl, (z.trans z7).set (.inl hDH) fD7, g'.trans z7.grow, upd_same, fD7, co_put' (hC.up upCo z7.grow) (mem_keys_succ hkv) hn (fun z => (Rat.mul_eq_zero.mp z).elim hne hs0) hrv⟩
            · have hs0 : sB = 0 := by
                refine (num_zero _).1 ?_
                cases q' : decide (V.int sB.num = V.int 0) with
                | true => exact V.int.inj (of_decide_eq_true q')
                | false => rw [q'] at e; exact absurd rfl e
              exact ⟨_, F', _, rfl, z, g', eD, fD, co_skip hC (mem_keys_succ hkv) (by rw [hs0, Rat.mul_zero])⟩
          · obtain ⟨r12, F', cur, rfl, z, g', eD, fD, hC⟩ := hp
            rw [List.take_length, upto_all (fun n hn => by
              have : valV kA (Sum.inr n : Key) = none := by
                cases q' : valV kA (Sum.inr n : Key) with
                | none => rfl
                | some u => exact absurd (List.mem_map.mpr ⟨_, valV_mem q', rfl⟩) hn
              rw [co_none hKA this, Rat.zero_mul])] at hC
            refine ⟨_, rfl, D, _, eD, True.intro, fun od => ?_⟩
            have z8 := z.frz (o := .frz od (.dK cur)) hDH fD
            have g8 := g'.trans (same_upd (o := .frz od (.dK cur)) fD)
            have gH := g8.trans z8.sub
            refine ⟨_, rfl, aA, _, _, _, rfl, rfl, SqL.of (gH _ _ haA), rfl, _, rfl, _, _, _, _, _, rfl, z8.sub, hcA.up g8, hcB.up g8, ⟨sA.c, sSB, hsl.c⟩, fun v H9 F9 z9 hv => ⟨two_ok, fun q hq => ?_⟩⟩
            exact go (efm.trans ecb) (z8.trans z9) (Dc.up upCo (F := upd F' D (.frz od (.dK cur))) ⟨D, od, cur, rfl, upd_same, co_norm (hC.up upCo (same_upd fD)) (by omega)⟩ z9.grow) hv hq
  | part p =>
    obtain ⟨⟨t, rfl, ht⟩, epl⟩ := hp
    subst epl
    have hsub : p.ht ≤ h := by simp only [Px.ht] at hht; omega
    have hl0 := hl
    obtain ⟨la, vl, rfl, hla, t2, u, rfl, ht2, hu⟩ := hl0
    refine ⟨_, rfl, t, _, _, _, rfl, rfl, sq_t hs ht, rfl, _, rfl, rfl, _, rfl, strF (by decide +kernel) (iteF ⟨_, rfl, rfl, _, rfl, strT rfl ?_⟩)⟩
    refine ⟨_, rfl, la, rfl, ⟨_, SqL.of (hs _ _ hla)⟩, lc_L (S := N0) (a := la) (xs := [.ref t2]) (fun i acc F' => acc = List.replicate i u) hs (fun _ z => z.elim) (hs _ _ hla) (fun z => z.elim) rfl (by simp) (fun _ => rfl) (fun i acc H' F' v hv z p R R' hR hR' => ?_) (fun D ys H1 F1 hD z3 e1 e2 p1 => ?_)⟩
    · have ev : v = .ref t2 ∧ i = 0 := by
        match i, hv with
        | 0, hv => exact ⟨(Option.some.inj hv).symm, rfl⟩
        | i + 1, hv => simp at hv
      obtain ⟨rfl, rfl⟩ := ev
      have ht2' := sq_t (hs.trans z.same) ht2
      have ht' := sq_t (hs.trans z.same) ht
      refine ⟨_, rfl, t2, _, _, _, rfl, rfl, ht2', rfl, _, rfl, t, _, _, _, rfl, rfl, ht', rfl, rfl, _, rfl, ?_⟩
      refine strT rfl ⟨_, rfl, t2, _, _, _, rfl, rfl, ht2', rfl, hR _ H' F' (Fz.refl z.sub) ?_⟩
      rw [p]; rfl
    · have p1 : ys = [u] := p1
      subst p1
      exact ⟨D, _, _, _, rfl, rfl, SqL.of e1, rfl, _, rfl, _, rfl, _, rfl, _, rfl, _, rfl, _, rfl, F1, _, _, _, _, _, some p, W, day, ring, p, rfl, z3.sub, LetsIn.up hl z3.grow, tf.up upTab z3.grow, tr.up upTab z3.grow, IsL.up upS _ _ _ _ z3.grow hrg, hnd, hrn, wb, hu.up z3.grow, hok, hsub, by omega, of, fun v H3 F3 z5 hv => k _ _ _ (z3.trans z5) hv⟩
end
end K3
end
section
set_option Elab.async false
set_option linter.all false
set_option maxRecDepth 100000
set_option exponentiation.threshold 100
namespace K3
open PySem PySem.Spec PyProof.Rows L2
/-! ### _law_eliminated -/
theorem dp_ints {K : PySem.W.Frag} {H : Hp} : ∀ ns : List Nat, DpAll K H (ns.map fun n => V.int (n : Nat)) (ns.map fun n => PyData.int (n : Nat))
  | [] => .nil
  | n :: ns => .cons (.int _) (dp_ints ns)
theorem ints_lay : ∀ ns : List Nat, PyData.canLayAll0 (ns.map fun n => PyData.int (n : Nat)) = true
  | [] => by simp [PyData.canLayAll0]
  | n :: ns => by simp [PyData.canLayAll0, PyData.canLay0, ints_lay ns]
theorem ints_depth : ∀ ns : List Nat, PyData.depthAll (ns.map fun n => PyData.int (n : Nat)) ≤ 1
  | [] => by simp [PyData.depthAll]
  | n :: ns => by
    have := ints_depth ns
    simp only [List.map_cons, PyData.depthAll, PyData.depth]
    omega
theorem ints_shaped (ns : List Nat) : SeqAt.shaped (.list (ns.map fun n => PyData.int (n : Nat))) = true := shaped_of (by simp only [PyData.canLay0]; exact ints_lay ns) (by have := ints_depth ns; simp only [PyData.depth]; omega)
theorem ints_eqv : ∀ ns : List Nat, PyData.eqv (.list (ns.map fun n => PyData.int (n : Nat))) (.list []) = decide (ns = [])
  | [] => by simp [PyData.eqv, PyData.eqvAll]
  | n :: ns => by simp [PyData.eqv, PyData.eqvAll]
theorem inv_parts {x : Rat} (h : x ≠ 0) : x⁻¹.num = (if x.num < 0 then -(x.den : Int) else (x.den : Int)) ∧ (x⁻¹.den : Int) = if x.num < 0 then -x.num else x.num := by
  have hn : x.num ≠ 0 := fun z => h ((num_zero x).1 z)
  rw [Rat.num_inv, Rat.den_inv, if_neg hn]
  by_cases q : x.num < 0
  · rw [if_pos q, if_pos q, Int.sign_eq_neg_one_of_neg q]
    exact ⟨by omega, by omega⟩
  · rw [if_neg q, if_neg q, Int.sign_eq_one_of_pos (by omega)]
    exact ⟨by omega, by omega⟩
/-- the rows behind the first so many that are not 0 at c -/
def fnd (T : List Row) (c p i : Nat) : List Nat := (List.range' p i).filter fun k => decide (at0 (T.getD k []) c ≠ 0)
theorem fnd_succ (T : List Row) (c p i : Nat) : fnd T c p (i + 1) = fnd T c p i ++ if at0 (T.getD (p + i) []) c ≠ 0 then [p + i] else [] := by
  unfold fnd
  rw [List.range'_concat, List.filter_append]
  congr 1
  by_cases h : at0 (T.getD (p + 1 * i) []) c = 0 <;> simp [h, Nat.one_mul] at h ⊢ <;> simp [h]
theorem fnd_none {D R : List Row} {c : Nat} (h : fnd (D ++ R) c D.length R.length = []) : ∀ r ∈ R, at0 r c = 0 := fun r hr => by
  obtain ⟨j, hj, e⟩ := List.getElem_of_mem hr
  have q := List.filter_eq_nil_iff.mp h (D.length + j) (List.mem_range'.mpr ⟨j, hj, by omega⟩)
  have e2 : (D ++ R).getD (D.length + j) [] = r := by
    rw [List.getD_eq_getElem?_getD, List.getElem?_append_right (by omega), Nat.add_sub_cancel_left, List.getElem?_eq_getElem hj, e]; rfl
  rw [e2] at q
  simpa using q
theorem fnd_some {D R : List Row} {c k : Nat} {tl : List Nat} (h : fnd (D ++ R) c D.length R.length = k :: tl) : ∃ j, k = D.length + j ∧ ∃ r, R[j]? = some r ∧ at0 r c ≠ 0 := by
  have m : k ∈ fnd (D ++ R) c D.length R.length := by rw [h]; exact List.mem_cons_self
  obtain ⟨m1, m2⟩ := List.mem_filter.mp m
  obtain ⟨j, hj, e⟩ := List.mem_range'.mp m1
  have e : k = D.length + j := by omega
  subst e
  refine ⟨j, rfl, R[j], List.getElem?_eq_getElem hj, ?_⟩
  have e2 : (D ++ R).getD (D.length + j) [] = R[j] := by
    rw [List.getD_eq_getElem?_getD, List.getElem?_append_right (by omega), Nat.add_sub_cancel_left, List.getElem?_eq_getElem hj]; rfl
  rw [e2] at m2
  exact of_decide_eq_true m2
/-- row j out of R, the first row in its place -/
def outR : List Row → Nat → List Row
  | [], _ => []
  | _ :: R, 0 => R
  | r0 :: R, j + 1 => R.set j r0
theorem outR_perm : ∀ {R : List Row} {j : Nat} {r : Row}, R[j]? = some r → R.Perm (r :: outR R j)
  | r0 :: R, 0, r, h => by
    simp at h; subst h; exact List.Perm.refl _
  | r0 :: R, j + 1, r, h => by
    have h : R[j]? = some r := by simpa using h
    show (r0 :: R).Perm (r :: R.set j r0)
    have key : ∀ (R : List Row) (j : Nat), R[j]? = some r → (r0 :: R).Perm (r :: R.set j r0) := by
      intro R
      induction R with
      | nil => intro j h; simp at h
      | cons q R ih =>
        intro j h
        cases j with
        | zero => simp at h; subst h; exact List.Perm.swap _ _ _
        | succ j =>
          have h : R[j]? = some r := by simpa using h
          show (r0 :: q :: R).Perm (r :: q :: R.set j r0)
          exact (List.Perm.swap _ _ _).trans (((ih j h).cons q).trans (List.Perm.swap _ _ _))
    exact key R j h
theorem outR_len {R : List Row} {j : Nat} {r : Row} (h : R[j]? = some r) : (outR R j).length + 1 = R.length := by have := (outR_perm h).length_eq; simp at this; omega
/-- the table behind the swap -/
theorem swap_tab {D R : List Row} {j : Nat} {r0 r s : Row} (h0 : R[0]? = some r0) (h : R[j]? = some r) : ((D ++ R).set (D.length + j) r0).set D.length s = D ++ s :: outR R j := by
  cases R with
  | nil => simp at h0
  | cons q R =>
    simp at h0
    subst h0
    cases j with
    | zero =>
      rw [Nat.add_zero, List.set_set, List.set_append_right _ _ (Nat.le_refl _), Nat.sub_self]
      rfl
    | succ j =>
      rw [List.set_append_right _ _ (by omega), Nat.add_sub_cancel_left, List.set_append_right _ _ (Nat.le_refl _), Nat.sub_self]
      rfl
theorem el_zero {c : Nat} {s row : Row} (h : at0 row c = 0) (hl : row.length = s.length) : el c s row = row := by
  refine List.ext_getElem? fun i => ?_
  unfold el
  rw [List.getElem?_zipWith]
  cases q : row[i]? with
  | none => rfl
  | some x =>
    have hi := (List.getElem?_eq_some_iff.mp q).1
    rw [List.getElem?_eq_getElem (show i < s.length by omega)]
    show some (x - at0 row c * _) = some x
    rw [h, Rat.zero_mul, Rat.sub_eq_add_neg, Rat.neg_zero, Rat.add_zero]
/-- so many rows cleared -/
def clr (c p : Nat) (s : Row) (T : List Row) (i : Nat) : List Row := T.mapIdx fun k row => if k < i ∧ k ≠ p then el c s row else row
theorem clr_get {c p i k : Nat} {s : Row} {T : List Row} : (clr c p s T i)[k]? = (T[k]?).map fun row => if k < i ∧ k ≠ p then el c s row else row := by unfold clr; rw [List.getElem?_mapIdx]
theorem clr_len (c p : Nat) (s : Row) (T : List Row) (i : Nat) : (clr c p s T i).length = T.length := by unfold clr; rw [List.length_mapIdx]
theorem clr_zero (c p : Nat) (s : Row) (T : List Row) : clr c p s T 0 = T := List.ext_getElem? fun k => by
  rw [clr_get]
  cases T[k]? with
  | none => rfl
  | some x => show some (if k < 0 ∧ k ≠ p then _ else x) = _; rw [if_neg (by omega)]
theorem clr_same {c p i : Nat} {s : Row} {T : List Row} (h : i = p ∨ ∀ row, T[i]? = some row → el c s row = row) : clr c p s T (i + 1) = clr c p s T i := List.ext_getElem? fun k => by
  rw [clr_get, clr_get]
  cases q : T[k]? with
  | none => rfl
  | some x =>
    show some (if k < i + 1 ∧ k ≠ p then el c s x else x) = some (if k < i ∧ k ≠ p then el c s x else x)
    by_cases hk : k = i
    · subst hk
      rw [if_neg (show ¬ (k < k ∧ k ≠ p) by omega)]
      rcases h with h | h
      · rw [if_neg (show ¬ (k < k + 1 ∧ k ≠ p) by omega)]
      · by_cases z : k < k + 1 ∧ k ≠ p
        · rw [if_pos z, h x q]
        · rw [if_neg z]
    · by_cases z : k < i ∧ k ≠ p
      · rw [if_pos z, if_pos (show k < i + 1 ∧ k ≠ p by omega)]
      · rw [if_neg z, if_neg (show ¬ (k < i + 1 ∧ k ≠ p) by omega)]
theorem clr_set {c p i : Nat} {s row : Row} {T : List Row} (hp : i ≠ p) (e : T[i]? = some row) : clr c p s T (i + 1) = (clr c p s T i).set i (el c s row) := List.ext_getElem? fun k => by
  rw [clr_get, List.getElem?_set, clr_get, clr_len]
  have hi := (List.getElem?_eq_some_iff.mp e).1
  by_cases hk : i = k
  · subst hk
    rw [if_pos rfl, if_pos hi, e]
    show some (if i < i + 1 ∧ i ≠ p then el c s row else row) = _
    rw [if_pos ⟨by omega, hp⟩]
  · rw [if_neg hk]
    cases q : T[k]? with
    | none => rfl
    | some x =>
      show some (if k < i + 1 ∧ k ≠ p then el c s x else x) = some (if k < i ∧ k ≠ p then el c s x else x)
      by_cases z : k < i ∧ k ≠ p
      · rw [if_pos z, if_pos (show k < i + 1 ∧ k ≠ p by omega)]
      · rw [if_neg z, if_neg (show ¬ (k < i + 1 ∧ k ≠ p) by omega)]
theorem clr_end {c : Nat} {s : Row} {D R : List Row} : clr c D.length s (D ++ s :: R) (D ++ s :: R).length = D.map (el c s) ++ s :: R.map (el c s) := List.ext_getElem? fun k => by
  rw [clr_get]
  rcases Nat.lt_trichotomy k D.length with h | h | h
  · rw [List.getElem?_append_left h, List.getElem?_append_left (by rw [List.length_map]; exact h), List.getElem?_map, List.getElem?_eq_getElem h]
    show some (if _ then _ else _) = some _
    rw [if_pos ⟨by rw [List.length_append]; omega, by omega⟩]
  · subst h
    rw [List.getElem?_append_right (Nat.le_refl _), Nat.sub_self, List.getElem?_append_right (by rw [List.length_map]; exact Nat.le_refl _), List.length_map, Nat.sub_self]
    show some (if _ then _ else _) = some _
    rw [if_neg (fun z => z.2 rfl)]
  · rw [List.getElem?_append_right (by omega), List.getElem?_append_right (by rw [List.length_map]; omega), List.length_map]
    obtain ⟨m, hm⟩ : ∃ m, k - D.length = m + 1 := ⟨k - D.length - 1, by omega⟩
    rw [hm, List.getElem?_cons_succ, List.getElem?_cons_succ, List.getElem?_map]
    cases q : R[m]? with
    | none => rfl
    | some x =>
      have := (List.getElem?_eq_some_iff.mp q).1
      show some (if _ then _ else _) = some _
      rw [if_pos ⟨by rw [List.length_append, List.length_cons]; omega, by omega⟩]
end K3
end
section
set_option Elab.async false
set_option linter.all false
set_option maxRecDepth 100000
set_option exponentiation.threshold 100
namespace K3
open PySem PySem.Spec PyProof.Rows L2
section
variable {P : Program} {w : World} {K : PySem.W.Frag} {mg : Str → Option Value} {base : Heap}
def ElP (K : PySem.W.Frag) (W n : Nat) (T : List Row) (v : V) (F' : Hp) : Prop := ∃ l ta pa D R P, v = .ref l ∧ F' l = some (.lst [ta, pa]) ∧ RM K F' ta (D ++ R) ∧ IsL RN F' pa P ∧ SI W T n D R P
def spElim (K : PySem.W.Frag) : Sp := fun vs H Q _ => ∃ (F : Hp) (a : V) (T : List Row) (W n : Nat), vs = [a, .int (n : Nat)] ∧ Same F H ∧ RM K F a T ∧ (∀ t ∈ T, t.length = W) ∧ n ≤ W ∧ n ≤ 3 ∧ W ≤ 100 ∧ T.length ≤ 100 ∧ (∀ t ∈ T, RowB n 0 t) ∧ Ret N0 H F (ElP K W n T) Q
theorem getD_at {T : List Row} {k : Nat} {r : Row} (h : T[k]? = some r) : T.getD k [] = r := by rw [List.getD_eq_getElem?_getD, h]; rfl
theorem ixN_nat {n i : Nat} (h : i < n) : ixN n (i : Int) = some i := by unfold ixN; rw [if_pos (by omega), if_pos (by omega), Int.toNat_natCast]
theorem g_L_eliminated (T : Txt K mg) : G P w K mg base CX0 6 "_law_eliminated" p_L_eliminated (spElim K) := by
  refine G.mk' T.df_L_eliminated T.g_L_eliminated (fun _ _ _ _ _ _ us hl => match us, hl with | [_, _], _ => rfl) fun fd F => ?_
  refine F.ok sc_L_eliminated (fun vs H Q E h => ?_) (fun cdv A outer s H vs Q E hr hh => ?_)
  · obtain ⟨_, _, _, _, _, rfl, _⟩ := h
    rfl
  obtain ⟨F, _, Tb, W, n, rfl, hs, ⟨a, va, rfl, ha, pa0⟩, hW, hnW, hn3, hW1, hTl, hB, k⟩ := hh
  have lva := pr_len pa0
  refine ⟨_, PSs.nox (pss_cons (ps_set (i := 2) sc_L_eliminated.nd rfl (.inr rfl) (pe_lc (own := [("_law_row", 7)]) (g := gName 7) (tt := tYes) rfl sc_L_eliminated.nd (pi_list (pv 0)) (blkOk_by (own := [("_law_row", 7)]) (N := n_L_eliminated) (sc := defScope s_L_eliminated) (by decide +kernel)) (fun _ _ _ _ _ => (pg_name (i := 7) sc_L_eliminated.nd rfl (Or.inl rfl))) (fun _ _ _ _ _ => pts_nil) (fun _ _ _ _ _ => (pe_callTy (call_list_ofK (K := K) rfl) (by rfl) T.f_list (by decide +kernel) (pa_cons (pv 7) pa_nil)))))
  (pss_cons (ps_set (i := 3) sc_L_eliminated.nd rfl (.inl rfl) (pe_lst pa_nil))
  (pss_cons (ps_for PassesOwn.never rfl (pi_range1 (by rfl) T.f_range (pa_cons (pv 1) pa_nil)) (pg_name (i := 4) sc_L_eliminated.nd rfl (Or.inr rfl))
    (pss_cons (ps_setLc (i := 5) (own := [("_law_k", 9)]) (g := gName 9) rfl sc_L_eliminated.nd rfl rfl (sw_true rfl rfl rfl (by decide +kernel)) (pi_range2 (by rfl) T.f_range (pa_cons (pe_callB call_len_seq (by rfl) T.f_len (by decide +kernel) (pa_cons (pv 3) pa_nil)) (pa_cons (pe_callB call_len_seq (by rfl) T.f_len (by decide +kernel) (pa_cons (pv 2) pa_nil)) pa_nil))) (blkOk_by (own := [("_law_k", 9)]) (N := n_L_eliminated) (sc := defScope s_L_eliminated) (by decide +kernel)) (fun _ _ _ _ _ => (pg_name (i := 9) sc_L_eliminated.nd rfl (Or.inl rfl))) (fun _ _ _ _ _ => (pts_one (pt_cmpR op_ne (pe_ix (ix_tupK (K := K) rfl) (pe_ix (ix_listK (K := K) rfl) (pe_ix (ix_listK (K := K) rfl) (pv 2) (pv 9) (fun _ _ => rfl)) (pv 4) (fun _ _ => rfl)) pe_int (fun _ _ => rfl)) pe_int (nomark _)))) (fun _ _ _ _ _ => (pv 9)))
  (pss_one (ps_if (pt_cmpR (op_neD hr.units) (pv 5) (pe_lst pa_nil) (nomark _)) (pss_cons (ps_set (i := 6) sc_L_eliminated.nd rfl (.inl rfl) (pe_callB call_len_seq (by rfl) T.f_len (by decide +kernel) (pa_cons (pv 3) pa_nil)))
  (pss_cons (ps_set (i := 7) sc_L_eliminated.nd rfl (.inr rfl) (pe_ix ix_list (pv 2) (pe_ix ix_list (pv 5) pe_int (fun _ _ => rfl)) (fun _ _ => rfl)))
  (pss_cons (ps_asg (pe_ix ix_list (pv 2) (pv 6) (fun _ _ => rfl)) (pg_sub (pv 2) (pe_ix ix_list (pv 5) pe_int (fun _ _ => rfl)) set_list))
  (pss_cons (ps_set (i := 8) sc_L_eliminated.nd rfl (.inr rfl) (pe_tup (pa_cons (pe_ix ix_tup (pe_ix ix_list (pv 7) (pv 4) (fun _ _ => rfl)) pe_int (fun _ _ => rfl)) (pa_cons (pe_ix ix_tup (pe_ix ix_list (pv 7) (pv 4) (fun _ _ => rfl)) pe_int (fun _ _ => rfl)) pa_nil))))
  (pss_cut (ps_if (pt_cmpR op_lt (pe_ix ix_tup (pv 8) pe_int (fun _ _ => rfl)) pe_int (nomark _)) (pss_one (ps_set (i := 8) sc_L_eliminated.nd rfl (.inr rfl) (pe_tup (pa_cons (pe_un un_neg (pe_ix ix_tup (pv 8) pe_int (fun _ _ => rfl))) (pa_cons (pe_un un_neg (pe_ix ix_tup (pv 8) pe_int (fun _ _ => rfl))) pa_nil))))) pss_nil)
  (pss_cons (ps_set (i := 7) sc_L_eliminated.nd rfl (.inr rfl) (pe_lc (own := [("_law_value_here", 12)]) (g := gName 12) (tt := tYes) rfl sc_L_eliminated.nd (pi_list (pv 7)) (blkOk_by (own := [("_law_value_here", 12)]) (N := n_L_eliminated) (sc := defScope s_L_eliminated) (by decide +kernel)) (fun _ _ _ _ _ => (pg_name (i := 12) sc_L_eliminated.nd rfl (Or.inl rfl))) (fun _ _ _ _ _ => pts_nil) (fun _ _ _ _ _ => (pe_g (g_L_times T) (hr.mono (by omega)) (by rfl) pass0 (pa_cons (pv 8) (pa_cons (pv 12) pa_nil))))))
  (pss_cons (ps_asg (pv 7) (pg_sub (pv 2) (pv 6) set_list))
  (pss_cons (ps_for PassesOwn.never rfl (pi_range1 (by rfl) T.f_range (pa_cons (pe_callB call_len_seq (by rfl) T.f_len (by decide +kernel) (pa_cons (pv 2) pa_nil)) pa_nil)) (pg_name (i := 9) sc_L_eliminated.nd rfl (Or.inl rfl))
    (pss_one (ps_if (PW.pt (pw_and (pt_cmpR op_ne (pv 9) (pv 6) (nomark _)) (pw_and1 (pt_cmpR op_ne (pe_ix ix_tup (pe_ix ix_list (pe_ix ix_list (pv 2) (pv 9) (fun _ _ => rfl)) (pv 4) (fun _ _ => rfl)) pe_int (fun _ _ => rfl)) pe_int (nomark _))))) (pss_cons (ps_set (i := 10) sc_L_eliminated.nd rfl (.inr rfl) (pe_ix ix_list (pe_ix ix_list (pv 2) (pv 9) (fun _ _ => rfl)) (pv 4) (fun _ _ => rfl)))
  (pss_cons (ps_set (i := 11) sc_L_eliminated.nd rfl (.inr rfl) (pe_ix ix_list (pv 2) (pv 9) (fun _ _ => rfl)))
  (pss_one (ps_asg (pe_lc (own := [("_law_j", 13)]) (g := gName 13) (tt := tYes) rfl sc_L_eliminated.nd (pi_range1 (by rfl) T.f_range (pa_cons (pe_callB call_len_seq (by rfl) T.f_len (by decide +kernel) (pa_cons (pv 7) pa_nil)) pa_nil)) (blkOk_by (own := [("_law_j", 13)]) (N := n_L_eliminated) (sc := defScope s_L_eliminated) (by decide +kernel)) (fun _ _ _ _ _ => (pg_name (i := 13) sc_L_eliminated.nd rfl (Or.inl rfl))) (fun _ _ _ _ _ => pts_nil) (fun _ _ _ _ _ => (pe_g (g_L_minus T) (hr.mono (by omega)) (by rfl) pass0 (pa_cons (pe_ix (ix_listK (K := K) rfl) (pv 11) (pv 13) (fun _ _ => rfl)) (pa_cons (pe_g (g_L_times T) (hr.mono (by omega)) (by rfl) pass0 (pa_cons (pv 10) (pa_cons (pe_ix (ix_listK (K := K) rfl) (pv 7) (pv 13) (fun _ _ => rfl)) pa_nil))) pa_nil))))) (pg_sub (pv 2) (pv 9) set_list))))) pss_nil)))
  (pss_one (ps_expr (pe_bm PySem.F.plainAttrs_list PySem.F.slot_list_append PySem.F.type_list_append mt_append (pv 3) (pa_cons (pv 4) pa_nil)))))))))))) pss_nil))))
  (pss_one (ps_ret (pe_lst (pa_cons (pv 2) (pa_cons (pv 3) pa_nil)))))))), ?_⟩
  -- the table: copies of the rows
  refine ⟨_, rfl, a, rfl, ⟨_, SqL.of (hs _ _ ha)⟩, lc_L (S := N0) (a := a) (xs := va) (fun i acc F' => Paired (RFs K F') acc (Tb.take i)) hs (fun _ z => z.elim) (hs _ _ ha) (fun z => z.elim) .nil (by omega) (fun _ => rfl) (fun i acc H' F' v hv z p R R' hR hR' => ?_) (fun ta vt0 H1 F1 hta z1 e1 e2 p1 => ?_)⟩
  · obtain ⟨q, hq, c, vc, rfl, hc, pc⟩ := pr_at' pa0 hv
    refine yes ⟨_, rfl, c, vc, rfl, .inl (SqL.of (z.same _ _ (hs _ _ hc))), fun l hl => ?_⟩
    have z2 := Fz.nw (o := .lst vc) z.sub hl
    exact hR _ _ _ z2 (pr_take (paired_up upFs z2.grow p) hq ⟨l, vc, rfl, upd_same, paired_up upF (z.grow.trans z2.grow) pc⟩)
  have p1 := pr_all p1 (by omega)
  have htaH : H ta = none := hta
  refine ⟨(by decide : 0 ≤ sizeLine), fun pa hpa => ?_⟩
  have z2 := z1.trans (Fz.raw (o := .lst []) z1.sub hpa)
  have hpaH : H pa = none := z1.same.free hpa
  have ntp : ta ≠ pa := ne_of_none e1 hpa
  refine ⟨_, rfl, _, rfl, by omega, by omega, for_range (lo := 0) (fun c σ H' => ∃ (s4 s5 s6 s7 s8 s9 s10 s11 : Option V) (vt : List V) (F' : Hp) (D R : List Row) (Pv : List Nat), σ = [some (.ref a), some (.int (n : Nat)), some (.ref ta), some (.ref pa), s4, s5, s6, s7, s8, s9, s10, s11, none, none] ∧ Fz N0 H F H' F' ∧
      H' ta = some (.lst vt) ∧ F' ta = none ∧ H' pa = some (.lst (Pv.map fun p => V.int (p : Nat))) ∧ F' pa = none ∧ Paired (RFs K F') vt (D ++ R) ∧ SI W Tb c D R Pv ∧ (∀ r ∈ D, RowB n c r) ∧ ∀ r ∈ R, RowB n c r)
      ⟨none, none, none, none, none, none, none, none, vt0, F1, [], Tb, [], rfl, z2, by rw [upd_ne ntp]; exact e1, e2, upd_same, z1.sub.free hpa, p1, SI.start hW, (by simp), hB⟩ (fun c σ H' hc hp => ?_) (fun σ H' hp => ?_)⟩
  · obtain ⟨s4, s5, s6, s7, s8, s9, s10, s11, vt, F', D, R, Pv, rfl, z, et, ft, ep, fp, pt, I, bD, bR⟩ := hp
    have hcn : c < n := by omega
    have lvt := pr_len pt
    rw [List.length_append] at lvt
    have Ilen := I.len
    have Itot := I.tot
    have hrow : ∀ r ∈ D ++ R, r.length = W := fun r hr => (List.mem_append.mp hr).elim (I.wD r) (I.wR r)
    have hbnd : ∀ r ∈ D ++ R, RowB n c r := fun r hr => (List.mem_append.mp hr).elim (bD r) (bR r)
    show tSeq _ _ _ _ _
    simp only [Int.zero_add]
    -- found
    refine ⟨_, rfl, pa, _, rfl, .inl (SqL.of ep), _, rfl, ta, _, rfl, .inl (SqL.of et), ((D.length : Nat) : Int), (((D ++ R).length : Nat) : Int), by rw [List.length_map, ← Ilen, List.length_append, lvt], ⟨by omega, by omega, by rw [List.length_append]; omega, by rw [List.length_append]; omega⟩,
      lc_R (S := N0) (lo := ((D.length : Nat) : Int)) (n := ((((D ++ R).length : Nat) : Int) - ((D.length : Nat) : Int)).toNat) (fun i acc F2 => acc = (fnd (D ++ R) c D.length i).map fun k => V.int (k : Nat)) z.sub (fun _ z => z.elim) rfl (by rw [List.length_append]; omega) (fun _ => rfl) (fun i acc H2 F2 hi z2 p S S' hS hS' => ?_) (fun fa ys H2 F2 hfa z2 e1 e2 p => ?_)⟩
    · have hi : i < R.length := by rw [List.length_append] at hi; omega
      have eI : ((D.length : Nat) : Int) + (i : Int) = ((D.length + i : Nat) : Int) := by omega
      rw [eI]
      have hki : D.length + i < (D ++ R).length := by rw [List.length_append]; omega
      obtain ⟨rv, hrv, b, vb, rfl, hb, pb⟩ := pr_at pt (List.getElem?_eq_getElem hki)
      have hrl := hrow _ (List.getElem_mem hki)
      obtain ⟨xv, hxv, fa, rfl, hfa⟩ := pr_at pb (at0_lt (show c < ((D ++ R)[D.length + i]).length by omega))
      have sH := fun {x : Addr} {o : HO} (h : F' x = some o) => z2.same _ _ (z.sub _ _ h)
      refine ⟨_, rfl, _, rfl, ta, _, _, _, rfl, rfl, SqL.of (z2.same _ _ et), atI_nat hrv, _, rfl, b, _, _, _, rfl, rfl, SqL.of (sH hb), atI_nat hxv, fa, _, _, _, rfl, rfl, sq_t (z.sub.trans z2.same) hfa, rfl, rfl, _, rfl, ?_⟩
      have es := fnd_succ (D ++ R) c D.length i
      rw [getD_at (List.getElem?_eq_getElem hki)] at es
      by_cases h0 : at0 (D ++ R)[D.length + i] c = 0
      · have e : (!decide (V.int (at0 (D ++ R)[D.length + i] c).num = V.int 0)) = false := by rw [(num_zero _).2 h0]; rfl
        rw [e]
        refine iteF (hS' H2 F2 (Fz.refl z2.sub) ?_)
        rw [es, if_neg (fun q => q h0), List.append_nil]; exact p
      · have e : (!decide (V.int (at0 (D ++ R)[D.length + i] c).num = V.int 0)) = true := by rw [decide_eq_false (fun q => h0 ((num_zero _).1 (V.int.inj q)))]; rfl
        rw [e]
        refine iteT ⟨_, rfl, hS _ H2 F2 (Fz.refl z2.sub) ?_⟩
        rw [es, if_pos h0, List.map_append, p]; rfl
    · have ecnt : ((((D ++ R).length : Nat) : Int) - ((D.length : Nat) : Int)).toNat = R.length := by rw [List.length_append]; omega
      rw [ecnt] at p
      subst p
      have zf := (z.trans z2).freeze (z.same.free hfa) e1 e2
      have et2 := z2.same _ _ et
      have ep2 := z2.same _ _ ep
      have nft : ta ≠ fa := ne_of_none et hfa
      have nfp : pa ≠ fa := ne_of_none ep hfa
      have ft2 : upd F2 fa (.lst ((fnd (D ++ R) c D.length R.length).map fun k => V.int (k : Nat))) ta = none := by rw [upd_ne nft]; exact z2.outS ft et
      have fp2 : upd F2 fa (.lst ((fnd (D ++ R) c D.length R.length).map fun k => V.int (k : Nat))) pa = none := by rw [upd_ne nfp]; exact z2.outS fp ep
      have hfa3 := upd_same (H := F2) (a := fa) (o := .lst ((fnd (D ++ R) c D.length R.length).map fun k => V.int (k : Nat)))
      have pt2 := paired_up upFs (z2.grow.trans (same_upd (o := .lst ((fnd (D ++ R) c D.length R.length).map fun k => V.int (k : Nat))) e2)) pt
      generalize upd F2 fa (.lst ((fnd (D ++ R) c D.length R.length).map fun k => V.int (k : Nat))) = F3 at zf ft2 fp2 hfa3 pt2
      refine ⟨_, rfl, (by decide : 0 ≤ sizeLine), fun q hq => ?_⟩
      have z3 := zf.trans (Fz.raw (o := .lst []) zf.sub hq)
      have y3 : Same H2 _ := (Fz.raw (o := .lst []) zf.sub hq).same
      refine ⟨_, _, .lst (SqL.of (z3.sub _ _ hfa3)) (dp_ints _), .lst (SqL.of upd_same) .nil, ints_shaped _, by decide +kernel, _, rfl, ?_⟩
      rw [ints_eqv]
      refine ite2 (fun e => ?_) (fun e => ?_)
      · have hne : fnd (D ++ R) c D.length R.length ≠ [] := fun q => by rw [q] at e; cases e
        obtain ⟨k0, tl, hk0⟩ := List.exists_cons_of_ne_nil hne
        obtain ⟨j, rfl, r, hr, hr0⟩ := fnd_some hk0
        have hrm := List.mem_of_getElem? hr
        have hjR := (List.getElem?_eq_some_iff.mp hr).1
        have hrW := I.wR r hrm
        have et3 := y3 _ _ et2
        have ep3 := y3 _ _ ep2
        have f0 : atI ((fnd (D ++ R) c D.length R.length).map fun k => V.int (k : Nat)) 0 = some (.int ((D.length + j : Nat) : Int)) := atI_nat (j := 0) (by rw [hk0]; rfl)
        have eDj : (D ++ R)[D.length + j]? = some r := by rw [List.getElem?_append_right (by omega), Nat.add_sub_cancel_left, hr]
        obtain ⟨r0, hr0e⟩ : ∃ r0, R[0]? = some r0 := ⟨R[0], List.getElem?_eq_getElem (by omega)⟩
        have eD0 : (D ++ R)[D.length]? = some r0 := by rw [List.getElem?_append_right (Nat.le_refl _), Nat.sub_self, hr0e]
        obtain ⟨rv, hrv, rvR⟩ := pr_at pt2 eDj
        have rvR0 := rvR
        obtain ⟨b, vb, rfl, hb, pb⟩ := rvR0
        obtain ⟨r0v, hr0v, r0R⟩ := pr_at pt2 eD0
        have lvb := pr_len pb
        have hlP : (Pv.map fun p => V.int (p : Nat)).length = D.length := by rw [List.length_map]; exact Ilen.symm
        refine ⟨_, rfl, pa, _, rfl, .inl (SqL.of ep3), ?_⟩
        rw [hlP]
        refine ⟨_, rfl, _, rfl, fa, _, _, _, rfl, rfl, SqL.of (z3.sub _ _ hfa3), f0, ta, _, _, _, rfl, rfl, SqL.of et3, atI_nat hrv, ?_⟩
        refine ⟨_, rfl, _, rfl, ta, _, _, _, rfl, rfl, SqL.of et3, atI_nat hr0v, _, rfl, _, rfl, fa, _, _, _, rfl, rfl, SqL.of (z3.sub _ _ hfa3), f0, ta, vt, _, D.length + j, rfl, rfl, et3, ixN_nat (by omega), ?_⟩
        have z4 := z3.set (o := .lst (vt.set (D.length + j) r0v)) (.inl htaH) ft2
        have ep4 : upd (upd H2 q (.lst [])) ta (.lst (vt.set (D.length + j) r0v)) pa = some (.lst (Pv.map fun p => V.int (p : Nat))) := by rw [upd_ne (Ne.symm ntp)]; exact ep3
        have et4 := upd_same (H := upd H2 q (.lst [])) (a := ta) (o := .lst (vt.set (D.length + j) r0v))
        have pt4 := pr_put pt2 r0R (D.length + j)
        generalize upd (upd H2 q (.lst [])) ta (.lst (vt.set (D.length + j) r0v)) = H4 at z4 ep4 et4
        obtain ⟨xv, hxv, fx, rfl, hfx⟩ := pr_at pb (at0_lt (show c < r.length by omega))
        have hb4 := z4.sub _ _ hb
        have hfx4 := sq_t z4.sub hfx
        refine ⟨_, rfl, _, rfl, b, _, _, _, rfl, rfl, SqL.of hb4, atI_nat hxv, fx, _, _, _, rfl, rfl, hfx4, rfl, _, rfl, _, rfl, b, _, _, _, rfl, rfl, SqL.of hb4, atI_nat hxv, fx, _, _, _, rfl, rfl, hfx4, rfl, two_ok, fun s hs5 => ?_⟩
        have y5 := Fz.nw (o := .tup [.int ((at0 r c).den : Int), .int (at0 r c).num]) z4.sub hs5
        obtain ⟨ip1, ip2⟩ := inv_parts hr0
        refine ⟨fun σ' H' => ∃ (sv : Addr) (F6 : Hp), σ' = [some (.ref a), some (.int (n : Nat)), some (.ref ta), some (.ref pa), some (.int (c : Nat)), some (.ref fa), some (.int (D.length : Nat)), some (.ref b), some (.ref sv), s9, s10, s11, none, none] ∧ Fz N0 H4 F3 H' F6 ∧ IsF K F6 (.ref sv) (at0 r c)⁻¹, ?_, ?_⟩
        · refine ⟨_, rfl, s, _, _, _, rfl, rfl, .inl (.inl upd_same), rfl, _, _, rfl, rfl, _, rfl, ite2 (fun e => ?_) (fun e => ?_)⟩
          · have e := of_decide_eq_true e
            refine ⟨_, rfl, s, _, _, _, rfl, rfl, .inl (.inl upd_same), rfl, _, rfl, _, rfl, s, _, _, _, rfl, rfl, .inl (.inl upd_same), rfl, _, rfl, two_ok, fun s2 hs2 => ?_⟩
            refine ⟨s2, _, rfl, y5.trans (Fz.nw (o := .tup [.int (-((at0 r c).den : Int)), .int (-(at0 r c).num)]) y5.sub hs2), s2, rfl, ?_⟩
            rw [ip1, ip2, if_pos e, if_pos e]
            exact .inl (.inl upd_same)
          · have e : ¬ (at0 r c).num < 0 := fun z => e (decide_eq_true z)
            refine ⟨s, _, rfl, y5, s, rfl, ?_⟩
            rw [ip1, ip2, if_neg e, if_neg e]
            exact .inl (.inl upd_same)
        · rintro σ' H6 ⟨sv, F6, rfl, z6, hsv⟩
          have nr := (bR r hrm).nice (by omega)
          have nsc := ((bR r hrm).sc' hcn).nice (by omega)
          have bsc := (bR r hrm).sc' hcn
          have g46 : Same F3 F6 := z6.grow
          have hb6 := z6.sub _ _ (g46 _ _ hb)
          have z46 := z4.trans z6
          have lsc : (sc c r).length = W := by unfold sc; rw [List.length_map]; exact hrW
          -- row = the row divided
          refine ⟨_, rfl, b, rfl, ⟨_, SqL.of hb6⟩, lc_L (S := N0) (a := b) (xs := vb) (fun i acc F' => Paired (RF K F') acc ((sc c r).take i)) z6.sub (fun _ z => z.elim) hb6 (fun z => z.elim) .nil (by omega) (fun _ => rfl) (fun i acc H7 F7 v7 hv7 z7 p7 S S' hS hS' => ?_) (fun nr' ys H7 F7 hnr z7 e71 e72 p7 => ?_)⟩
          · obtain ⟨x, hx, hxf⟩ := pr_at' pb hv7
            have esc : (sc c r)[i]? = some ((at0 r c)⁻¹ * x) := by rw [sc_get hx, Rat.div_def, Rat.mul_comm]
            have bx : Bt 1400 1400 x := by
              have := nr i
              rw [show at0 r i = x from by unfold at0; rw [List.getD_eq_getElem?_getD, hx]; rfl] at this
              exact this
            have bq : Bt 1400 1400 ((at0 r c)⁻¹ * x) := by
              have := nsc i
              rw [show at0 (sc c r) i = (at0 r c)⁻¹ * x from by unfold at0; rw [List.getD_eq_getElem?_getD, esc]; rfl] at this
              exact this
            refine yes ⟨_, rfl, _, rfl, F7, _, _, _, _, rfl, z7.sub, hsv.up z7.grow, hxf.up (g46.trans z7.grow), ⟨(bt_inv (nr c)).mono (by decide) (by decide), bx.mono (by decide) (by decide), Sl.of bq (by decide)⟩, fun v8 H8 F8 z8 hv8 => hS v8 H8 F8 z8 ?_⟩
            exact pr_take (paired_up upF z8.grow p7) esc hv8
          have p7 := pr_all p7 (show (sc c r).length ≤ vb.length by omega)
          have z47 := z46.trans z7
          have et7 := (z6.trans z7).same _ _ et4
          have ep7 := (z6.trans z7).same _ _ ep4
          have ft7 := (z6.trans z7).outS ft2 et4
          have fp7 := (z6.trans z7).outS fp2 ep4
          have ntr : ta ≠ nr' := ne_of_none (z6.same _ _ et4) hnr
          have npr : pa ≠ nr' := ne_of_none (z6.same _ _ ep4) hnr
          have z8 := z47.freeze (z46.same.free hnr) e71 e72
          have ft8 : upd F7 nr' (.lst ys) ta = none := by rw [upd_ne ntr]; exact ft7
          have fp8 : upd F7 nr' (.lst ys) pa = none := by rw [upd_ne npr]; exact fp7
          have hnr8 := upd_same (H := F7) (a := nr') (o := .lst ys)
          have g78 := same_upd (o := .lst ys) e72
          have p8 := paired_up upF g78 p7
          have g38 : Same F3 (upd F7 nr' (.lst ys)) := (g46.trans z7.grow).trans g78
          have g68 : Same F6 (upd F7 nr' (.lst ys)) := z7.grow.trans g78
          generalize upd F7 nr' (.lst ys) = F8 at z8 ft8 fp8 hnr8 p8 g38 g68
          have lset : (vt.set (D.length + j) r0v).length = D.length + R.length := by rw [List.length_set]; exact lvt
          -- table[at] = row
          refine ⟨_, rfl, _, rfl, _, rfl, ta, _, _, D.length, rfl, rfl, et7, ixN_nat (by omega), ?_⟩
          have z9 := z8.set (o := .lst ((vt.set (D.length + j) r0v).set D.length (.ref nr'))) (.inl htaH) ft8
          have ep9 : upd H7 ta (.lst ((vt.set (D.length + j) r0v).set D.length (.ref nr'))) pa = some (.lst (Pv.map fun p => V.int (p : Nat))) := by rw [upd_ne (Ne.symm ntp)]; exact ep7
          have et9 := upd_same (H := H7) (a := ta) (o := .lst ((vt.set (D.length + j) r0v).set D.length (.ref nr')))
          have rsc : RFs K F8 (.ref nr') (sc c r) := ⟨nr', ys, rfl, hnr8, p8⟩
          have pt9 := pr_put (paired_up upFs g38 pt4) rsc D.length
          rw [swap_tab hr0e hr] at pt9
          have lT2 := outR_len hr
          have lT2' : (D ++ sc c r :: outR R j).length = D.length + R.length := by rw [List.length_append, List.length_cons]; omega
          have lvt9 := pr_len pt9
          rw [lT2'] at lvt9
          have hout : ∀ q ∈ outR R j, q ∈ R := fun q hq => (outR_perm hr).symm.subset (List.mem_cons_of_mem _ hq)
          generalize upd H7 ta (.lst ((vt.set (D.length + j) r0v).set D.length (.ref nr'))) = H9 at z9 ep9 et9
          refine ⟨_, rfl, ta, _, rfl, .inl (SqL.of et9), _, rfl, by omega, by omega, for_range (lo := 0) (fun i σ H' => ∃ (s9 s10 s11 : Option V) (vt' : List V) (F' : Hp), σ = [some (.ref a), some (.int (n : Nat)), some (.ref ta), some (.ref pa), some (.int (c : Nat)), some (.ref fa), some (.int (D.length : Nat)), some (.ref nr'), some (.ref sv), s9, s10, s11, none, none] ∧ Fz N0 H F H' F' ∧ Same F8 F' ∧
            H' ta = some (.lst vt') ∧ F' ta = none ∧ H' pa = some (.lst (Pv.map fun p => V.int (p : Nat))) ∧ F' pa = none ∧ Paired (RFs K F') vt' (clr c D.length (sc c r) (D ++ sc c r :: outR R j) i))
            ⟨_, _, _, _, F8, rfl, z9, Same.refl _, et9, ft8, ep9, fp8, by rw [clr_zero]; exact pt9⟩ (fun i σ H' hi hp => ?_) (fun σ H' hp => ?_)⟩
          · obtain ⟨t9, t10, t11, vt', F', rfl, z, g, et, ft, ep, fp, pt⟩ := hp
            have hi : i < D.length + R.length := by omega
            have e0 : (0 : Int) + (i : Int) = (i : Int) := Int.zero_add _
            simp only [e0]
            have hiT : i < (D ++ sc c r :: outR R j).length := by omega
            obtain ⟨qr, hqr⟩ : ∃ qr, (D ++ sc c r :: outR R j)[i]? = some qr := ⟨_, List.getElem?_eq_getElem hiT⟩
            have hcq : (clr c D.length (sc c r) (D ++ sc c r :: outR R j) i)[i]? = some qr := by
              rw [clr_get, hqr]
              show some (if i < i ∧ i ≠ D.length then _ else qr) = some qr
              rw [if_neg (by omega)]
            refine ⟨_, rfl, _, rfl, rfl, _, rfl, ?_⟩
            by_cases hk : i = D.length
            · have e : (!decide (V.int (i : Int) = V.int ((D.length : Nat) : Int))) = false := by rw [hk]; simp
              rw [e]
              exact iteF (iteF ⟨_, _, _, vt', F', rfl, z, g, et, ft, ep, fp, by rw [clr_same (.inl hk)]; exact pt⟩)
            · have e : (!decide (V.int (i : Int) = V.int ((D.length : Nat) : Int))) = true := by
                rw [decide_eq_false fun q => hk (by have := V.int.inj q; omega)]; rfl
              rw [e]
              have hqm : qr ∈ D ++ outR R j := by
                have := List.mem_of_getElem? hqr
                rcases List.mem_append.mp this with m | m
                · exact List.mem_append_left _ m
                · rcases Nat.lt_or_ge i D.length with h | h
                  · rw [List.getElem?_append_left h] at hqr
                    exact List.mem_append_left _ (List.mem_of_getElem? hqr)
                  · rw [List.getElem?_append_right h] at hqr
                    obtain ⟨m', hm'⟩ : ∃ m', i - D.length = m' + 1 := ⟨i - D.length - 1, by omega⟩
                    rw [hm', List.getElem?_cons_succ] at hqr
                    exact List.mem_append_right _ (List.mem_of_getElem? hqr)
              have hqW : qr.length = W := (List.mem_append.mp hqm).elim (I.wD qr) fun h => I.wR qr (hout qr h)
              have hqB : RowB n c qr := (List.mem_append.mp hqm).elim (bD qr) fun h => bR qr (hout qr h)
              have hqN := hqB.nice (by omega)
              obtain ⟨qv, hqv, rb, vrb, rfl, hrb, prb⟩ := pr_at pt hcq
              have lrb := pr_len prb
              obtain ⟨xw, hxw, fw, rfl, hfw⟩ := pr_at prb (at0_lt (show c < qr.length by omega))
              have hrbH := z.sub _ _ hrb
              refine iteT ⟨_, rfl, _, rfl, ta, _, _, _, rfl, rfl, SqL.of et, atI_nat hqv, _, rfl, rb, _, _, _, rfl, rfl, SqL.of hrbH, atI_nat hxw, fw, _, _, _, rfl, rfl, sq_t z.sub hfw, rfl, rfl, _, rfl, ?_⟩
              by_cases h0 : at0 qr c = 0
              · have e2 : (!decide (V.int (at0 qr c).num = V.int 0)) = false := by rw [(num_zero _).2 h0]; rfl
                rw [e2]
                refine iteF ⟨_, _, _, vt', F', rfl, z, g, et, ft, ep, fp, ?_⟩
                rw [clr_same (.inr fun row er => by rw [hqr] at er; cases er; exact el_zero h0 (by rw [lsc]; exact hqW))]
                exact pt
              · have e2 : (!decide (V.int (at0 qr c).num = V.int 0)) = true := by rw [decide_eq_false (fun q => h0 ((num_zero _).1 (V.int.inj q)))]; rfl
                rw [e2]
                refine iteT ?_
                -- factor, old
                refine ⟨_, rfl, _, rfl, ta, _, _, _, rfl, rfl, SqL.of et, atI_nat hqv, _, rfl, rb, _, _, _, rfl, rfl, SqL.of hrbH, atI_nat hxw, ?_⟩
                refine ⟨_, rfl, _, rfl, ta, _, _, _, rfl, rfl, SqL.of et, atI_nat hqv, ?_⟩
                have hnrH := z.sub _ _ (g _ _ hnr8)
                have lys := pr_len p8
                have hel := (bR r hrm).el' hqB hcn (by rw [lsc]; exact hqW)
                refine ⟨_, rfl, nr', ys, rfl, .inl (SqL.of hnrH), _, rfl, by omega, by omega, lc_R (S := N0) (n := ((ys.length : Nat) : Int).toNat) (fun m acc F2 => Paired (RF K F2) acc ((el c (sc c r) qr).take m)) z.sub (fun _ z => z.elim) .nil (by omega) (fun _ => rfl) (fun m acc H2 F2 hm z2 p S S' hS hS' => ?_) (fun nl yl H2 F2 hnl z2 e1 e2 p => ?_)⟩
                · have e0' : (0 : Int) + (m : Int) = (m : Int) := Int.zero_add _
                  simp only [e0']
                  have hmq : m < qr.length := by omega
                  have hms : m < (sc c r).length := by omega
                  obtain ⟨ov, hov, ovf⟩ := pr_at prb (List.getElem?_eq_getElem hmq)
                  obtain ⟨sv', hsv', svf⟩ := pr_at p8 (List.getElem?_eq_getElem hms)
                  have ge := el_get (c := c) (List.getElem?_eq_getElem hmq) (List.getElem?_eq_getElem hms)
                  have b1 := hqN c
                  have b2 : Bt 1400 1400 (sc c r)[m] := by
                    have := nsc m
                    rw [show at0 (sc c r) m = (sc c r)[m] from by unfold at0; rw [List.getD_eq_getElem?_getD, List.getElem?_eq_getElem hms]; rfl] at this
                    exact this
                  have b3 : Bt 1400 1400 qr[m] := by
                    have := hqN m
                    rw [show at0 qr m = qr[m] from by unfold at0; rw [List.getD_eq_getElem?_getD, List.getElem?_eq_getElem hmq]; rfl] at this
                    exact this
                  have b4 := bt_mul b1 b2
                  have b5 : Bt 1400 1400 (qr[m] - at0 qr c * (sc c r)[m]) := by
                    have := (hel.nice (by omega)) m
                    rw [show at0 (el c (sc c r) qr) m = qr[m] - at0 qr c * (sc c r)[m] from by unfold at0; rw [List.getD_eq_getElem?_getD]; rw [ge]; rfl] at this
                    exact this
                  have gF : Same F8 F2 := g.trans z2.grow
                  refine yes ⟨_, rfl, _, rfl, rb, _, _, _, rfl, rfl, SqL.of (z2.same _ _ hrbH), atI_nat hov, _, rfl, _, rfl, _, rfl, nr', _, _, _, rfl, rfl, SqL.of (z2.same _ _ hnrH), atI_nat hsv', F2, _, _, _, _, rfl, z2.sub, IsF.up ⟨fw, rfl, hfw⟩ z2.grow, svf.up gF, ⟨b1.mono (by decide) (by decide), b2.mono (by decide) (by decide), Sl.of b4 (by decide)⟩, fun v3 H3 F3' z3' hv3 => ?_⟩
                  refine ⟨F3', _, _, _, _, rfl, z3'.sub, (ovf.up z2.grow).up z3'.grow, hv3, ⟨b3.mono (by decide) (by decide), b4.mono (by decide) (by decide), Sl.of b5 (by decide)⟩, fun v4 H5 F5 z5' hv4 => hS v4 H5 F5 (z3'.trans z5') ?_⟩
                  exact pr_take (paired_up upF (z3'.grow.trans z5'.grow) p) ge hv4
                · have p := pr_all p (show (el c (sc c r) qr).length ≤ _ by unfold el; rw [List.length_zipWith]; omega)
                  have et2 := z2.same _ _ et
                  have ep2 := z2.same _ _ ep
                  have ft2' := z2.outS ft et
                  have fp2' := z2.outS fp ep
                  have nt2 : ta ≠ nl := ne_of_none et hnl
                  have np2 : pa ≠ nl := ne_of_none ep hnl
                  have zz := (z.trans z2).freeze (z.same.free hnl) e1 e2
                  have ft3 : upd F2 nl (.lst yl) ta = none := by rw [upd_ne nt2]; exact ft2'
                  have fp3 : upd F2 nl (.lst yl) pa = none := by rw [upd_ne np2]; exact fp2'
                  have g3 := z2.grow.trans (same_upd (o := .lst yl) e2)
                  have lvt' := pr_len pt
                  rw [clr_len, lT2'] at lvt'
                  refine ⟨_, rfl, _, rfl, ta, _, _, i, rfl, rfl, et2, ixN_nat (by omega), ?_⟩
                  refine ⟨_, _, _, _, upd F2 nl (.lst yl), rfl, zz.set (.inl htaH) ft3, g.trans g3, upd_same, ft3, by rw [upd_ne (Ne.symm ntp)]; exact ep2, fp3, ?_⟩
                  rw [clr_set hk hqr]
                  exact pr_put (paired_up upFs g3 pt) ⟨nl, yl, rfl, upd_same, paired_up upF (same_upd e2) p⟩ i
          · obtain ⟨t9, t10, t11, vt', F', rfl, z, g, et, ft, ep, fp, pt⟩ := hp
            have ecl : clr c D.length (sc c r) (D ++ sc c r :: outR R j) (((((vt.set (D.length + j) r0v).set D.length (.ref nr')).length : Nat) : Int).toNat) = (D.map (el c (sc c r)) ++ [sc c r]) ++ (outR R j).map (el c (sc c r)) := by
              rw [Int.toNat_natCast, lvt9, ← lT2', clr_end, List.append_assoc]; rfl
            rw [ecl] at pt
            have stp : Step c D R Pv (D.map (el c (sc c r)) ++ [sc c r]) ((outR R j).map (el c (sc c r))) (Pv ++ [c]) := ⟨.inr ⟨r, outR R j, hr0, outR_perm hr, rfl, rfl, rfl⟩⟩
            have sb := step_bound I.wD I.wR hcn bD bR stp
            refine ⟨_, rfl, .inl ⟨rfl, _, SqL.of ep⟩, _, rfl, pa, _, _, rfl, rfl, ep, small10 (by rw [List.length_map]; omega), ?_⟩
            refine ⟨_, _, _, _, _, _, _, _, vt', F', _, _, Pv ++ [c], rfl, z.set (.inl hpaH) fp, by rw [upd_ne ntp]; exact et, ft, by rw [upd_same, List.map_append]; rfl, fp, pt, I.step (by omega) stp, sb.1, sb.2⟩
      · have he : fnd (D ++ R) c D.length R.length = [] := by
          cases q : decide (fnd (D ++ R) c D.length R.length = []) with
          | true => exact of_decide_eq_true q
          | false => rw [q] at e; exact absurd rfl e
        exact ⟨_, _, _, _, _, _, _, _, vt, F3, D, R, Pv, rfl, z3, y3 _ _ et2, ft2, y3 _ _ ep2, fp2, pt2, I.step (by omega) ⟨.inl ⟨fnd_none he, rfl, rfl, rfl⟩⟩, fun r hr => (bD r hr).up, fun r hr => (bR r hr).up⟩
  · obtain ⟨s4, s5, s6, s7, s8, s9, s10, s11, vt, F', D, R, Pv, rfl, z, et, ft, ep, fp, pt, I, bD, bR⟩ := hp
    rw [show ((n : Nat) : Int).toNat = n from Int.toNat_natCast n] at I
    have z3 := z.freeze htaH et ft
    have fp3 : upd F' ta (.lst vt) pa = none := by rw [upd_ne (Ne.symm ntp)]; exact fp
    have z4 := z3.freeze hpaH ep fp3
    refine ⟨_, rfl, _, rfl, two_ok, fun l hl => ?_⟩
    have z5 := Fz.nw (o := .lst [.ref ta, .ref pa]) z4.sub hl
    have g5 := (same_upd (o := .lst vt) ft).trans ((same_upd (o := .lst (Pv.map fun p => V.int (p : Nat))) fp3).trans z5.grow)
    exact k _ _ _ (z4.trans z5) ⟨l, _, _, D, R, Pv, rfl, upd_same, ⟨ta, vt, rfl, z5.grow _ _ (by rw [upd_ne ntp, upd_same]), paired_up upFs g5 pt⟩, ⟨pa, _, rfl, z5.grow _ _ upd_same, paired_map _ _⟩, I⟩
end
end K3
end
section
set_option Elab.async false
set_option linter.all false
set_option maxRecDepth 100000
set_option exponentiation.threshold 100
namespace K3
open PySem PySem.Spec PyProof.Rows L2
/-! ### _law_ring_answer -/
def lawT (M : List Row) (r : Row) : List Row := (List.range M.length).map fun i => M.getD i [] ++ [at0 r i]
theorem lawT_get {M : List Row} {r : Row} {i : Nat} {m : Row} (h : M[i]? = some m) : (lawT M r)[i]? = some (m ++ [at0 r i]) := by
  have hi := (List.getElem?_eq_some_iff.mp h).1
  unfold lawT
  rw [List.getElem?_map, List.getElem?_range hi]
  show some (M.getD i [] ++ _) = _
  rw [getD_at h]
theorem lawT_len (M : List Row) (r : Row) : (lawT M r).length = M.length := by unfold lawT; rw [List.length_map, List.length_range]
theorem lawT_ext {M : List Row} {r : Row} {n : Nat} (h : ∀ m ∈ M, m.length = n) : Ext n M (lawT M r) := ⟨lawT_len M r, h, fun i m e => ⟨_, lawT_get e⟩⟩
theorem lawT_w {M : List Row} {r : Row} {n : Nat} (h : ∀ m ∈ M, m.length = n) : ∀ t ∈ lawT M r, t.length = n + 1 := fun t ht => by
  obtain ⟨i, hi, rfl⟩ := List.mem_map.mp ht
  have hi := List.mem_range.mp hi
  rw [getD_at (List.getElem?_eq_getElem hi), List.length_append, h _ (List.getElem_mem hi)]; rfl
theorem lawT_B {M : List Row} {r : Row} {n : Nat} (h : ∀ m ∈ M, m.length = n) (hM : ∀ m ∈ M, RowB n 0 m) (hr : ∀ j, Bt 41 42 (at0 r j)) : ∀ t ∈ lawT M r, RowB n 0 t := fun t ht => by
  obtain ⟨i, hi, rfl⟩ := List.mem_map.mp ht
  have hi := List.mem_range.mp hi
  rw [getD_at (List.getElem?_eq_getElem hi)]
  have hl := h _ (List.getElem_mem hi)
  have hb := hM _ (List.getElem_mem hi)
  intro j
  have key : at0 (M[i] ++ [at0 r i]) j = if j < n then at0 M[i] j else if j = n then at0 r i else 0 := by
    unfold at0
    simp only [List.getD_eq_getElem?_getD]
    by_cases h1 : j < n
    · rw [if_pos h1, List.getElem?_append_left (by omega)]
    · rw [if_neg h1, List.getElem?_append_right (by omega)]
      by_cases h2 : j = n
      · rw [if_pos h2, show j - M[i].length = 0 by omega]; rfl
      · rw [if_neg h2]
        obtain ⟨m, hm⟩ : ∃ m, j - M[i].length = m + 1 := ⟨j - M[i].length - 1, by omega⟩
        rw [hm]; rfl
  rw [key]
  refine ⟨fun h1 => by rw [if_pos h1]; exact (hb j).1 h1, fun h1 => ?_⟩
  rw [if_neg (by omega)]
  by_cases h2 : j = n
  · rw [if_pos h2]; exact hr i
  · rw [if_neg h2]; exact bt_zero.mono (by decide) (by decide)
open Classical in
noncomputable def uptoR (p : Str → Prop) (f : Str → Row) : Str → Row := fun n => if p n then f n else []
section
variable {P : Program} {w : World} {K : PySem.W.Frag} {mg : Str → Option Value} {base : Heap}
theorem uptoR_all {p : Str → Prop} {h : Str → Row} (e : ∀ n, ¬ p n → h n = []) : uptoR p h = h := by
  funext n
  unfold uptoR
  by_cases q : p n
  · rw [if_pos q]
  · rw [if_neg q, e n q]
theorem tab_step {f : Str → Row} {F : Hp} {kvs : KVs} {N : Nat} {p p' : Str → Prop} {n : Str} {u : V} (h : DcK (pTab K (uptoR p f)) F kvs N) (hp : ∀ m, p' m ↔ p m ∨ m = n) (hu : RFs K F u (f n)) : DcK (pTab K (uptoR p' f)) F (putK kvs (Sum.inr n) u) (N + 1) := by
  refine ⟨h.1.put (by split <;> omega), fun m => ?_⟩
  rw [valV_putS]
  by_cases e : m = n
  · subst e
    rw [if_pos rfl]
    show RFs K F u (uptoR p' f m)
    unfold uptoR
    rw [if_pos ((hp m).2 (.inr rfl))]
    exact hu
  · rw [if_neg e]
    have q := h.2 m
    have e2 : uptoR p' f m = uptoR p f m := by
      unfold uptoR
      by_cases z : p m
      · rw [if_pos z, if_pos ((hp m).2 (.inl z))]
      · rw [if_neg z, if_neg fun y => ((hp m).1 y).elim z e]
    cases z : valV kvs (Sum.inr m : Key) with
    | none => rw [z] at q; show uptoR p' f m = []; rw [e2]; exact q
    | some v => rw [z] at q; show RFs K F v (uptoR p' f m); rw [e2]; exact q
theorem g_L_form (T : Txt K mg) : ∀ h : Nat, G P w K mg base CX0 (20 + h) "_law_form" p_L_form (spLF K h)
  | 0 => by
    refine G.mk' T.df_L_form T.g_L_form (fun _ _ _ _ _ _ us hl => match us, hl with | [_, _, _, _, _, _], _ => rfl) fun fd F => ?_
    refine FnOk.mono (j := 19 + 1) ?_ (by omega)
    refine F.ok sc_L_form (fun vs H Q E h => ?_) (fun cdv A outer s H vs Q E hr hh => ?_)
    · obtain ⟨_, _, _, _, _, _, _, _, _, _, _, rfl, _⟩ := h
      rfl
    · obtain ⟨_, _, _, _, _, _, _, _, _, _, p, _, _, _, _, _, _, _, _, _, _, _, hh, _⟩ := hh
      cases p <;> simp only [Px.ht] at hh <;> omega
  | h + 1 => lf_succ T (g_L_form T h)
structure BsL (W : Wd Str) (day : Nat) (ring : List Str) (bs : List Bd) : Prop where
  b : BsOk W day ring bs
  l : ∀ b ∈ bs, OkL W day ring b.coupon
  s : Sizes W day ring bs
  ne : ring ≠ []
def RaP (K : PySem.W.Frag) (W : Wd Str) (day : Nat) (ring : List Str) (bs : List Bd) (v : V) (F' : Hp) : Prop := ∃ l, v = .ref l ∧ match sysE W day ring bs with
  | .error n => F' l = some (.lst [.str "straight", .str n])
  | .ok fs => ∃ D R P, SI (ring.length + 1) (lawT (matT (fs.map (rowF ring))) (fs.map (·.2))) ring.length D R P ∧
    ((P.length < ring.length ∧ ∃ m, F' l = some (.lst [.str "many", m]) ∧ RM K F' m (matT (fs.map (rowF ring)))) ∨ (P.length = ring.length ∧ ∃ xs a b, F' l = some (.lst [.str "one", xs, a, b]) ∧ RFs K F' xs (D.map fun d => at0 d ring.length)))
def spRing (K : PySem.W.Frag) : Sp := fun vs H Q _ => ∃ (F : Hp) (bv rg f r : V) (bs : List Bd) (W : Wd Str) (day : Nat) (ring : List Str), vs = [bv, rg, .int (day : Nat), f, r] ∧ Same F H ∧ IsL (BoF K) F bv bs ∧ IsL RS F rg ring ∧ TabF K 20 W.facts F f ∧ TabF K 20 W.rates F r ∧ BsL W day ring bs ∧ Ret N0 H F (RaP K W day ring bs) Q
theorem g_L_ring_answer (T : Txt K mg) : G P w K mg base CX0 30 "_law_ring_answer" p_L_ring_answer (spRing K) := by
  refine G.mk' T.df_L_ring_answer T.g_L_ring_answer (fun _ _ _ _ _ _ us hl => match us, hl with | [_, _, _, _, _], _ => rfl) fun fd F => ?_
  refine F.ok sc_L_ring_answer (fun vs H Q E h => ?_) (fun cdv A outer s H vs Q E hr hh => ?_)
  · obtain ⟨_, _, _, _, _, _, _, _, _, rfl, _⟩ := h
    rfl
  obtain ⟨F, _, _, f, _, bs, W, day, ring, rfl, hs, hb, hrg, tf, tr, ok, k⟩ := hh
  have hb0 := hb
  obtain ⟨ba, vb, rfl, hba, pb⟩ := hb0
  have hrg0 := hrg
  obtain ⟨ga, vg, rfl, hga, pg⟩ := hrg0
  have evg : vg = ring.map V.str := paired_eq pg
  subst evg
  obtain ⟨ra, orr, kr, rfl, hra, hK⟩ := tr
  have lbs : bs.length = ring.length := by rw [← ok.b.nm, List.length_map]
  have hl3 := ok.b.len
  have e0 := hK.1.le
  refine ⟨_, PSs.nox (pss_cons (ps_set (i := 5) sc_L_ring_answer.nd rfl (.inl rfl) pe_dnewK)
  (pss_cons (ps_for PassesOwn.never rfl (pi_keys (pv 4)) (pg_name (i := 6) sc_L_ring_answer.nd rfl (Or.inr rfl))
    (pss_cons (ps_dput (hu_of hr) (pv 5) (pv 6) (pe_dget (hu_of hr) (pv 4) (pv 6) (fun _ _ => rfl)) rfl)
  (pss_one (ps_if (pt_cmpR op_in_seq (pv 6) (pv 1) (by rfl)) (pss_one (ps_dput (hu_of hr) (pv 5) (pv 6) (pe_slice sl_list (pe_dget (hu_of hr) (pv 4) (pv 6) (fun _ _ => rfl)) po_none (po_some (pv 2))) rfl)) pss_nil))))
  (pss_cons (ps_frz (ps_set (i := 7) sc_L_ring_answer.nd rfl (.inr rfl) (pe_lst pa_nil)))
  (pss_cons (ps_set (i := 8) sc_L_ring_answer.nd rfl (.inl rfl) (pe_lst pa_nil))
  (pss_cons (ps_for PassesOwn.never rfl (pi_list (pv 1)) (pg_name (i := 6) sc_L_ring_answer.nd rfl (Or.inr rfl))
    (pss_cons (ps_set (i := 9) sc_L_ring_answer.nd rfl (.inl rfl) (pe_ix ix_list (pe_lc (own := [("_law_row", 14)]) (g := gName 14) rfl sc_L_ring_answer.nd (pi_list (pv 0)) (blkOk_by (own := [("_law_row", 14)]) (N := n_L_ring_answer) (sc := defScope s_L_ring_answer) (by decide +kernel)) (fun _ _ _ _ _ => (pg_name (i := 14) sc_L_ring_answer.nd rfl (Or.inl rfl))) (fun _ _ _ _ _ => (pts_one (pt_cmpR op_eq (pe_fldK (K := K) rfl (pv 14) rfl) (pv 6) (nomark _)))) (fun _ _ _ _ _ => (pv 14))) pe_int (fun _ _ => rfl)))
  (pss_cons (ps_set (i := 10) sc_L_ring_answer.nd rfl (.inr rfl) (pe_g (g_L_form T 6) (hr.mono (by omega)) (by rfl) pass0 (pa_cons (pe_fld (pv 9) rfl) (pa_cons (pe_fld (pv 9) rfl) (pa_cons (pv 2) (pa_cons (pv 3) (pa_cons (pv 5) (pa_cons (pv 1) pa_nil))))))))
  (pss_cons (ps_if (pt_cmpR op_isN (pv 10) pe_non (nomark _)) (pss_one (ps_ret (pe_lst (pa_cons pe_str (pa_cons (pv 6) pa_nil))))) pss_nil)
  (pss_cons (ps_expr (pe_bm PySem.F.plainAttrs_list PySem.F.slot_list_append PySem.F.type_list_append mt_append (pv 7) (pa_cons (pe_lc (own := [("_law_other", 15)]) (g := gName 15) (tt := tYes) rfl sc_L_ring_answer.nd (pi_list (pv 1)) (blkOk_by (own := [("_law_other", 15)]) (N := n_L_ring_answer) (sc := defScope s_L_ring_answer) (by decide +kernel)) (fun _ _ _ _ _ => (pg_name (i := 15) sc_L_ring_answer.nd rfl (Or.inl rfl))) (fun _ _ _ _ _ => pts_nil) (fun _ _ _ _ _ => (pe_dget2 (hu_of hr) (pe_ix (ix_listK (K := K) rfl) (pv 10) pe_int (fun _ _ => rfl)) (pv 15) (pe_tup (pa_cons pe_int (pa_cons pe_int pa_nil))) ⟨rfl, rfl, rfl, rfl⟩))) pa_nil)))
  (pss_one (ps_expr (pe_bm PySem.F.plainAttrs_list PySem.F.slot_list_append PySem.F.type_list_append mt_append (pv 8) (pa_cons (pe_ix ix_list (pv 10) pe_int (fun _ _ => rfl)) pa_nil)))))))))
  (pss_cons (ps_set (i := 11) sc_L_ring_answer.nd rfl (.inl rfl) (pe_lst pa_nil))
  (pss_cons (ps_for PassesOwn.never rfl (pi_range1 (by rfl) T.f_range (pa_cons (pe_callB call_len_seq (by rfl) T.f_len (by decide +kernel) (pa_cons (pv 1) pa_nil)) pa_nil)) (pg_name (i := 12) sc_L_ring_answer.nd rfl (Or.inr rfl))
    (pss_one (ps_expr (pe_bm PySem.F.plainAttrs_list PySem.F.slot_list_append PySem.F.type_list_append mt_append (pv 11) (pa_cons (pe_op op_cat (pe_lc (own := [("_law_j", 16)]) (g := gName 16) (tt := tYes) rfl sc_L_ring_answer.nd (pi_range1 (by rfl) T.f_range (pa_cons (pe_callB call_len_seq (by rfl) T.f_len (by decide +kernel) (pa_cons (pv 1) pa_nil)) pa_nil)) (blkOk_by (own := [("_law_j", 16)]) (N := n_L_ring_answer) (sc := defScope s_L_ring_answer) (by decide +kernel)) (fun _ _ _ _ _ => (pg_name (i := 16) sc_L_ring_answer.nd rfl (Or.inl rfl))) (fun _ _ _ _ _ => pts_nil) (fun _ _ _ _ _ => (pe_g (g_L_minus T) (hr.mono (by omega)) (by rfl) pass0 (pa_cons (pe_tup (pa_cons (pe_callTy call_int1 (by rfl) T.f_int (by decide +kernel) (pa_cons (pe_cmpR op_eq (pv 16) (pv 12) (nomark _)) pa_nil)) (pa_cons pe_int pa_nil))) (pa_cons (pe_ix (ix_listK (K := K) rfl) (pe_ix (ix_listK (K := K) rfl) (pv 7) (pv 12) (fun _ _ => rfl)) (pv 16) (fun _ _ => rfl)) pa_nil))))) (pe_lst (pa_cons (pe_ix ix_list (pv 8) (pv 12) (fun _ _ => rfl)) pa_nil))) pa_nil)))))
  (pss_cons (ps_set (i := 13) sc_L_ring_answer.nd rfl (.inl rfl) (pe_g (g_L_eliminated T) (hr.mono (by omega)) (by rfl) pass0 (pa_cons (pv 11) (pa_cons (pe_callB call_len_seq (by rfl) T.f_len (by decide +kernel) (pa_cons (pv 1) pa_nil)) pa_nil))))
  (pss_cons (ps_if (pt_cmpR op_lt (pe_callB call_len_seq (by rfl) T.f_len (by decide +kernel) (pa_cons (pe_ix ix_list (pv 13) pe_int (fun _ _ => rfl)) pa_nil)) (pe_callB call_len_seq (by rfl) T.f_len (by decide +kernel) (pa_cons (pv 1) pa_nil)) (nomark _)) (pss_one (ps_ret (pe_lst (pa_cons pe_str (pa_cons (pe_lc (own := [("_law_row", 14)]) (g := gName 14) (tt := tYes) rfl sc_L_ring_answer.nd (pi_list (pv 11)) (blkOk_by (own := [("_law_row", 14)]) (N := n_L_ring_answer) (sc := defScope s_L_ring_answer) (by decide +kernel)) (fun _ _ _ _ _ => (pg_name (i := 14) sc_L_ring_answer.nd rfl (Or.inl rfl))) (fun _ _ _ _ _ => pts_nil) (fun _ _ _ _ _ => (pe_slice (sl_listK (K := K) rfl) (pv 14) po_none (po_some (pe_callB (call_len_seqK (K := K) rfl) (by rfl) T.f_len (by decide +kernel) (pa_cons (pv 1) pa_nil)))))) pa_nil))))) pss_nil)
  (pss_one (ps_ret (pe_lst (pa_cons pe_str (pa_cons (pe_lc (own := [("_law_row", 14)]) (g := gName 14) (tt := tYes) rfl sc_L_ring_answer.nd (pi_list (pe_ix ix_list (pv 13) pe_int (fun _ _ => rfl))) (blkOk_by (own := [("_law_row", 14)]) (N := n_L_ring_answer) (sc := defScope s_L_ring_answer) (by decide +kernel)) (fun _ _ _ _ _ => (pg_name (i := 14) sc_L_ring_answer.nd rfl (Or.inl rfl))) (fun _ _ _ _ _ => pts_nil) (fun _ _ _ _ _ => (pe_ix (ix_listK (K := K) rfl) (pv 14) (pe_callB (call_len_seqK (K := K) rfl) (by rfl) T.f_len (by decide +kernel) (pa_cons (pv 1) pa_nil)) (fun _ _ => rfl)))) (pa_cons (pv 7) (pa_cons (pv 8) pa_nil)))))))))))))))), ?_⟩
  refine fun D hD => ?_
  have z1 := Fz.raw (o := .dK []) hs hD
  have hra1 := z1.sub _ _ hra
  refine ⟨_, rfl, ra, orr, rfl, .inl ⟨kr, hra1, for_K (fun i σ H' => ∃ (r6 : Option V) (F' : Hp) (cur : KVs), σ = [some (.ref ba), some (.ref ga), some (.int (day : Nat)), some f, some (.ref ra), some (.ref D), r6, none, none, none, none, none, none, none, none, none, none] ∧ Fz N0 H F H' F' ∧
    H' D = some (.dK cur) ∧ F' D = none ∧ DcK (pTab K (uptoR (fun n => (Sum.inr n : Key) ∈ (kr.take i).map (·.1)) W.rates)) F' cur (2 * i))
    ⟨none, F, [], rfl, z1, upd_same, hs.free hD, DOk.nil, fun n => (by show uptoR _ _ n = []; unfold uptoR; rw [if_neg (by simp)])⟩ (fun i σ H' hp => ?_) (fun i ky v σ H' hkv hp => ?_) (fun σ H' hp => ?_)⟩⟩
  · obtain ⟨_, F', _, rfl, z, _⟩ := hp
    exact z.sub _ _ (z.grow _ _ hra)
  · obtain ⟨r6, F', cur, rfl, z, eD, fD, hC⟩ := hp
    have hv := valV_at hK.1.nd hkv
    obtain ⟨n, en⟩ := hK.1.st _ (valV_mem hv)
    have en : ky = Sum.inr n := en
    subst en
    have hq := hK.2 n
    rw [hv] at hq
    have hi : i < kr.length := (List.getElem?_eq_some_iff.mp hkv).1
    have hraH := z.sub _ _ (z.grow _ _ hra)
    have lc := hC.1.le
    refine ⟨_, rfl, _, rfl, ra, _, rfl, dget_frz hraH hv, _, rfl, _, rfl, D, _, rfl, .inl ⟨cur, Sum.inr n, eD, rfl, small10 (by omega), rfl⟩, ?_⟩
    have z2 := z.set (o := .dK (putK cur (Sum.inr n) v)) (.inl hD) fD
    have hC2 := tab_step hC (mem_keys_succ hkv) (upFs _ _ _ _ z.grow hq)
    have hga2 := z2.sub _ _ (z2.grow _ _ hga)
    refine ⟨_, rfl, _, rfl, ga, _, rfl, .inl (SqL.of hga2), rfl, flat_str ring, _, rfl, ?_⟩
    by_cases hnr : n ∈ ring
    · refine inT (show inV (.str n) (ring.map V.str) = true by rw [inV_str]; exact decide_eq_true hnr) ?_
      obtain ⟨c, vc, rfl, hc, pc⟩ := hq
      have lvc := pr_len pc
      have hrl := ok.b.rl n hnr
      refine ⟨_, rfl, _, rfl, ra, _, rfl, dget_frz (z2.sub _ _ (z2.grow _ _ hra)) hv, _, rfl, _, rfl, c, vc, rfl, SqL.of (z2.sub _ _ (z2.grow _ _ hc)), fun l hl => ?_⟩
      rw [cut_to, List.take_of_length_le (show vc.length ≤ day by omega)]
      have y := Fz.nw (o := .lst vc) z2.sub hl
      have eD3 := y.same _ _ (upd_same (H := H') (a := D) (o := .dK (putK cur (Sum.inr n) (.ref c))))
      have fD3 := y.outS fD (upd_same (H := H') (a := D) (o := .dK (putK cur (Sum.inr n) (.ref c))))
      refine ⟨_, rfl, _, rfl, D, _, rfl, .inl ⟨_, Sum.inr n, eD3, rfl, small10 (by have := hC2.1.le; omega), rfl⟩, ?_⟩
      refine ⟨_, _, _, rfl, (z2.trans y).set (.inl hD) fD3, upd_same, fD3, ?_⟩
      have := tab_step (p := fun n => (Sum.inr n : Key) ∈ (kr.take (i + 1)).map (·.1)) (p' := fun n => (Sum.inr n : Key) ∈ (kr.take (i + 1)).map (·.1)) (n := n) (u := .ref l) (hC2.up upTab y.grow) (fun m => ⟨.inl, fun h => h.elim id fun h => by rw [h]; exact (mem_keys_succ hkv n).2 (.inr rfl)⟩) ⟨l, vc, rfl, upd_same, paired_up upF (z.grow.trans y.grow) pc⟩
      exact ⟨this.1.mono (by omega), this.2⟩
    · refine inF (show inV (.str n) (ring.map V.str) = false by rw [inV_str]; exact decide_eq_false hnr) ?_
      exact ⟨_, F', _, rfl, z2, upd_same, fD, hC2.1.mono (by omega), hC2.2⟩
  · obtain ⟨r6, F', cur, rfl, z, eD, fD, hC⟩ := hp
    rw [List.take_length, uptoR_all (fun n hn => by
      have : valV kr (Sum.inr n : Key) = none := by
        cases q' : valV kr (Sum.inr n : Key) with
        | none => rfl
        | some u => exact absurd (List.mem_map.mpr ⟨_, valV_mem q', rfl⟩) hn
      have q := hK.2 n
      rw [this] at q
      exact q)] at hC
    refine ⟨D, _, eD, True.intro, fun od => ?_⟩
    have z2 := z.frz (o := .frz od (.dK cur)) hD fD
    have hkn : TabF K 100 W.rates (upd F' D (.frz od (.dK cur))) (.ref D) := ⟨D, od, cur, rfl, upd_same, DcK.up upTab (show DcK (pTab K W.rates) F' cur 100 from ⟨hC.1.mono (by omega), hC.2⟩) (same_upd fD)⟩
    generalize upd F' D (.frz od (.dK cur)) = F2 at z2 hkn
    generalize upd H' D (.frz od (.dK cur)) = H2 at z2
    have g2 := z2.grow
    have hbd : ∀ b ∈ bs, b.name ∈ ring := fun b h => by rw [← ok.b.nm]; exact List.mem_map.mpr ⟨b, h, rfl⟩
    have lvb := pr_len pb
    refine ⟨(by decide : 0 ≤ sizeLine), fun rA hrA => ⟨(by decide : 0 ≤ sizeLine), fun rB hrB => ?_⟩⟩
    have z3 := z2.trans ((Fz.raw (o := .lst []) z2.sub hrA).trans (Fz.raw (o := .lst []) (Fz.raw z2.sub hrA).sub hrB))
    have nab : rA ≠ rB := ne_of_none upd_same hrB
    have hrAH : H rA = none := z2.same.free hrA
    have hrBH : H rB = none := (z2.trans (Fz.raw (o := .lst []) z2.sub hrA)).same.free hrB
    have fA := z2.sub.free hrA
    have fB : F2 rB = none := z2.sub.free (by rw [upd_ne (Ne.symm nab)] at hrB; exact hrB)
    have hgaX := z3.sub _ _ (z3.grow _ _ hga)
    refine ⟨_, rfl, ga, rfl, ⟨_, SqL.of hgaX⟩, for_list (xs := ring.map V.str) (fun i σ H' => ∃ (r6 r9 r10 : Option V) (F' : Hp) (va vc : List V) (gs : List (Fm Str)), σ = [some (.ref ba), some (.ref ga), some (.int (day : Nat)), some f, some (.ref ra), some (.ref D), r6, some (.ref rA), some (.ref rB), r9, r10, none, none, none, none, none, none] ∧ Fz N0 H F H' F' ∧ Same F2 F' ∧
      H' rA = some (.lst va) ∧ H' rB = some (.lst vc) ∧ F' rA = none ∧ F' rB = none ∧ va.length = i ∧ vc.length = i ∧ Paired (RFs K F') va (gs.map (rowF ring)) ∧ Paired (RF K F') vc (gs.map (·.2)) ∧ sysE W day ring bs = (sysE W day ring (bs.drop i)).map (gs ++ ·))
      ⟨_, none, none, F2, [], [], [], rfl, z3, Same.refl _, by rw [upd_ne nab, upd_same], upd_same, fA, fB, rfl, rfl, .nil, .nil, ?_⟩ (fun i σ H' _ hp => ?_) (fun i v σ H' hv hp => ?_) (fun σ H' hp => ?_)⟩
    · rw [List.drop_zero]
      cases sysE W day ring bs <;> rfl
    · obtain ⟨_, _, _, F', _, _, _, rfl, z, _⟩ := hp
      exact SqL.of (z.sub _ _ (z.grow _ _ hga))
    · obtain ⟨r6, r9, r10, F', va, vc, gs, rfl, z, g', ea, eb, fa, fb, la, lb, pa, pb', hsys⟩ := hp
      have hi : i < ring.length := by have := (List.getElem?_eq_some_iff.mp hv).1; rw [List.length_map] at this; exact this
      have hib : i < bs.length := by omega
      obtain ⟨b, hbi⟩ : ∃ b, bs[i]? = some b := ⟨bs[i], List.getElem?_eq_getElem hib⟩
      have hbm := List.mem_of_getElem? hbi
      have eri : ring[i]? = some b.name := by rw [← ok.b.nm, List.getElem?_map, hbi]; rfl
      have ev : v = V.str b.name := by
        rw [List.getElem?_map, eri] at hv
        exact (Option.some.inj hv).symm
      subst ev
      obtain ⟨okc, oht, _⟩ := ok.b.ok b hbm
      have okl := ok.l b hbm
      have gz := z.grow
      obtain ⟨bv, hbv, hbo⟩ := pr_at pb hbi
      have hbaH := z.sub _ _ (gz _ _ hba)
      -- the bond of that name
      refine ⟨_, rfl, ba, rfl, ⟨_, SqL.of hbaH⟩, lc_L (S := N0) (a := ba) (xs := vb) (fun j acc F5 => acc = if i < j then [bv] else []) z.sub (fun _ z => z.elim) hbaH (fun z => z.elim) rfl (by omega) (fun _ => rfl) (fun j acc H5 F5 v5 hv5 z5 p5 S S' hS hS' => ?_) (fun E5 ys H5 F5 hE5 z5 e51 e52 p5 => ?_)⟩
      · obtain ⟨b5, hb5, x5, dx5, fs5, l5, c5, rfl, h51, h52, _⟩ := pr_at' pb hv5
        have hx5 := z5.same _ _ (z.sub _ _ (gz _ _ h51))
        refine ⟨_, rfl, x5, _, dx5, fs5, _, rfl, hx5, T.c_Bond, T.n_Bond_name, h52, _, rfl, rfl, _, rfl, ?_⟩
        have hj : j < ring.length := by have := (List.getElem?_eq_some_iff.mp hb5).1; omega
        have erj : ring[j]? = some b5.name := by rw [← ok.b.nm, List.getElem?_map, hb5]; rfl
        by_cases hji : j = i
        · subst hji
          rw [hbi] at hb5
          cases hb5
          rw [hbv] at hv5
          cases hv5
          refine strT rfl ⟨_, rfl, hS _ H5 F5 (Fz.refl z5.sub) ?_⟩
          rw [p5, if_neg (by omega), if_pos (by omega)]; rfl
        · have hne : b5.name ≠ b.name := fun q => hji ((List.getElem?_inj hj ok.b.nd).mp (by rw [erj, eri, q]))
          refine strF hne (hS' H5 F5 (Fz.refl z5.sub) ?_)
          rw [p5]
          by_cases h6 : i < j
          · rw [if_pos h6, if_pos (by omega)]
          · rw [if_neg h6, if_neg (by omega)]
      rw [if_pos (by omega)] at p5
      subst p5
      refine ⟨E5, _, _, _, rfl, rfl, SqL.of e51, rfl, ?_⟩
      have z05 := z.trans z5
      have ea5 := z5.same _ _ ea
      have eb5 := z5.same _ _ eb
      have fa5 := z5.outS fa ea
      have fb5 := z5.outS fb eb
      have hbo5 := upBo _ _ _ _ z05.grow hbo
      obtain ⟨xb, dxb, fsb, l, c, rfl, hxb, hn1, hn2, hn3, hl, hc⟩ := hbo5
      have hxbH := z05.sub _ _ hxb
      refine ⟨_, rfl, xb, _, dxb, fsb, _, rfl, hxbH, T.c_Bond, T.n_Bond_coupon, hn3, _, rfl, xb, _, dxb, fsb, _, rfl, hxbH, T.c_Bond, T.n_Bond_lets, hn2, _, rfl, _, rfl, _, rfl, _, rfl, ?_⟩
      refine ⟨F5, c, l, f, _, _, b.pl, W, day, ring, b.coupon, rfl, z05.sub, hl, (tf.up upTab z05.grow).mono (by decide), hkn.up upTab (g'.trans z5.grow), IsL.up upS _ _ _ _ z05.grow hrg, ok.b.nd, by omega, ok.b.wb, hc, okc, oht, by decide, okl, fun fv H6 F6 z6 hfv => ?_⟩
      have z06 := z05.trans z6
      have ed : bs.drop i = b :: bs.drop (i + 1) := by
        rw [List.drop_eq_getElem_cons hib]
        rw [List.getElem?_eq_getElem hib] at hbi
        rw [Option.some.inj hbi]
      rw [ed] at hsys
      cases qf : fm W day ring b.coupon with
      | none =>
        rw [qf] at hfv
        have hfv : fv = .non := hfv
        subst hfv
        have es : sysE W day ring bs = .error b.name := by rw [hsys]; simp only [sysE, qf]; rfl
        refine ⟨_, rfl, rfl, _, rfl, inT rfl ?_⟩
        refine ⟨_, rfl, two_ok, fun q hq => ?_⟩
        have y := Fz.nw (o := .lst [.str "straight", .str b.name]) z06.sub hq
        refine k _ _ _ (z06.trans y) ⟨q, rfl, ?_⟩
        rw [es]; exact upd_same
      | some g =>
        rw [qf] at hfv
        obtain ⟨t, _, c', rfl, ht, ⟨da, od', kvs, rfl, hda, hKf⟩, hc'⟩ := hfv
        refine ⟨_, rfl, rfl, _, rfl, inF rfl ?_⟩
        have ga6 := z06.sub _ _ (z06.grow _ _ hga)
        have ea6 := z6.same _ _ ea5
        have eb6 := z6.same _ _ eb5
        have fa6 := z6.outS fa5 ea5
        have fb6 := z6.outS fb5 eb5
        refine ⟨_, rfl, .inl ⟨rfl, _, SqL.of ea6⟩, _, rfl, ga, rfl, ⟨_, SqL.of ga6⟩, lc_L (S := N0) (a := ga) (xs := ring.map V.str) (fun j acc F5 => Paired (RF K F5) acc ((rowF ring g).take j)) z6.sub (fun _ z => z.elim) ga6 (fun z => z.elim) .nil (by rw [List.length_map]; omega) (fun _ => rfl) (fun j acc H7 F7 v7 hv7 z7 p7 S S' hS hS' => ?_) (fun E7 ys H7 F7 hE7 z7 e71 e72 p7 => ?_)⟩
        · obtain ⟨n7, hn7, rfl⟩ : ∃ n, ring[j]? = some n ∧ v7 = V.str n := by
            rw [List.getElem?_map] at hv7
            cases q : ring[j]? with
            | none => rw [q] at hv7; cases hv7
            | some n => rw [q] at hv7; exact ⟨n, rfl, (Option.some.inj hv7).symm⟩
          have sH := z6.sub.trans z7.same
          refine yes ⟨_, rfl, t, _, _, _, rfl, rfl, SqL.of (sH _ _ ht), rfl, da, rfl, .inl ⟨kvs, .inr ⟨od', sH _ _ hda⟩⟩, _, rfl, two_ok, fun q1 hq1 => ?_⟩
          have y := Fz.nw (o := .tup [.int 0, .int 1]) z7.sub hq1
          refine ⟨_, dget_any (k := Sum.inr n7) (.inr ⟨od', y.same _ _ (sH _ _ hda)⟩), hS _ _ _ y (pr_take (paired_up upF y.grow p7) (x := g.1 n7) ?_ (lco_get (hKf.up upCo z7.grow) (z7.sub.free hq1) n7))⟩
          unfold rowF
          rw [List.getElem?_map, hn7]; rfl
        · have p7 := pr_all p7 (by unfold rowF; rw [List.length_map, List.length_map]; omega)
          have ea7 := z7.same _ _ ea6
          have eb7 := z7.same _ _ eb6
          have fa7 := z7.outS fa6 ea6
          have fb7 := z7.outS fb6 eb6
          have z8 := z7.freeze hE7 e71 e72
          have nra : rA ≠ E7 := fun z => by rw [← z, ea6] at hE7; cases hE7
          have nrb : rB ≠ E7 := fun z => by rw [← z, eb6] at hE7; cases hE7
          refine ⟨rA, va, _, rfl, rfl, ea7, small10 (by omega), ?_⟩
          have f8a : upd F7 E7 (.lst ys) rA = none := by rw [upd_ne nra]; exact fa7
          have f8b : upd F7 E7 (.lst ys) rB = none := by rw [upd_ne nrb]; exact fb7
          have z9 := (z06.trans z8).set (o := .lst (va ++ [.ref E7])) (.inl hrAH) f8a
          have eb9 : upd H7 rA (.lst (va ++ [.ref E7])) rB = some (.lst vc) := by rw [upd_ne (Ne.symm nab)]; exact eb7
          refine ⟨_, rfl, .inl ⟨rfl, _, SqL.of eb9⟩, _, rfl, t, _, _, _, rfl, rfl, SqL.of (z9.sub _ _ (z8.grow _ _ ht)), rfl, rB, vc, _, rfl, rfl, eb9, small10 (by omega), ?_⟩
          have z10 := z9.set (o := .lst (vc ++ [c'])) (.inl hrBH) f8b
          have g68 : Same F' (upd F7 E7 (.lst ys)) := z5.grow.trans (z6.grow.trans z8.grow)
          refine ⟨_, _, _, upd F7 E7 (.lst ys), va ++ [.ref E7], vc ++ [c'], gs ++ [g], rfl, z10, g'.trans g68, by rw [upd_ne nab, upd_same], upd_same, f8a, f8b, by simp [la], by simp [lb], ?_, ?_, ?_⟩
          · rw [List.map_append]
            exact pr_snoc (paired_up upFs g68 pa) ⟨E7, ys, rfl, upd_same, paired_up upF (same_upd e72) p7⟩
          · rw [List.map_append]
            exact pr_snoc (paired_up upF g68 pb') (hc'.up z8.grow)
          · rw [hsys]
            simp only [sysE, qf]
            cases sysE W day ring (bs.drop (i + 1)) with
            | error e => rfl
            | ok l => show Except.ok (gs ++ g :: l) = Except.ok ((gs ++ [g]) ++ l); rw [List.append_assoc]; rfl
    · obtain ⟨r6, r9, r10, F', va, vc, fs, rfl, z, g', ea, eb, fa, fb, la, lb, pa, pb', hsys⟩ := hp
      rw [List.drop_eq_nil_of_le (by rw [List.length_map]; omega)] at hsys
      have es : sysE W day ring bs = .ok fs := by rw [hsys]; show Except.ok (fs ++ []) = _; rw [List.append_nil]
      have lfs : fs.length = ring.length := by rw [sysE_len es, lbs]
      have hFS := ok.s.f fs es
      have hMB := ok.s.m fs es
      have hRB := ok.s.r fs es
      have z4 := z.freeze hrAH ea fa
      have fb4 : upd F' rA (.lst va) rB = none := by rw [upd_ne (Ne.symm nab)]; exact fb
      have z5 := z4.freeze hrBH eb fb4
      have g5 := (same_upd (o := .lst va) fa).trans (same_upd (o := .lst vc) fb4)
      have hA5 : upd (upd F' rA (.lst va)) rB (.lst vc) rA = some (.lst va) := by rw [upd_ne nab, upd_same]
      have hB5 := upd_same (H := upd F' rA (.lst va)) (a := rB) (o := .lst vc)
      have pa5 := paired_up upFs g5 pa
      have pb5 := paired_up upF g5 pb'
      generalize upd (upd F' rA (.lst va)) rB (.lst vc) = F5 at z5 g5 hA5 hB5 pa5 pb5
      have lva := pr_len pa5
      have lvc := pr_len pb5
      rw [List.length_map] at lva lvc
      have hw : ∀ m ∈ matT (fs.map (rowF ring)), m.length = ring.length := matT_w fun r hr => by
        obtain ⟨g, _, rfl⟩ := List.mem_map.mp hr
        unfold rowF; rw [List.length_map]
      have lM : (matT (fs.map (rowF ring))).length = ring.length := by rw [matT_len, List.length_map, lfs]
      refine ⟨(by decide : 0 ≤ sizeLine), fun tt htt => ?_⟩
      have z6 := z5.trans (Fz.raw (o := .lst []) z5.sub htt)
      have httH : H tt = none := z5.same.free htt
      have hga6 := z6.sub _ _ (z6.grow _ _ hga)
      refine ⟨_, rfl, ga, _, rfl, .inl (SqL.of hga6), _, rfl, by rw [List.length_map]; omega, by rw [List.length_map]; omega, for_range (lo := 0) (fun i σ H' => ∃ (r12 : Option V) (vt : List V) (F' : Hp), σ = [some (.ref ba), some (.ref ga), some (.int (day : Nat)), some f, some (.ref ra), some (.ref D), r6, some (.ref rA), some (.ref rB), r9, r10, some (.ref tt), r12, none, none, none, none] ∧ Fz N0 H F H' F' ∧ Same F5 F' ∧
        H' tt = some (.lst vt) ∧ F' tt = none ∧ Paired (RFs K F') vt ((lawT (matT (fs.map (rowF ring))) (fs.map (·.2))).take i)) ⟨none, [], F5, rfl, z6, Same.refl _, upd_same, z5.sub.free htt, .nil⟩ (fun i σ H' hi hp => ?_) (fun σ H' hp => ?_)⟩
      · obtain ⟨r12, vt, F', rfl, z, g, et, ft, pt⟩ := hp
        have hi : i < ring.length := by rw [List.length_map] at hi; omega
        have e0 : (0 : Int) + (i : Int) = (i : Int) := Int.zero_add _
        simp only [e0]
        obtain ⟨gi, hgi⟩ : ∃ gi, fs[i]? = some gi := ⟨fs[i], List.getElem?_eq_getElem (by omega)⟩
        have hri : (fs.map (rowF ring))[i]? = some (rowF ring gi) := by rw [List.getElem?_map, hgi]; rfl
        have lrow : (rowF ring gi).length = ring.length := by unfold rowF; rw [List.length_map]
        have hmi := matT_get hri
        obtain ⟨rv, hrv, c, vcc, rfl, hc, pc⟩ := pr_at pa5 hri
        have lcc := pr_len pc
        obtain ⟨qv, hqv, qvf⟩ := pr_at pb5 (show (fs.map (·.2))[i]? = some gi.2 by rw [List.getElem?_map, hgi]; rfl)
        have hgaH := z.sub _ _ (z.grow _ _ hga)
        have hAH := z.sub _ _ (g _ _ hA5)
        have hBH := z.sub _ _ (g _ _ hB5)
        have hcH := z.sub _ _ (g _ _ hc)
        have hmB := (hMB _ (List.mem_of_getElem? hmi)).nice (by decide)
        refine ⟨_, rfl, .inl ⟨rfl, _, SqL.of et⟩, _, rfl, ga, _, rfl, .inl (SqL.of hgaH), _, rfl, by rw [List.length_map]; omega, by rw [List.length_map]; omega, lc_R (S := N0) (n := (((ring.map V.str).length : Nat) : Int).toNat) (fun j acc F5 => Paired (RF K F5) acc ((rowT i (rowF ring gi)).take j)) z.sub (fun _ z => z.elim) .nil (by rw [List.length_map]; omega) (fun _ => rfl) (fun j acc H7 F7 hj z7 p7 S S' hS hS' => ?_) (fun E7 ys H7 F7 hE7 z7 e71 e72 p7 => ?_)⟩
        · have e0' : (0 : Int) + (j : Int) = (j : Int) := Int.zero_add _
          simp only [e0']
          have hj : j < ring.length := by rw [List.length_map] at hj; omega
          have hjr : j < (rowF ring gi).length := by omega
          obtain ⟨xv, hxv, xvf⟩ := pr_at pc (List.getElem?_eq_getElem hjr)
          have hrt := rowT_get (i := i) (List.getElem?_eq_getElem hjr)
          obtain ⟨nn, enn⟩ : ∃ n, (rowF ring gi)[j] = gi.1 n := by
            unfold rowF
            exact ⟨_, List.getElem_map _⟩
          have hsm : Sm (rowF ring gi)[j] := by rw [enn]; exact (hFS gi (List.mem_of_getElem? hgi)).f nn
          have bq : Bt 1400 1400 ((if j = i then 1 else 0) - (rowF ring gi)[j]) := by
            have := hmB j
            rw [show at0 (rowT i (rowF ring gi)) j = (if j = i then 1 else 0) - (rowF ring gi)[j] from by unfold at0; rw [List.getD_eq_getElem?_getD, hrt]; rfl] at this
            exact this
          refine yes ⟨_, rfl, _, rfl, rfl, .inr ⟨_, rfl, two_ok, fun p hp => ?_⟩⟩
          have y := Fz.nw (o := .tup [.int (if decide (V.int (j : Int) = V.int (i : Int)) = true then 1 else 0), .int 1]) z7.sub hp
          have idl : IsF K (upd F7 p (.tup [.int (if decide (V.int (j : Int) = V.int (i : Int)) = true then 1 else 0), .int 1])) (.ref p) (if j = i then 1 else 0) := by
            refine ⟨p, rfl, ?_⟩
            by_cases h : j = i
            · rw [if_pos h, if_pos (decide_eq_true (by rw [h]))]; exact .inl (.inl upd_same)
            · rw [if_neg h, if_neg (fun q => h (by have := V.int.inj (of_decide_eq_true q); omega))]; exact .inl (.inl upd_same)
          have sH := z7.same.trans y.same
          refine ⟨_, rfl, _, rfl, rA, _, _, _, rfl, rfl, SqL.of (sH _ _ hAH), atI_nat hrv, _, rfl, c, _, _, _, rfl, rfl, SqL.of (sH _ _ hcH), atI_nat hxv, _, _, _, _, _, rfl, y.sub, idl, xvf.up (g.trans (z7.grow.trans y.grow)), ⟨?_, hsm, Sl.of bq (by decide)⟩, fun v8 H8 F8 z8 hv8 => hS v8 H8 F8 (y.trans z8) (pr_take (paired_up upF (y.grow.trans z8.grow) p7) hrt hv8)⟩
          by_cases h : j = i
          · rw [if_pos h]; exact sm1
          · rw [if_neg h]; exact sm0
        · have p7 := pr_all p7 (by rw [rowT_len, List.length_map]; omega)
          have ly := pr_len p7
          rw [rowT_len, lrow] at ly
          have et7 := z7.same _ _ et
          have hB7 := z7.same _ _ hBH
          refine ⟨_, rfl, _, rfl, rB, _, _, _, rfl, rfl, SqL.of hB7, atI_nat hqv, (by decide : 1 ≤ sizeLine), fun l1 hl1 => ?_⟩
          have y1 := Fz.raw (o := .lst [qv]) z7.sub hl1
          refine ⟨E7, l1, ys, [qv], rfl, rfl, y1.same _ _ e71, upd_same, by simp; exact small10' (by omega), fun l2 hl2 => ?_⟩
          have y2 := y1.trans (Fz.nw (o := .lst (ys ++ [qv])) y1.sub hl2)
          have y := z7.trans y2
          have et9 := y2.same _ _ et7
          have ft9 := y.outS ft et
          have lvt := pr_len pt
          rw [List.length_take, lawT_len, lM] at lvt
          refine ⟨tt, vt, _, rfl, rfl, et9, small10 (by omega), ?_⟩
          refine ⟨_, vt ++ [.ref l2], _, rfl, (z.trans y).set (.inl httH) ft9, g.trans y.grow, upd_same, ft9, ?_⟩
          refine pr_take (paired_up upFs y.grow pt) (lawT_get hmi) ⟨l2, _, rfl, upd_same, ?_⟩
          have er : at0 (fs.map (·.2)) i = gi.2 := by unfold at0; rw [List.getD_eq_getElem?_getD, List.getElem?_map, hgi]; rfl
          rw [er]
          exact pr_snoc (paired_up upF y2.grow p7) (qvf.up (g.trans y.grow))
      · obtain ⟨r12, vt, F', rfl, z, g, et, ft, pt⟩ := hp
        have pt := pr_all pt (by rw [lawT_len, lM, List.length_map]; omega)
        have z7 := z.freeze httH et ft
        have g7 := g.trans (same_upd (o := .lst vt) ft)
        have rt : RM K (upd F' tt (.lst vt)) (.ref tt) (lawT (matT (fs.map (rowF ring))) (fs.map (·.2))) := ⟨tt, vt, rfl, upd_same, paired_up upFs (same_upd ft) pt⟩
        have htt7 := upd_same (H := F') (a := tt) (o := .lst vt)
        have pt7 := paired_up upFs (same_upd (o := .lst vt) ft) pt
        generalize upd F' tt (.lst vt) = F7 at z7 g7 rt htt7 pt7
        have hga7 := z7.sub _ _ (z7.grow _ _ hga)
        refine ⟨_, rfl, _, rfl, ga, _, rfl, .inl (SqL.of hga7), ?_⟩
        rw [List.length_map]
        refine ⟨F7, _, _, ring.length + 1, ring.length, rfl, z7.sub, rt, lawT_w hw, by omega, hl3, by omega, by rw [lawT_len, lM]; omega, lawT_B hw hMB hRB, fun v H8 F8 z8 hv => ?_⟩
        obtain ⟨l, ta, pa', D', R', P', rfl, hl, hta, hpa, I⟩ := hv
        have z78 := z7.trans z8
        have hga8 := z78.sub _ _ (z78.grow _ _ hga)
        obtain ⟨pad, vp, rfl, hpad, pp⟩ := hpa
        have lvp : vp.length = P'.length := pr_len pp
        have lvt := pr_len pt7
        rw [lawT_len, lM] at lvt
        refine ⟨_, rfl, l, _, _, _, rfl, rfl, SqL.of (z78.sub _ _ hl), rfl, pad, _, rfl, .inl (SqL.of (z78.sub _ _ hpad)), _, rfl, ga, _, rfl, .inl (SqL.of hga8), _, _, rfl, rfl, _, rfl, ite2 (fun e => ?_) (fun e => ?_)⟩
        · have e := of_decide_eq_true e
          rw [List.length_map] at e
          have htt8 := z78.sub _ _ (z8.grow _ _ htt7)
          refine ⟨_, rfl, tt, rfl, ⟨_, SqL.of htt8⟩, lc_L (S := N0) (a := tt) (xs := vt) (fun j acc F9 => Paired (RFs K F9) acc ((matT (fs.map (rowF ring))).take j)) z78.sub (fun _ z => z.elim) htt8 (fun z => z.elim) .nil (by omega) (fun _ => rfl) (fun j acc H9 F9 v9 hv9 z9 p9 S S' hS hS' => ?_) (fun E9 ys H9 F9 hE9 z9 e91 e92 p9 => ?_)⟩
          · have hj : j < ring.length := by have := (List.getElem?_eq_some_iff.mp hv9).1; omega
            obtain ⟨m9, hm9⟩ : ∃ m, (matT (fs.map (rowF ring)))[j]? = some m := ⟨_, List.getElem?_eq_getElem (by omega)⟩
            obtain ⟨q9, hq9, c9, vc9, rfl, hc9, pc9⟩ := pr_at' pt7 hv9
            rw [lawT_get hm9] at hq9
            cases hq9
            have lm9 := hw m9 (List.mem_of_getElem? hm9)
            have sH := z8.grow.trans (z78.sub.trans z9.same)
            refine yes ⟨_, rfl, _, rfl, ga, _, rfl, .inl (SqL.of (z9.same _ _ hga8)), _, rfl, c9, vc9, rfl, SqL.of (sH _ _ hc9), fun l9 hl9 => ?_⟩
            rw [cut_to, List.length_map]
            have y := Fz.nw (o := .lst (vc9.take ring.length)) z9.sub hl9
            refine hS _ _ _ y (pr_take (paired_up upFs y.grow p9) hm9 ⟨l9, _, rfl, upd_same, ?_⟩)
            have this := pr_tk (paired_up upF (z8.grow.trans (z9.grow.trans y.grow)) pc9) ring.length
            have e9 : ∀ x : Rat, (m9 ++ [x]).take ring.length = m9 := fun x => by rw [List.take_append_of_le_length (Nat.le_of_eq lm9.symm), List.take_of_length_le (Nat.le_of_eq lm9)]
            rw [e9] at this
            exact this
          · have p9 := pr_all p9 (by omega)
            have z10 := z9.freeze hE9 e91 e92
            refine ⟨two_ok, fun q hq => ?_⟩
            have y := Fz.nw (o := .lst [.str "many", .ref E9]) z10.sub hq
            refine k _ _ _ (z78.trans (z10.trans y)) ⟨q, rfl, ?_⟩
            rw [es]
            exact ⟨D', R', P', I, .inl ⟨by omega, _, upd_same, upM _ _ _ _ y.grow ⟨E9, ys, rfl, upd_same, paired_up upFs (same_upd e92) p9⟩⟩⟩
        · have e : ¬ ((vp.length : Int) < ((ring.map V.str).length : Int)) := fun z => e (decide_eq_true z)
          rw [List.length_map] at e
          have hPl : P'.length = ring.length := by have := I.le; omega
          have hR : R' = [] := by
            have h1 := I.tot
            have h2 := I.len
            rw [lawT_len, lM] at h1
            exact List.eq_nil_of_length_eq_zero (by omega)
          subst hR
          rw [List.append_nil] at hta
          obtain ⟨tad, vta, rfl, htad, pta⟩ := hta
          have ltd := pr_len pta
          have lD : D'.length = ring.length := by have := I.len; omega
          have htad8 := z78.sub _ _ htad
          refine ⟨_, rfl, l, _, _, _, rfl, rfl, SqL.of (z78.sub _ _ hl), rfl, tad, rfl, ⟨_, SqL.of htad8⟩, lc_L (S := N0) (a := tad) (xs := vta) (fun j acc F9 => Paired (RF K F9) acc ((D'.map fun d => at0 d ring.length).take j)) z78.sub (fun _ z => z.elim) htad8 (fun z => z.elim) .nil (by omega) (fun _ => rfl) (fun j acc H9 F9 v9 hv9 z9 p9 S S' hS hS' => ?_) (fun E9 ys H9 F9 hE9 z9 e91 e92 p9 => ?_)⟩
          · obtain ⟨d9, hd9, c9, vc9, rfl, hc9, pc9⟩ := pr_at' pta hv9
            have ld9 := I.wD d9 (List.mem_of_getElem? hd9)
            obtain ⟨xv, hxv, xvf⟩ := pr_at pc9 (at0_lt (show ring.length < d9.length by omega))
            refine yes ⟨_, rfl, _, rfl, ga, _, rfl, .inl (SqL.of (z9.same _ _ hga8)), c9, _, _, _, rfl, rfl, SqL.of (z9.same _ _ (z78.sub _ _ hc9)), ?_, hS xv H9 F9 (Fz.refl z9.sub) (pr_take p9 (by rw [List.getElem?_map, hd9]; rfl) (xvf.up z9.grow))⟩
            rw [List.length_map]
            exact atI_nat hxv
          · have p9 := pr_all p9 (by rw [List.length_map]; omega)
            have z10 := z9.freeze hE9 e91 e92
            refine ⟨_, rfl, _, rfl, (by decide : 4 ≤ sizeLine), fun q hq => ?_⟩
            have y := Fz.nw (o := .lst [.str "one", .ref E9, .ref rA, .ref rB]) z10.sub hq
            refine k _ _ _ (z78.trans (z10.trans y)) ⟨q, rfl, ?_⟩
            rw [es]
            exact ⟨D', [], P', I, .inr ⟨hPl, _, _, _, upd_same, ⟨E9, ys, rfl, y.grow _ _ upd_same, paired_up upF ((same_upd e92).trans y.grow) p9⟩⟩⟩
end
end K3
end
section
set_option Elab.async false
set_option linter.all false
set_option maxRecDepth 100000
set_option exponentiation.threshold 100
namespace K3
open PySem PySem.Spec PyProof.Rows L2
/-! ### expressions drawn -/
/-- what the law's plain expressions are, by depth -/
inductive PG : Nat → Px Str → Prop
  | leaf {n : Nat} (l : Leaf Str) : PG n (.leaf l)
  | ite {n : Nat} (c : Tr Str) {p q : Px Str} : PG n p → PG n q → PG (n + 1) (.ite c p q)
  | mul {n : Nat} (x : Rat) {p : Px Str} : Bt 2 2 x → PG n p → PG (n + 1) (.bin .multiply (.leaf (.num x)) p)
  | bin {n : Nat} (w : BinW) {p q : Px Str} : w ≠ .multiply → PG n p → PG n q → PG (n + 1) (.bin w p q)
theorem PG.zero {p : Px Str} (h : PG 0 p) : ∃ l, p = .leaf l := by cases h; exact ⟨_, rfl⟩
theorem dp_strs {K : PySem.W.Frag} {H : Hp} : ∀ ns : List Str, DpAll K H (ns.map V.str) (ns.map PyData.str)
  | [] => .nil
  | n :: ns => .cons (.str _) (dp_strs ns)
theorem strs_lay : ∀ ns : List Str, (∀ n ∈ ns, PyData.strOk n = true) → PyData.canLayAll0 (ns.map PyData.str) = true
  | [], _ => by simp [PyData.canLayAll0]
  | n :: ns, h => by
    have h1 := h n List.mem_cons_self
    have h2 := strs_lay ns fun m hm => h m (List.mem_cons_of_mem _ hm)
    simp [PyData.canLayAll0, PyData.canLay0, h1, h2]
theorem strs_depth : ∀ ns : List Str, PyData.depthAll (ns.map PyData.str) ≤ 1
  | [] => by simp [PyData.depthAll]
  | n :: ns => by
    have := strs_depth ns
    simp only [List.map_cons, PyData.depthAll, PyData.depth]
    omega
theorem strs_shaped (ns : List Str) (h : ∀ n ∈ ns, PyData.strOk n = true) : SeqAt.shaped (.list (ns.map PyData.str)) = true := shaped_of (by simp only [PyData.canLay0]; exact strs_lay ns h) (by have := strs_depth ns; simp only [PyData.depth]; omega)
theorem strs_eqv : ∀ ns : List Str, PyData.eqv (.list (ns.map PyData.str)) (.list []) = decide (ns = [])
  | [] => by simp [PyData.eqv, PyData.eqvAll]
  | n :: ns => by simp [PyData.eqv, PyData.eqvAll]
abbrev Eqd (d : Addr) : Addr → Prop := fun b => b = d
section
variable {P : Program} {w : World} {K : PySem.W.Frag} {mg : Str → Option Value} {base : Heap}
/-- a tuple laid beside the deck -/
theorem deck_nw {H F : Hp} {d p : Addr} {o : HO} (h : Deck H F d) (hp : H p = none) : Fz (Eqd d) H F (upd H p o) (upd F p o) ∧ Deck (upd H p o) (upd F p o) d := by
  have hs : Same F H := by obtain ⟨_, _, _, _, _, _, _, _, hs⟩ := h; exact hs
  have z := Fz.nw (o := o) hs hp
  exact ⟨z.to, h.mv z (fun z => z)⟩
theorem Deck.sub {H F : Hp} {d : Addr} (h : Deck H F d) : Same F H := by obtain ⟨_, _, _, _, _, _, _, _, hs⟩ := h; exact hs
def DrT (K : PySem.W.Frag) (ring : List Str) (D : Nat) (H F : Hp) (d : Addr) (Q : VK) : Prop := ∀ v H' F' (c : Tr Str), Fz (Eqd d) H F H' F' → Deck H' F' d → TrIn K F' v c → c.Ok ring FT → c.ht ≤ D + 1 → Q v H'
def DrP (K : PySem.W.Frag) (ring : List Str) (D : Nat) (H F : Hp) (d : Addr) (Q : VK) : Prop := ∀ v H' F' (p : Px Str), Fz (Eqd d) H F H' F' → Deck H' F' d → (∀ pl, PxIn K F' pl v p) → PG D p → p.Ok ring FT → p.ht ≤ D + 2 → Q v H'
def spLTruth (K : PySem.W.Frag) (E : Nat) : Sp := fun vs H Q _ => ∃ (F : Hp) (d : Addr) (nv : V) (names ring : List Str) (D : Nat), vs = [.ref d, nv, .int (D : Nat)] ∧ Deck H F d ∧ IsL RS F nv names ∧ (∀ n ∈ names, n ∈ ring) ∧ names.length ≤ 10 ∧ (∀ n ∈ names, PyData.strOk n = true) ∧ D < E ∧ DrT K ring D H F d Q
def spLPlain (K : PySem.W.Frag) (E : Nat) : Sp := fun vs H Q _ => ∃ (F : Hp) (d : Addr) (nv : V) (names ring : List Str) (D : Nat), vs = [.ref d, nv, .int (D : Nat)] ∧ Deck H F d ∧ IsL RS F nv names ∧ (∀ n ∈ names, n ∈ ring) ∧ names.length ≤ 10 ∧ (∀ n ∈ names, PyData.strOk n = true) ∧ D < E ∧ DrP K ring D H F d Q
theorem at_cmp {n : Nat} (h : n < 3) : ∃ wo : CmpW, atI [V.str "less", V.str "atmost", V.str "equal"] (n : Int) = some (.str wo.str) := by
  match n, h with
  | 0, _ => exact ⟨.less, rfl⟩
  | 1, _ => exact ⟨.atmost, rfl⟩
  | 2, _ => exact ⟨.equal, rfl⟩
theorem at_tim {n : Nat} (h : n < 3) : ∃ wo : TimW, atI [V.str "ever", V.str "always", V.str "before"] (n : Int) = some (.str wo.str) := by
  match n, h with
  | 0, _ => exact ⟨.ever, rfl⟩
  | 1, _ => exact ⟨.always, rfl⟩
  | 2, _ => exact ⟨.before, rfl⟩
theorem truth_step (T : Txt K mg) {E : Nat} (ihT : G P w K mg base CX0 (5 + E) "_law_truth" p_L_truth (spLTruth K E)) (ihP : G P w K mg base CX0 5 "_law_plain" p_L_plain (spLPlain K 1)) : G P w K mg base CX0 (5 + (E + 1)) "_law_truth" p_L_truth (spLTruth K (E + 1)) := by
  refine G.mk' T.df_L_truth T.g_L_truth (fun _ _ _ _ _ _ us hl => match us, hl with | [_, _, _], _ => rfl) fun fd F => ?_
  refine FnOk.mono (j := 5 + E + 1) ?_ (by omega)
  refine F.ok sc_L_truth (fun vs H Q E h => ?_) (fun cdv A outer s H vs Q _ hr hh => ?_)
  · obtain ⟨_, _, _, _, _, _, rfl, _⟩ := h
    rfl
  obtain ⟨F, d, nv, names, ring, D, rfl, hd, hn, hsub, hnl, hso, hD, k⟩ := hh
  have one_ok : 1 ≤ sizeLine := by decide
  have three_ok : 3 ≤ sizeLine := by decide
  refine ⟨_, PSs.nox (pss_cons (ps_set (i := 3) sc_L_truth.nd rfl (.inl rfl) (pe_g (g_L_draw T) (hr.mono (by omega)) (by rfl) pass0 (pa_cons (pv 0) (pa_cons pe_int pa_nil))))
  (pss_cons (ps_if (PW.pt (pw_or (pt_cmpR op_eq (pv 2) pe_int (nomark _)) (pw_or1 (pt_cmpR op_eq (pv 3) pe_int (nomark _))))) (pss_one (ps_ret (pe_ix ix_list (pe_lst (pa_cons (pe_tup (pa_cons pe_str pa_nil)) (pa_cons (pe_tup (pa_cons pe_str pa_nil)) pa_nil))) (pe_g (g_L_draw T) (hr.mono (by omega)) (by rfl) pass0 (pa_cons (pv 0) (pa_cons pe_int pa_nil))) (fun _ _ => rfl)))) pss_nil)
  (pss_cons (ps_if (pt_cmpR op_lt (pv 3) pe_int (nomark _)) (pss_cons (ps_set (i := 4) sc_L_truth.nd rfl (.inl rfl) (pe_ix ix_list (pe_lst (pa_cons pe_str (pa_cons pe_str (pa_cons pe_str pa_nil)))) (pe_g (g_L_draw T) (hr.mono (by omega)) (by rfl) pass0 (pa_cons (pv 0) (pa_cons pe_int pa_nil))) (fun _ _ => rfl)))
  (pss_one (ps_ret (pe_tup (pa_cons (pv 4) (pa_cons (pe_g ihP (hr.mono (by omega)) (by rfl) pass0 (pa_cons (pv 0) (pa_cons (pv 1) (pa_cons pe_int pa_nil)))) (pa_cons (pe_g ihP (hr.mono (by omega)) (by rfl) pass0 (pa_cons (pv 0) (pa_cons (pv 1) (pa_cons pe_int pa_nil)))) pa_nil))))))) pss_nil)
  (pss_cons (ps_if (pt_cmpR op_eq (pv 3) pe_int (nomark _)) (pss_one (ps_ret (pe_tup (pa_cons pe_str (pa_cons (pe_g ihT (hr.mono (by omega)) (by rfl) pass0 (pa_cons (pv 0) (pa_cons (pv 1) (pa_cons (pe_op op_sub (pv 2) pe_int) pa_nil)))) pa_nil))))) pss_nil)
  (pss_cons (ps_if (pt_cmpR op_eq (pv 3) pe_int (nomark _)) (pss_cons (ps_set (i := 4) sc_L_truth.nd rfl (.inl rfl) (pe_ix ix_list (pe_lst (pa_cons pe_str (pa_cons pe_str (pa_cons pe_str pa_nil)))) (pe_g (g_L_draw T) (hr.mono (by omega)) (by rfl) pass0 (pa_cons (pv 0) (pa_cons pe_int pa_nil))) (fun _ _ => rfl)))
  (pss_one (ps_ret (pe_tup (pa_cons (pv 4) (pa_cons (pe_op op_add pe_int (pe_g (g_L_draw T) (hr.mono (by omega)) (by rfl) pass0 (pa_cons (pv 0) (pa_cons pe_int pa_nil)))) (pa_cons (pe_g ihT (hr.mono (by omega)) (by rfl) pass0 (pa_cons (pv 0) (pa_cons (pv 1) (pa_cons (pe_op op_sub (pv 2) pe_int) pa_nil)))) pa_nil))))))) pss_nil)
  (pss_cons (ps_set (i := 5) sc_L_truth.nd rfl (.inl rfl) (pe_g ihT (hr.mono (by omega)) (by rfl) pass0 (pa_cons (pv 0) (pa_cons (pv 1) (pa_cons (pe_op op_sub (pv 2) pe_int) pa_nil)))))
  (pss_one (ps_ret (pe_tup (pa_cons (pe_ix ix_list (pe_lst (pa_cons pe_str (pa_cons pe_str pa_nil))) (pe_g (g_L_draw T) (hr.mono (by omega)) (by rfl) pass0 (pa_cons (pv 0) (pa_cons pe_int pa_nil))) (fun _ _ => rfl)) (pa_cons (pv 5) (pa_cons (pe_g ihT (hr.mono (by omega)) (by rfl) pass0 (pa_cons (pv 0) (pa_cons (pv 1) (pa_cons (pe_op op_sub (pv 2) pe_int) pa_nil)))) pa_nil)))))))))))), ?_⟩
  refine ⟨_, rfl, F, d, 8, rfl, hd, by decide, by decide, fun kind H1 hk z1 d1 => ?_⟩
  have boolean : ∀ (H1 F1 : Hp), Fz (Eqd d) H F H1 F1 → Deck H1 F1 d → ∀ p1, H1 p1 = none → ∀ p2, upd H1 p1 (.tup [.str "true"]) p2 = none → ∀ l, upd (upd H1 p1 (.tup [.str "true"])) p2 (.tup [.str "false"]) l = none → ∀ (n : Nat) H5, n < 2 →
      Fz (Eqd d) (upd (upd (upd H1 p1 (.tup [.str "true"])) p2 (.tup [.str "false"])) l (.lst [.ref p1, .ref p2])) (upd (upd (upd F1 p1 (.tup [.str "true"])) p2 (.tup [.str "false"])) l (.lst [.ref p1, .ref p2])) H5 (upd (upd (upd F1 p1 (.tup [.str "true"])) p2 (.tup [.str "false"])) l (.lst [.ref p1, .ref p2])) →
      Deck H5 (upd (upd (upd F1 p1 (.tup [.str "true"])) p2 (.tup [.str "false"])) l (.lst [.ref p1, .ref p2])) d → ∃ v, atI [V.ref p1, V.ref p2] (n : Int) = some v ∧ Q v H5 := by
    intro H1 F1 z d1 p1 hp1 p2 hp2 l hl n H5 hn5 z5 d5
    obtain ⟨y1, e1⟩ := deck_nw (o := .tup [.str "true"]) d1 hp1
    obtain ⟨y2, e2⟩ := deck_nw (o := .tup [.str "false"]) e1 hp2
    obtain ⟨y3, e3⟩ := deck_nw (o := .lst [.ref p1, .ref p2]) e2 hl
    have zz := z.trans (y1.trans (y2.trans (y3.trans z5)))
    match n, hn5 with
    | 0, _ => exact ⟨.ref p1, rfl, k _ _ _ .tru zz d5 ⟨p1, rfl, .inl (.inl (z5.grow _ _ (y3.grow _ _ (y2.grow _ _ upd_same))))⟩ trivial (by simp only [Tr.ht]; omega)⟩
    | 1, _ => exact ⟨.ref p2, rfl, k _ _ _ .fls zz d5 ⟨p2, rfl, .inl (.inl (z5.grow _ _ (y3.grow _ _ upd_same)))⟩ trivial (by simp only [Tr.ht]; omega)⟩
  have k1 : ∀ (H1 F1 : Hp), Fz (Eqd d) H F H1 F1 → Deck H1 F1 d → ∀ p1, H1 p1 = none → ∀ p2, upd H1 p1 (.tup [.str "true"]) p2 = none → ∀ l, upd (upd H1 p1 (.tup [.str "true"])) p2 (.tup [.str "false"]) l = none → Deck (upd (upd (upd H1 p1 (.tup [.str "true"])) p2 (.tup [.str "false"])) l (.lst [.ref p1, .ref p2])) (upd (upd (upd F1 p1 (.tup [.str "true"])) p2 (.tup [.str "false"])) l (.lst [.ref p1, .ref p2])) d := by
    intro H1 F1 z d1 p1 hp1 p2 hp2 l hl
    exact (deck_nw (deck_nw (deck_nw d1 hp1).2 hp2).2 hl).2
  have dec0 : ∀ n m : Nat, decide (V.int (n : Int) = V.int (m : Int)) = decide (n = m) := fun n m => decide_eq_decide.mpr ⟨fun z => by have := V.int.inj z; omega, fun z => by rw [z]⟩
  have hm1 : 1 ≤ D → (D : Int) - 1 = ((D - 1 : Nat) : Int) := fun _ => by omega
  by_cases hz : D = 0
  · refine ⟨_, rfl, rfl, _, rfl, inT (by rw [hz]; rfl) (iteT ?_)⟩
    refine ⟨one_ok, fun p1 hp1 => ⟨one_ok, fun p2 hp2 => ⟨two_ok, fun l hl => ⟨_, rfl, _, d, 2, rfl, k1 H1 F z1 d1 p1 hp1 p2 hp2 l hl, by decide, by decide, fun n H5 hn5 z5 d5 => ?_⟩⟩⟩⟩
    obtain ⟨v, e, q⟩ := boolean H1 F z1 d1 p1 hp1 p2 hp2 l hl n H5 hn5 z5 d5
    exact ⟨l, _, _, _, rfl, rfl, SqL.of (z5.sub _ _ (z5.grow _ _ upd_same)), e, q⟩
  refine ⟨_, rfl, rfl, _, rfl, inF (by rw [show (0 : Int) = ((0 : Nat) : Int) from rfl, dec0]; exact decide_eq_false hz) ?_⟩
  by_cases hk0 : kind = 0
  · refine ⟨_, rfl, rfl, _, rfl, inT (by rw [hk0]; rfl) ?_⟩
    refine ⟨one_ok, fun p1 hp1 => ⟨one_ok, fun p2 hp2 => ⟨two_ok, fun l hl => ⟨_, rfl, _, d, 2, rfl, k1 H1 F z1 d1 p1 hp1 p2 hp2 l hl, by decide, by decide, fun n H5 hn5 z5 d5 => ?_⟩⟩⟩⟩
    obtain ⟨v, e, q⟩ := boolean H1 F z1 d1 p1 hp1 p2 hp2 l hl n H5 hn5 z5 d5
    exact ⟨l, _, _, _, rfl, rfl, SqL.of (z5.sub _ _ (z5.grow _ _ upd_same)), e, q⟩
  refine ⟨_, rfl, rfl, _, rfl, inF (by rw [show (0 : Int) = ((0 : Nat) : Int) from rfl, dec0]; exact decide_eq_false hk0) ?_⟩
  refine ⟨_, rfl, _, _, rfl, rfl, _, rfl, ite2 (fun e => ?_) (fun e => ?_)⟩
  · -- a comparison
    refine ⟨three_ok, fun l hl => ?_⟩
    obtain ⟨y1, d2⟩ := deck_nw (o := .lst [.str "less", .str "atmost", .str "equal"]) d1 hl
    refine ⟨_, rfl, _, d, 3, rfl, d2, by decide, by decide, fun n H3 hn3 z3 d3 => ?_⟩
    obtain ⟨wo, ew⟩ := at_cmp hn3
    refine ⟨l, _, _, _, rfl, rfl, SqL.of (z3.sub _ _ (z3.grow _ _ upd_same)), ew, ?_⟩
    have g1 := z1.trans (y1.trans z3)
    refine ⟨_, rfl, _, rfl, _, rfl, _, d, nv, names, ring, 0, rfl, d3, IsL.up upS _ _ _ _ g1.grow hn, hsub, hnl, hso, by decide, fun v4 H4 F4 p4 z4 d4 e4 pg4 ok4 _ => ?_⟩
    have g2 := g1.trans z4
    refine ⟨_, rfl, _, rfl, F4, d, nv, names, ring, 0, rfl, d4, IsL.up upS _ _ _ _ g2.grow hn, hsub, hnl, hso, by decide, fun v5 H5 F5 p5 z5 d5 e5 pg5 ok5 _ => ?_⟩
    obtain ⟨l4, rfl⟩ := pg4.zero
    obtain ⟨l5, rfl⟩ := pg5.zero
    refine ⟨three_ok, fun q hq => ?_⟩
    obtain ⟨y6, d6⟩ := deck_nw (o := .tup [.str wo.str, v4, v5]) d5 hq
    exact k _ _ _ (.cmp wo l4 l5) (g2.trans (z5.trans y6)) d6 ⟨v4, v5, ⟨q, rfl, .inl (.inl upd_same)⟩, LfIn.up (show LfIn K F4 v4 l4 from e4 none) (z5.grow.trans y6.grow), LfIn.up (show LfIn K F5 v5 l5 from e5 none) y6.grow⟩ ⟨ok4, ok5⟩ (by simp only [Tr.ht]; omega)
  refine ⟨_, rfl, rfl, _, rfl, ite2 (fun e => ?_) (fun e => ?_)⟩
  · -- not
    refine ⟨_, rfl, _, rfl, _, rfl, _, _, rfl, rfl, F, d, nv, names, ring, D - 1, by rw [← hm1 (by omega)]; rfl, d1, hn, hsub, hnl, hso, by omega, fun v4 H4 F4 c4 z4 d4 e4 ok4 ht4 => ?_⟩
    refine ⟨two_ok, fun q hq => ?_⟩
    obtain ⟨y6, d6⟩ := deck_nw (o := .tup [.str "not", v4]) d4 hq
    exact k _ _ _ (.not c4) (z1.trans (z4.trans y6)) d6 ⟨v4, ⟨q, rfl, .inl (.inl upd_same)⟩, e4.up y6.grow⟩ ok4 (by simp only [Tr.ht]; omega)
  refine ⟨_, rfl, rfl, _, rfl, ite2 (fun e => ?_) (fun e => ?_)⟩
  · -- ever, always, before
    refine ⟨three_ok, fun l hl => ?_⟩
    obtain ⟨y1, d2⟩ := deck_nw (o := .lst [.str "ever", .str "always", .str "before"]) d1 hl
    refine ⟨_, rfl, _, d, 3, rfl, d2, by decide, by decide, fun n H3 hn3 z3 d3 => ?_⟩
    obtain ⟨wo, ew⟩ := at_tim hn3
    refine ⟨l, _, _, _, rfl, rfl, SqL.of (z3.sub _ _ (z3.grow _ _ upd_same)), ew, ?_⟩
    have g1 := z1.trans (y1.trans z3)
    refine ⟨_, rfl, _, rfl, _, d, 2, rfl, d3, by decide, by decide, fun m H4 hm4 z4 d4 => ⟨_, _, rfl, rfl, ?_⟩⟩
    have g2 := g1.trans z4
    refine ⟨_, rfl, _, rfl, _, rfl, _, _, rfl, rfl, _, d, nv, names, ring, D - 1, by rw [← hm1 (by omega)]; rfl, d4, IsL.up upS _ _ _ _ g2.grow hn, hsub, hnl, hso, by omega, fun v5 H5 F5 c5 z5 d5 e5 ok5 ht5 => ?_⟩
    refine ⟨three_ok, fun q hq => ?_⟩
    have em : (1 : Int) + (m : Int) = ((1 + m : Nat) : Int) := by omega
    obtain ⟨y6, d6⟩ := deck_nw (o := .tup [.str wo.str, .int ((1 : Int) + (m : Int)), v5]) d5 hq
    refine k _ _ _ (.tim wo (1 + m) c5) (g2.trans (z5.trans y6)) d6 ⟨v5, ⟨q, rfl, ?_⟩, e5.up y6.grow⟩ ⟨by omega, by omega, ok5⟩ (by simp only [Tr.ht]; omega)
    rw [← em]; exact .inl (.inl upd_same)
  -- and, or
  refine ⟨_, rfl, _, rfl, _, rfl, _, _, rfl, rfl, F, d, nv, names, ring, D - 1, by rw [← hm1 (by omega)]; rfl, d1, hn, hsub, hnl, hso, by omega, fun v4 H4 F4 c4 z4 d4 e4 ok4 ht4 => ?_⟩
  have g1 := z1.trans z4
  refine ⟨two_ok, fun l hl => ?_⟩
  obtain ⟨y1, d2⟩ := deck_nw (o := .lst [.str "and", .str "or"]) d4 hl
  refine ⟨_, rfl, _, d, 2, rfl, d2, by decide, by decide, fun n H3 hn3 z3 d3 => ?_⟩
  have g2 := g1.trans (y1.trans z3)
  have g42 := y1.grow.trans z3.grow
  have fin : ∀ (s : Str), atI [V.str "and", V.str "or"] (n : Int) = some (.str s) → (s = "and" ∨ s = "or") → ∃ v, atI [V.str "and", V.str "or"] (n : Int) = some v := fun s h _ => ⟨_, h⟩
  obtain ⟨s, es, hsw⟩ : ∃ s : Str, atI [V.str "and", V.str "or"] (n : Int) = some (.str s) ∧ (s = "and" ∨ s = "or") := by
    match n, hn3 with
    | 0, _ => exact ⟨_, rfl, .inl rfl⟩
    | 1, _ => exact ⟨_, rfl, .inr rfl⟩
  refine ⟨l, _, _, _, rfl, rfl, SqL.of (z3.sub _ _ (z3.grow _ _ upd_same)), es, ?_⟩
  refine ⟨_, rfl, _, rfl, _, rfl, _, rfl, _, _, rfl, rfl, _, d, nv, names, ring, D - 1, by rw [← hm1 (by omega)]; rfl, d3, IsL.up upS _ _ _ _ g2.grow hn, hsub, hnl, hso, by omega, fun v5 H5 F5 c5 z5 d5 e5 ok5 ht5 => ?_⟩
  refine ⟨three_ok, fun q hq => ?_⟩
  obtain ⟨y6, d6⟩ := deck_nw (o := .tup [.str s, v4, v5]) d5 hq
  have gg := g2.trans (z5.trans y6)
  rcases hsw with rfl | rfl
  · exact k _ _ _ (.and c4 c5) gg d6 ⟨v4, v5, ⟨q, rfl, .inl (.inl upd_same)⟩, e4.up (g42.trans (z5.grow.trans y6.grow)), e5.up y6.grow⟩ ⟨ok4, ok5⟩ (by simp only [Tr.ht]; omega)
  · exact k _ _ _ (.or c4 c5) gg d6 ⟨v4, v5, ⟨q, rfl, .inl (.inl upd_same)⟩, e4.up (g42.trans (z5.grow.trans y6.grow)), e5.up y6.grow⟩ ⟨ok4, ok5⟩ (by simp only [Tr.ht]; omega)
end
end K3
end
section
set_option Elab.async false
set_option linter.all false
set_option maxRecDepth 100000
set_option exponentiation.threshold 100
namespace K3
open PySem PySem.Spec PyProof.Rows L2
section
variable {P : Program} {w : World} {K : PySem.W.Frag} {mg : Str → Option Value} {base : Heap}
theorem ofInt_parts (n : Nat) : ((n : Int) : Rat).num = (n : Int) ∧ (((n : Int) : Rat).den : Int) = 1 := ⟨rfl, rfl⟩
theorem plain_step (T : Txt K mg) {E E' lp lt l : Nat} (ihP : G P w K mg base CX0 lp "_law_plain" p_L_plain (spLPlain K E)) (ihT : G P w K mg base CX0 lt "_law_truth" p_L_truth (spLTruth K E')) (hE : 1 ≤ E → 2 ≤ E') (h1 : lp ≤ l) (h2 : lt ≤ l) (h3 : 3 ≤ l) :
    G P w K mg base CX0 (l + 1) "_law_plain" p_L_plain (spLPlain K (E + 1)) := by
  refine G.mk' T.df_L_plain T.g_L_plain (fun _ _ _ _ _ _ us hl => match us, hl with | [_, _, _], _ => rfl) fun fd F => ?_
  refine F.ok sc_L_plain (fun vs H Q E h => ?_) (fun cdv A outer s H vs Q _ hr hh => ?_)
  · obtain ⟨_, _, _, _, _, _, rfl, _⟩ := h
    rfl
  obtain ⟨F, d, nv, names, ring, D, rfl, hd, hn, hsub, hnl, hso, hD, k⟩ := hh
  have hn0 := hn
  obtain ⟨na, vn, rfl, hna, pn⟩ := hn0
  have evn : vn = names.map V.str := paired_eq pn
  subst evn
  have three_ok : 3 ≤ sizeLine := by decide
  have four_ok : 4 ≤ sizeLine := by decide
  have five_ok : 5 ≤ sizeLine := by decide
  have dec0 : ∀ n m : Nat, decide (V.int (n : Int) = V.int (m : Int)) = decide (n = m) := fun n m => decide_eq_decide.mpr ⟨fun z => by have := V.int.inj z; omega, fun z => by rw [z]⟩
  have hm1 : 1 ≤ D → (D : Int) - 1 = ((D - 1 : Nat) : Int) := fun _ => by omega
  refine ⟨_, PSs.nox (pss_cons (ps_set (i := 3) sc_L_plain.nd rfl (.inl rfl) (pe_g (g_L_draw T) (hr.mono (by omega)) (by rfl) pass0 (pa_cons (pv 0) (pa_cons pe_int pa_nil))))
  (pss_cons (ps_if (PW.pt (pw_or (pt_cmpR op_eq (pv 2) pe_int (nomark _)) (pw_or1 (pt_cmpR op_lt (pv 3) pe_int (nomark _))))) (pss_cons (ps_set (i := 3) sc_L_plain.nd rfl (.inl rfl) (pe_g (g_L_draw T) (hr.mono (by omega)) (by rfl) pass0 (pa_cons (pv 0) (pa_cons pe_int pa_nil))))
  (pss_cons (ps_if (PW.pt (pw_or (pt_cmpR op_eq (pv 3) pe_int (nomark _)) (pw_or1 (pt_cmpR (op_eqD hr.units) (pv 1) (pe_lst pa_nil) (nomark _))))) (pss_one (ps_ret (pe_tup (pa_cons pe_str (pa_cons (pe_tup (pa_cons (pe_g (g_L_draw T) (hr.mono (by omega)) (by rfl) pass0 (pa_cons (pv 0) (pa_cons pe_int pa_nil))) (pa_cons pe_int pa_nil))) pa_nil))))) pss_nil)
  (pss_cons (ps_if (pt_cmpR op_eq (pv 3) pe_int (nomark _)) (pss_one (ps_ret (pe_tup (pa_cons pe_str (pa_cons (pe_ix ix_list (pe_lst (pa_cons pe_str (pa_cons pe_str pa_nil))) (pe_g (g_L_draw T) (hr.mono (by omega)) (by rfl) pass0 (pa_cons (pv 0) (pa_cons pe_int pa_nil))) (fun _ _ => rfl)) pa_nil))))) pss_nil)
  (pss_one (ps_ret (pe_tup (pa_cons pe_str (pa_cons (pe_ix ix_list (pv 1) (pe_g (g_L_draw T) (hr.mono (by omega)) (by rfl) pass0 (pa_cons (pv 0) (pa_cons (pe_callB call_len_seq (by rfl) T.f_len (by decide +kernel) (pa_cons (pv 1) pa_nil)) pa_nil))) (fun _ _ => rfl)) pa_nil)))))))) pss_nil)
  (pss_cons (ps_if (pt_cmpR op_eq (pv 3) pe_int (nomark _)) (pss_one (ps_ret (pe_tup (pa_cons pe_str (pa_cons (pe_g ihT (hr.mono (by omega)) (by rfl) pass0 (pa_cons (pv 0) (pa_cons (pv 1) (pa_cons pe_int pa_nil)))) (pa_cons (pe_g ihP (hr.mono (by omega)) (by rfl) pass0 (pa_cons (pv 0) (pa_cons (pv 1) (pa_cons (pe_op op_sub (pv 2) pe_int) pa_nil)))) (pa_cons (pe_g ihP (hr.mono (by omega)) (by rfl) pass0 (pa_cons (pv 0) (pa_cons (pv 1) (pa_cons (pe_op op_sub (pv 2) pe_int) pa_nil)))) pa_nil))))))) pss_nil)
  (pss_cons (ps_if (pt_cmpR op_eq (pv 3) pe_int (nomark _)) (pss_one (ps_ret (pe_tup (pa_cons pe_str (pa_cons (pe_tup (pa_cons pe_str (pa_cons (pe_g (g_L_ratio T) (hr.mono (by omega)) (by rfl) pass0 (pa_cons (pe_g (g_L_draw T) (hr.mono (by omega)) (by rfl) pass0 (pa_cons (pv 0) (pa_cons pe_int pa_nil))) (pa_cons (pe_op op_add pe_int (pe_g (g_L_draw T) (hr.mono (by omega)) (by rfl) pass0 (pa_cons (pv 0) (pa_cons pe_int pa_nil)))) pa_nil))) pa_nil))) (pa_cons (pe_g ihP (hr.mono (by omega)) (by rfl) pass0 (pa_cons (pv 0) (pa_cons (pv 1) (pa_cons (pe_op op_sub (pv 2) pe_int) pa_nil)))) pa_nil)))))) pss_nil)
  (pss_cons (ps_set (i := 4) sc_L_plain.nd rfl (.inl rfl) (pe_g ihP (hr.mono (by omega)) (by rfl) pass0 (pa_cons (pv 0) (pa_cons (pv 1) (pa_cons (pe_op op_sub (pv 2) pe_int) pa_nil)))))
  (pss_cons (ps_set (i := 5) sc_L_plain.nd rfl (.inl rfl) (pe_ix ix_list (pe_lst (pa_cons pe_str (pa_cons pe_str (pa_cons pe_str (pa_cons pe_str (pa_cons pe_str pa_nil)))))) (pe_op op_sub (pv 3) pe_int) (fun _ _ => rfl)))
  (pss_one (ps_ret (pe_tup (pa_cons (pv 5) (pa_cons (pv 4) (pa_cons (pe_g ihP (hr.mono (by omega)) (by rfl) pass0 (pa_cons (pv 0) (pa_cons (pv 1) (pa_cons (pe_op op_sub (pv 2) pe_int) pa_nil)))) pa_nil)))))))))))), ?_⟩
  refine ⟨_, rfl, F, d, 9, rfl, hd, by decide, by decide, fun kind H1 hk z1 d1 => ?_⟩
  have leafy : True := True.intro
  by_cases hz : D = 0 ∨ kind < 2
  · -- a leaf
    have hnz : ¬ decide (V.int (D : Int) = V.int 0) = true → (kind : Int) < 2 := fun e => by
      have : ¬ D = 0 := fun z => e (by rw [z]; rfl)
      omega
    refine ⟨_, rfl, rfl, _, rfl, ite2 (fun e => iteT ?_) (fun e => ⟨_, rfl, _, _, rfl, rfl, _, rfl, inT (decide_eq_true (hnz e)) ?_⟩)⟩
    all_goals
      refine ⟨_, rfl, F, d, 4, rfl, d1, by decide, by decide, fun k2 H2 hk2 z2 d2 => ?_⟩
      have g1 := z1.trans z2
      by_cases hp : k2 = 0 ∨ names = []
      · have hpct : ∀ (H6 : Hp), Fz (Eqd d) H F H6 F → Deck H6 F d → ∀ (m : Nat) (H3 : Hp), m < 9 → Fz (Eqd d) H6 F H3 F → Deck H3 F d → ∀ q1, H3 q1 = none → ∀ q2, upd H3 q1 (.tup [.int (m : Int), .int 1]) q2 = none → Q (.ref q2) (upd (upd H3 q1 (.tup [.int (m : Int), .int 1])) q2 (.tup [.str "percent", .ref q1])) := by
          intro H6 g6 d6 m H3 hm z3 d3 q1 hq1 q2 hq2
          obtain ⟨y4, d4⟩ := deck_nw (o := .tup [.int (m : Int), .int 1]) d3 hq1
          obtain ⟨y5, d5⟩ := deck_nw (o := .tup [.str "percent", .ref q1]) d4 hq2
          refine k _ _ _ (.leaf (.pct ((m : Int) : Rat))) (g6.trans (z3.trans (y4.trans y5))) d5 (fun pl => ⟨.ref q1, ⟨q2, rfl, .inl (.inl upd_same)⟩, q1, rfl, .inl (.inl (y5.grow _ _ upd_same))⟩) (.leaf _) ⟨show ((m : Int) : Rat).num.natAbs ≤ 2 ^ 3 by rw [(ofInt_parts m).1]; omega, show ((m : Int) : Rat).den ≤ 2 ^ 0 from Nat.le_refl 1⟩ (by simp only [Px.ht]; omega)
        by_cases hk20 : k2 = 0
        · refine ⟨_, rfl, rfl, _, rfl, inT (by rw [hk20]; rfl) (iteT ?_)⟩
          exact ⟨_, rfl, F, d, 9, rfl, d2, by decide, by decide, fun m H3 hm z3 d3 => ⟨two_ok, fun q1 hq1 => ⟨two_ok, fun q2 hq2 => hpct H2 g1 d2 m H3 hm z3 d3 q1 hq1 q2 hq2⟩⟩⟩
        · have hne : names = [] := hp.resolve_left hk20
          refine ⟨_, rfl, rfl, _, rfl, inF (by rw [show (0 : Int) = ((0 : Nat) : Int) from rfl, dec0]; exact decide_eq_false hk20) ?_⟩
          refine ⟨_, rfl, (by decide : 0 ≤ sizeLine), fun q hq => ?_⟩
          have y := Fz.raw (o := .lst []) d2.sub hq
          refine ⟨_, _, .lst (SqL.of (y.sub _ _ hna)) (dp_strs names), .lst (SqL.of upd_same) .nil, strs_shaped names hso, by decide +kernel, _, rfl, ?_⟩
          rw [strs_eqv]
          refine inT (decide_eq_true hne) ?_
          have d3 := d2.mv y (fun z => z)
          exact ⟨_, rfl, F, d, 9, rfl, d3, by decide, by decide, fun m H3 hm z3 d3' => ⟨two_ok, fun q1 hq1 => ⟨two_ok, fun q2 hq2 => hpct _ (g1.trans y.to) d3 m H3 hm z3 d3' q1 hq1 q2 hq2⟩⟩⟩
      have hk20 : ¬ k2 = 0 := fun z => hp (.inl z)
      have hne : ¬ names = [] := fun z => hp (.inr z)
      refine ⟨_, rfl, rfl, _, rfl, inF (by rw [show (0 : Int) = ((0 : Nat) : Int) from rfl, dec0]; exact decide_eq_false hk20) ?_⟩
      refine ⟨_, rfl, (by decide : 0 ≤ sizeLine), fun q hq => ?_⟩
      have y := Fz.raw (o := .lst []) d2.sub hq
      have d3 := d2.mv y (fun z => z)
      have g2 := g1.trans y.to
      refine ⟨_, _, .lst (SqL.of (y.sub _ _ hna)) (dp_strs names), .lst (SqL.of upd_same) .nil, strs_shaped names hso, by decide +kernel, _, rfl, ?_⟩
      rw [strs_eqv]
      refine inF (decide_eq_false hne) ?_
      refine ⟨_, rfl, rfl, _, rfl, ite2 (fun e1 => ?_) (fun e1 => ?_)⟩
      · -- a fact
        refine ⟨two_ok, fun l hl => ?_⟩
        obtain ⟨y4, d4⟩ := deck_nw (o := .lst [.str "low", .str "top"]) d3 hl
        refine ⟨_, rfl, _, d, 2, rfl, d4, by decide, by decide, fun m H3 hm z5 d5 => ?_⟩
        obtain ⟨s, es, hsw⟩ : ∃ s : Str, atI [V.str "low", V.str "top"] (m : Int) = some (.str s) ∧ s ∈ FT := by
          match m, hm with
          | 0, _ => exact ⟨_, rfl, List.mem_cons_self⟩
          | 1, _ => exact ⟨_, rfl, List.mem_cons_of_mem _ List.mem_cons_self⟩
        refine ⟨l, _, _, _, rfl, rfl, SqL.of (z5.sub _ _ (z5.grow _ _ upd_same)), es, two_ok, fun q1 hq1 => ?_⟩
        obtain ⟨y6, d6⟩ := deck_nw (o := .tup [.str "fact", .str s]) d5 hq1
        exact k _ _ _ (.leaf (.fact s)) (g2.trans (y4.trans (z5.trans y6))) d6 (fun pl => ⟨q1, rfl, .inl (.inl upd_same)⟩) (.leaf _) hsw (by simp only [Px.ht]; omega)
      · -- a rate
        have hna3 := d3.sub _ _ hna
        have hl0 : 0 < names.length := List.length_pos_iff.mpr hne
        have hlm : (names.map V.str).length = names.length := List.length_map _
        refine ⟨_, rfl, _, rfl, _, rfl, na, _, rfl, .inl (SqL.of hna3), F, d, names.length, by rw [hlm]; rfl, d3, hl0, by omega, fun m H3 hm z5 d5 => ?_⟩
        obtain ⟨nm, hnm⟩ : ∃ nm, names[m]? = some nm := ⟨names[m], List.getElem?_eq_getElem hm⟩
        have es : (names.map V.str)[m]? = some (.str nm) := by rw [List.getElem?_map, hnm]; rfl
        refine ⟨na, _, _, _, rfl, rfl, SqL.of (d5.sub _ _ hna), atI_nat es, two_ok, fun q1 hq1 => ?_⟩
        obtain ⟨y6, d6⟩ := deck_nw (o := .tup [.str "rate", .str nm]) d5 hq1
        exact k _ _ _ (.leaf (.rate nm)) (g2.trans (z5.trans y6)) d6 (fun pl => ⟨q1, rfl, .inl (.inl upd_same)⟩) (.leaf _) (hsub nm (List.mem_of_getElem? hnm)) (by simp only [Px.ht]; omega)
  have hD1 : 1 ≤ D := by omega
  refine ⟨_, rfl, rfl, _, rfl, inF (by rw [show (0 : Int) = ((0 : Nat) : Int) from rfl, dec0]; exact decide_eq_false (by omega)) ?_⟩
  refine ⟨_, rfl, _, _, rfl, rfl, _, rfl, inF (decide_eq_false (by omega)) ?_⟩
  refine ⟨_, rfl, rfl, _, rfl, ite2 (fun e => ?_) (fun e => ?_)⟩
  · -- if
    refine ⟨_, rfl, _, rfl, F, d, _, names, ring, 1, rfl, d1, hn, hsub, hnl, hso, by omega, fun v3 H3 F3 c3 z3 d3 e3 ok3 ht3 => ?_⟩
    have g1 := z1.trans z3
    refine ⟨_, rfl, _, rfl, _, rfl, _, _, rfl, rfl, F3, d, _, names, ring, D - 1, by rw [← hm1 hD1]; rfl, d3, IsL.up upS _ _ _ _ g1.grow hn, hsub, hnl, hso, by omega, fun v4 H4 F4 p4 z4 d4 e4 pg4 ok4 ht4 => ?_⟩
    have g2 := g1.trans z4
    refine ⟨_, rfl, _, rfl, _, rfl, _, _, rfl, rfl, F4, d, _, names, ring, D - 1, by rw [← hm1 hD1]; rfl, d4, IsL.up upS _ _ _ _ g2.grow hn, hsub, hnl, hso, by omega, fun v5 H5 F5 p5 z5 d5 e5 pg5 ok5 ht5 => ?_⟩
    refine ⟨four_ok, fun q hq => ?_⟩
    obtain ⟨y6, d6⟩ := deck_nw (o := .tup [.str "if", v3, v4, v5]) d5 hq
    obtain ⟨D', rfl⟩ : ∃ D', D = D' + 1 := ⟨D - 1, by omega⟩
    exact k _ _ _ (.ite c3 p4 p5) (g2.trans (z5.trans y6)) d6 (fun pl => ⟨v3, v4, v5, ⟨q, rfl, .inl (.inl upd_same)⟩, e3.up (z4.grow.trans (z5.grow.trans y6.grow)), (e4 pl).up (z5.grow.trans y6.grow), (e5 pl).up y6.grow⟩) (.ite c3 pg4 pg5) ⟨ok3, ok4, ok5⟩ (by simp only [Px.ht]; omega)
  refine ⟨_, rfl, rfl, _, rfl, ite2 (fun e => ?_) (fun e => ?_)⟩
  · -- multiply
    refine ⟨_, rfl, F, d, 5, rfl, d1, by decide, by decide, fun m H2 hm z2 d2 => ?_⟩
    refine ⟨_, rfl, F, d, 3, rfl, d2, by decide, by decide, fun n H3 hn3 z3 d3 => ⟨_, _, rfl, rfl, ?_⟩⟩
    have g1 := z1.trans (z2.trans z3)
    have eq : (1 : Int) + (n : Int) = ((1 + n : Nat) : Int) := by omega
    have bx2 : Bt 2 2 (Rat.divInt (m : Int) ((1 : Int) + (n : Int))) := bt_div (by omega) (show (m : Int).natAbs ≤ 2 ^ 2 by omega) (show ((1 : Int) + (n : Int)).natAbs ≤ 2 ^ 2 by omega)
    have bx : Bt 3 3 (Rat.divInt (m : Int) ((1 : Int) + (n : Int))) := bt_div (by omega) (show (m : Int).natAbs ≤ 2 ^ 3 by omega) (show ((1 : Int) + (n : Int)).natAbs ≤ 2 ^ 3 by omega)
    refine ⟨F, _, _, rfl, d3.sub, by omega, Nat.le_trans (show ((1 : Int) + (n : Int)).natAbs ≤ 2 ^ 2 by omega) (Nat.pow_le_pow_right (by decide) (by decide)), Sl.of bx (by decide), fun xv H4 F4 z4 hxv => ?_⟩
    have d4 := d3.mv z4 (fun z => z)
    have g2 := g1.trans z4.to
    refine ⟨two_ok, fun q1 hq1 => ?_⟩
    obtain ⟨y5, d5⟩ := deck_nw (o := .tup [.str "number", xv]) d4 hq1
    have g3 := g2.trans y5
    refine ⟨_, rfl, _, rfl, _, rfl, _, _, rfl, rfl, _, d, _, names, ring, D - 1, by rw [← hm1 hD1]; rfl, d5, IsL.up upS _ _ _ _ g3.grow hn, hsub, hnl, hso, by omega, fun v5 H5 F5 p5 z5 d5' e5 pg5 ok5 ht5 => ?_⟩
    refine ⟨three_ok, fun q hq => ?_⟩
    obtain ⟨y6, d6⟩ := deck_nw (o := .tup [.str "multiply", .ref q1, v5]) d5' hq
    obtain ⟨D', rfl⟩ : ∃ D', D = D' + 1 := ⟨D - 1, by omega⟩
    refine k _ _ _ (.bin .multiply (.leaf (.num (Rat.divInt (m : Int) ((1 : Int) + (n : Int))))) p5) (g3.trans (z5.trans y6)) d6 (fun pl => ⟨.ref q1, v5, ⟨q, rfl, .inl (.inl upd_same)⟩, ⟨xv, ⟨q1, rfl, .inl (.inl (y6.grow _ _ (z5.grow _ _ upd_same)))⟩, hxv.up (y5.grow.trans (z5.grow.trans y6.grow))⟩, (e5 pl).up y6.grow⟩) (.mul _ bx2 pg5) ⟨bx, ok5⟩ (by simp only [Px.ht]; omega)
  -- add, subtract, min, max
  have hkk : 4 ≤ kind := by
    have a1 : ¬ kind = 2 := fun z => by subst z; simp_all
    have a2 : ¬ kind = 3 := fun z => e (decide_eq_true (by rw [z]; rfl))
    omega
  refine ⟨_, rfl, _, rfl, _, rfl, _, _, rfl, rfl, F, d, _, names, ring, D - 1, by rw [← hm1 hD1]; rfl, d1, hn, hsub, hnl, hso, by omega, fun v4 H4 F4 p4 z4 d4 e4 pg4 ok4 ht4 => ?_⟩
  have g1 := z1.trans z4
  refine ⟨five_ok, fun l hl => ?_⟩
  obtain ⟨y5, d5⟩ := deck_nw (o := .lst [.str "add", .str "add", .str "subtract", .str "min", .str "max"]) d4 hl
  obtain ⟨wo, ewo, hwo⟩ : ∃ wo : BinW, atI [V.str "add", V.str "add", V.str "subtract", V.str "min", V.str "max"] ((kind : Int) - 4) = some (.str wo.str) ∧ wo ≠ .multiply := by
    obtain ⟨m, rfl⟩ : ∃ m, kind = m + 4 := ⟨kind - 4, by omega⟩
    have em : ((m + 4 : Nat) : Int) - 4 = (m : Int) := by omega
    rw [em]
    have hm : m < 5 := by omega
    match m, hm with
    | 0, _ => exact ⟨.add, rfl, by decide⟩
    | 1, _ => exact ⟨.add, rfl, by decide⟩
    | 2, _ => exact ⟨.subtract, rfl, by decide⟩
    | 3, _ => exact ⟨.min, rfl, by decide⟩
    | 4, _ => exact ⟨.max, rfl, by decide⟩
  refine ⟨_, rfl, _, _, rfl, rfl, l, _, _, _, rfl, rfl, SqL.of upd_same, ewo, ?_⟩
  have g2 := g1.trans y5
  refine ⟨_, rfl, _, rfl, _, rfl, _, rfl, _, rfl, _, _, rfl, rfl, _, d, _, names, ring, D - 1, by rw [← hm1 hD1]; rfl, d5, IsL.up upS _ _ _ _ g2.grow hn, hsub, hnl, hso, by omega, fun v5 H5 F5 p5 z5 d5' e5 pg5 ok5 ht5 => ?_⟩
  refine ⟨three_ok, fun q hq => ?_⟩
  obtain ⟨y6, d6⟩ := deck_nw (o := .tup [.str wo.str, v4, v5]) d5' hq
  obtain ⟨D', rfl⟩ : ∃ D', D = D' + 1 := ⟨D - 1, by omega⟩
  exact k _ _ _ (.bin wo p4 p5) (g2.trans (z5.trans y6)) d6 (fun pl => ⟨v4, v5, ⟨q, rfl, .inl (.inl upd_same)⟩, (e4 pl).up (y5.grow.trans (z5.grow.trans y6.grow)), (e5 pl).up y6.grow⟩) (.bin wo hwo pg4 pg5) ⟨ok4, ok5⟩ (by simp only [Px.ht]; omega)
end
end K3
end
section
set_option Elab.async false
set_option linter.all false
set_option maxRecDepth 100000
set_option exponentiation.threshold 100
namespace K3
open PySem PySem.Spec PyProof.Rows L2
/-! ### comprehensions that draw -/
theorem Deck.put {H F : Hp} {d D : Addr} {o : HO} (h : Deck H F d) (n : d ≠ D) (f : F D = none) : Deck (upd H D o) F d := by
  obtain ⟨s, ns, i, r, t, h1, h2, h3, h4⟩ := h
  refine ⟨s, ns, i, r, t, by rw [upd_ne n]; exact h1, h2, h3, fun b u e => ?_⟩
  rw [upd_ne (ne_of_none e f)]; exact h4 b u e
theorem Deck.fz {H F : Hp} {d D : Addr} {o : HO} (h : Deck H F d) (e : H D = some o) (n : d ≠ D) (f : F D = none) : Deck H (upd F D o) d := by
  obtain ⟨s, ns, i, r, t, h1, h2, h3, h4⟩ := h
  refine ⟨s, ns, i, r, t, h1, by rw [upd_ne n]; exact h2, by rw [upd_ne (ne_of_none h3 f)]; exact h3, fun b u q => ?_⟩
  by_cases hb : b = D
  · subst hb; rw [upd_same] at q; cases q; exact e
  · rw [upd_ne hb] at q; exact h4 b u q
section
variable {K : PySem.W.Frag} {H F : Hp} {σ : L2.St} {vs : List Nat} {tt : TT} {te : TE} {Qd : Addr → Hp → Prop} {j : Nat} {g : TG} {d : Addr}
theorem lc_anyD {J : It} (n : Nat) (Pv : Nat → List V → Hp → Prop) (hF : Deck H F d) (h0 : Pv 0 [] F)
    (go : ∀ i H' F', i < n → Fz (Eqd d) H F H' F' → Deck H' F' d → J.go i H') (stop : ∀ H' F', Fz (Eqd d) H F H' F' → Deck H' F' d → J.stop n H') (hz : n < 10000)
    (hs : ∀ i acc H' F' x Hx, i < n → Fz (Eqd d) H F H' F' → Deck H' F' d → Pv i acc F' → J.yld i H' x Hx → ∀ (R : V → Hp → Prop) (R' : Hp → Prop), (∀ y H4 F2, Fz (Eqd d) H' F' H4 F2 → Deck H4 F2 d → Pv (i + 1) (acc ++ [y]) F2 → R y H4) → (∀ H3 F2, Fz (Eqd d) H' F' H3 F2 → Deck H3 F2 d → Pv (i + 1) acc F2 → R' H3) →
      g x (wipe σ vs) Hx fun σ2 H2 => wipe σ2 vs = wipe σ vs ∧ tt σ2 H2 fun b H3 => if b = true then te σ2 H3 R else R' H3)
    (hd : ∀ D ys H' F', H D = none → Fz (Eqd d) H F H' F' → Deck H' F' d → H' D = some (.lst ys) → F' D = none → Pv n ys F' → Qd D H') :
    ∀ D, H D = none → ∃ W : Nat → Nat → Hp → Prop, (∃ m, W 0 m (upd H D (.lst []))) ∧ ∀ i m H, W i m H →
      (J.stop i H ∧ Qd D H) ∨ (J.go i H ∧ ∃ Nx : Hp → Prop, (∀ H', Nx H' → ∃ m', m' < m ∧ W (i + 1) m' H') ∧ ∀ x H', J.yld i H x H' → g x (wipe σ vs) H' fun σ2 H2 => wipe σ2 vs = wipe σ vs ∧ tt σ2 H2 fun b H3 =>
        if b = true then te σ2 H3 fun y H4 => ∃ acc, H4 D = some (.lst acc) ∧ acc.length < sizeLine ∧ Nx (upd H4 D (.lst (acc ++ [y]))) else Nx H3) := by
  intro D hD
  have hdd : H d ≠ none := by obtain ⟨s, ns, i, r, t, h1, _⟩ := hF; rw [h1]; simp
  have nd : d ≠ D := fun z => hdd (by rw [z]; exact hD)
  have nD : ¬ Eqd d D := fun z => nd z.symm
  have hFs := hF.sub
  refine ⟨fun i m H' => m = n - i ∧ i ≤ n ∧ ∃ acc F', H' D = some (.lst acc) ∧ acc.length ≤ i ∧ F' D = none ∧ Fz (Eqd d) H F H' F' ∧ Deck H' F' d ∧ Pv i acc F', ⟨n, by simp, Nat.zero_le _, [], F, upd_same, Nat.le_refl _, hFs.free hD, (Fz.raw hFs hD).to, hF.put nd (hFs.free hD), h0⟩, ?_⟩
  rintro i m H' ⟨rfl, hi, acc, F', e1, e2, e3, z, dk, p⟩
  by_cases hlt : i < n
  · refine .inr ⟨go i H' F' hlt z dk, fun H2 => ∃ acc F2, H2 D = some (.lst acc) ∧ acc.length ≤ i + 1 ∧ F2 D = none ∧ Fz (Eqd d) H F H2 F2 ∧ Deck H2 F2 d ∧ Pv (i + 1) acc F2, fun H2 q => ⟨n - (i + 1), by omega, rfl, hlt, q⟩, fun x Hx y => ?_⟩
    refine hs i acc H' F' x Hx hlt z dk p y _ _ (fun y H4 F2 z4 d4 p4 => ?_) (fun H3 F2 z3 d3 p3 => ?_)
    · have eD := z4.keep _ _ nD e1
      refine ⟨acc, eD, Nat.lt_of_le_of_lt e2 (Nat.lt_of_lt_of_le (by omega : i < 10000) (by decide)), acc ++ [y], F2, upd_same, by rw [List.length_append]; simp; omega, z4.outS e3 e1, Fz.set (z.trans z4) (.inl hD) (z4.outS e3 e1), d4.put nd (z4.outS e3 e1), p4⟩
    · exact ⟨acc, F2, z3.keep _ _ nD e1, by omega, z3.outS e3 e1, z.trans z3, d3, p3⟩
  · have e : i = n := by omega
    subst e
    exact .inl ⟨stop H' F' z dk, hd D acc H' F' hD z dk e1 e3 p⟩
theorem lc_LD {a : Addr} {xs : List V} (Pv : Nat → List V → Hp → Prop) (hF : Deck H F d) (ha : H a = some (.lst xs)) (na : a ≠ d) (h0 : Pv 0 [] F) (hz : xs.length < 10000) (hw : ∀ x, wipe ((wipe σ vs).set j (some x)) vs = wipe σ vs)
    (hs : ∀ i acc H' F' x, xs[i]? = some x → Fz (Eqd d) H F H' F' → Deck H' F' d → Pv i acc F' → ∀ (R : V → Hp → Prop) (R' : Hp → Prop), (∀ y H4 F2, Fz (Eqd d) H' F' H4 F2 → Deck H4 F2 d → Pv (i + 1) (acc ++ [y]) F2 → R y H4) → (∀ H3 F2, Fz (Eqd d) H' F' H3 F2 → Deck H3 F2 d → Pv (i + 1) acc F2 → R' H3) →
      tt ((wipe σ vs).set j (some x)) H' fun b H3 => if b = true then te ((wipe σ vs).set j (some x)) H3 R else R' H3)
    (hd : ∀ D ys H' F', H D = none → Fz (Eqd d) H F H' F' → Deck H' F' d → H' D = some (.lst ys) → F' D = none → Pv xs.length ys F' → Qd D H') :
    ∀ D, H D = none → ∃ W : Nat → Nat → Hp → Prop, (∃ m, W 0 m (upd H D (.lst []))) ∧ ∀ i m H, W i m H →
      ((Itl K a).stop i H ∧ Qd D H) ∨ ((Itl K a).go i H ∧ ∃ Nx : Hp → Prop, (∀ H', Nx H' → ∃ m', m' < m ∧ W (i + 1) m' H') ∧ ∀ x H', (Itl K a).yld i H x H' → gName j x (wipe σ vs) H' fun σ2 H2 => wipe σ2 vs = wipe σ vs ∧ tt σ2 H2 fun b H3 =>
        if b = true then te σ2 H3 fun y H4 => ∃ acc, H4 D = some (.lst acc) ∧ acc.length < sizeLine ∧ Nx (upd H4 D (.lst (acc ++ [y]))) else Nx H3) :=
  lc_anyD xs.length Pv hF h0 (fun i H' F' hi z _ => ⟨xs, xs[i], SqL.of (z.keep _ _ na ha), by simp [hi]⟩) (fun H' F' z _ => ⟨xs, SqL.of (z.keep _ _ na ha), Nat.le_refl _⟩) hz
    (fun i acc H' F' x Hx hi z dk p y R R' hR hR' => by
      obtain ⟨e, y⟩ := y
      subst e
      exact ⟨hw x, hs i acc _ F' x (y xs (SqL.of (z.keep _ _ na ha))) z dk p R R' hR hR'⟩) hd
theorem lc_RD {lo : Int} {n : Nat} (Pv : Nat → List V → Hp → Prop) (hF : Deck H F d) (h0 : Pv 0 [] F) (hz : n < 10000) (hw : ∀ x, wipe ((wipe σ vs).set j (some x)) vs = wipe σ vs)
    (hs : ∀ i acc H' F', i < n → Fz (Eqd d) H F H' F' → Deck H' F' d → Pv i acc F' → ∀ (R : V → Hp → Prop) (R' : Hp → Prop), (∀ y H4 F2, Fz (Eqd d) H' F' H4 F2 → Deck H4 F2 d → Pv (i + 1) (acc ++ [y]) F2 → R y H4) → (∀ H3 F2, Fz (Eqd d) H' F' H3 F2 → Deck H3 F2 d → Pv (i + 1) acc F2 → R' H3) →
      tt ((wipe σ vs).set j (some (.int (lo + i)))) H' fun b H3 => if b = true then te ((wipe σ vs).set j (some (.int (lo + i)))) H3 R else R' H3)
    (hd : ∀ D ys H' F', H D = none → Fz (Eqd d) H F H' F' → Deck H' F' d → H' D = some (.lst ys) → F' D = none → Pv n ys F' → Qd D H') :
    ∀ D, H D = none → ∃ W : Nat → Nat → Hp → Prop, (∃ m, W 0 m (upd H D (.lst []))) ∧ ∀ i m H, W i m H →
      ((Itr lo n).stop i H ∧ Qd D H) ∨ ((Itr lo n).go i H ∧ ∃ Nx : Hp → Prop, (∀ H', Nx H' → ∃ m', m' < m ∧ W (i + 1) m' H') ∧ ∀ x H', (Itr lo n).yld i H x H' → gName j x (wipe σ vs) H' fun σ2 H2 => wipe σ2 vs = wipe σ vs ∧ tt σ2 H2 fun b H3 =>
        if b = true then te σ2 H3 fun y H4 => ∃ acc, H4 D = some (.lst acc) ∧ acc.length < sizeLine ∧ Nx (upd H4 D (.lst (acc ++ [y]))) else Nx H3) :=
  lc_anyD n Pv hF h0 (fun i H' F' hi z _ => hi) (fun H' F' z _ => Nat.le_refl _) hz
    (fun i acc H' F' x Hx hi z dk p y R R' hR hR' => by
      obtain ⟨e, y⟩ := y
      subst e y
      exact ⟨hw _, hs i acc _ F' hi z dk p R R' hR hR'⟩) hd
end
section
variable {P : Program} {w : World} {K : PySem.W.Frag} {mg : Str → Option Value} {base : Heap}
theorem G.mono {CX : CXT} {j k : Nat} {x : Str} {ps : List Str} {sp : Sp} (g : G P w K mg base CX j x ps sp) (h : j ≤ k) : G P w K mg base CX k x ps sp := by
  obtain ⟨f, fd, F, r⟩ := g.ex
  exact ⟨f, fd, F.mono h, r⟩
theorem truth0 (T : Txt K mg) : G P w K mg base CX0 1 "_law_truth" p_L_truth (spLTruth K 0) := by
  refine G.mk' T.df_L_truth T.g_L_truth (fun _ _ _ _ _ _ us hl => match us, hl with | [_, _, _], _ => rfl) fun fd F => ?_
  refine F.ok sc_L_truth (fun vs H Q E h => ?_) (fun cdv A outer s H vs Q _ hr hh => ?_)
  · obtain ⟨_, _, _, _, _, _, rfl, _⟩ := h
    rfl
  · obtain ⟨_, _, _, _, _, _, _, _, _, _, _, _, h, _⟩ := hh
    omega
theorem plain0 (T : Txt K mg) : G P w K mg base CX0 1 "_law_plain" p_L_plain (spLPlain K 0) := by
  refine G.mk' T.df_L_plain T.g_L_plain (fun _ _ _ _ _ _ us hl => match us, hl with | [_, _, _], _ => rfl) fun fd F => ?_
  refine F.ok sc_L_plain (fun vs H Q E h => ?_) (fun cdv A outer s H vs Q _ hr hh => ?_)
  · obtain ⟨_, _, _, _, _, _, rfl, _⟩ := h
    rfl
  · obtain ⟨_, _, _, _, _, _, _, _, _, _, _, _, h, _⟩ := hh
    omega
theorem g_L_plain (T : Txt K mg) : G P w K mg base CX0 9 "_law_plain" p_L_plain (spLPlain K 3) := by
  have p1 : G P w K mg base CX0 5 "_law_plain" p_L_plain (spLPlain K 1) := plain_step T (l := 4) (plain0 T) (truth0 T) (by omega) (by omega) (by omega) (by omega)
  have t1 : G P w K mg base CX0 6 "_law_truth" p_L_truth (spLTruth K 1) := truth_step T (E := 0) ((truth0 T).mono (by omega)) p1
  have t2 : G P w K mg base CX0 7 "_law_truth" p_L_truth (spLTruth K 2) := truth_step T (E := 1) t1 p1
  have p2 : G P w K mg base CX0 8 "_law_plain" p_L_plain (spLPlain K 2) := plain_step T (l := 7) p1 t2 (by omega) (by omega) (by omega) (by omega)
  exact plain_step T (l := 8) p2 t2 (by omega) (by omega) (by omega) (by omega)
/-! ### the linear coupons -/
inductive LG (names : List Str) : Nat → Px Str → Prop
  | zero (x : Rat) : LG names 0 (.leaf (.pct x))
  | succ {i : Nat} {p : Px Str} {n : Str} (s : Nat) : LG names i p → names[i]? = some n → s ≤ 6 → LG names (i + 1) (.bin .add p (.bin .multiply (.leaf (.num (Rat.divInt (s : Int) 6))) (.leaf (.rate n))))
def spLinear (K : PySem.W.Frag) : Sp := fun vs H Q _ => ∃ (F : Hp) (d : Addr) (nv : V) (names : List Str) (b : Bool), vs = [.ref d, nv, .bl b] ∧ Deck H F d ∧ IsL RS F nv names ∧ names.length ≤ 3 ∧
  ∀ v H' F' (p : Px Str), Fz (Eqd d) H F H' F' → Deck H' F' d → (∀ pl, PxIn K F' pl v p) → LG names names.length p → p.Ok names FT → p.ht ≤ names.length + 2 → Q v H'
theorem g_L_linear (T : Txt K mg) : G P w K mg base CX0 4 "_law_linear" p_L_linear (spLinear K) := by
  refine G.mk' T.df_L_linear T.g_L_linear (fun _ _ _ _ _ _ us hl => match us, hl with | [_, _, _], _ => rfl) fun fd F => ?_
  refine F.ok sc_L_linear (fun vs H Q E h => ?_) (fun cdv A outer s H vs Q _ hr hh => ?_)
  · obtain ⟨_, _, _, _, _, rfl, _⟩ := h
    rfl
  obtain ⟨F, d, _, names, sg, rfl, hd, ⟨na, vn, rfl, hna, pn⟩, hn3, k⟩ := hh
  have evn : vn = names.map V.str := paired_eq pn
  subst evn
  have hlm : (names.map V.str).length = names.length := List.length_map _
  refine ⟨_, PSs.nox (pss_cons (ps_set (i := 3) sc_L_linear.nd rfl (.inl rfl) pe_int)
  (pss_cons (ps_set (i := 4) sc_L_linear.nd rfl (.inl rfl) (pe_tup (pa_cons pe_str (pa_cons (pe_tup (pa_cons (pe_g (g_L_draw T) (hr.mono (by omega)) (by rfl) pass0 (pa_cons (pv 0) (pa_cons pe_int pa_nil))) (pa_cons pe_int pa_nil))) pa_nil))))
  (pss_cons (ps_for PassesOwn.never rfl (pi_range1 (by rfl) T.f_range (pa_cons (pe_callB call_len_seq (by rfl) T.f_len (by decide +kernel) (pa_cons (pv 1) pa_nil)) pa_nil)) (pg_name (i := 5) sc_L_linear.nd rfl (Or.inl rfl))
    (pss_cons (ps_set (i := 6) sc_L_linear.nd rfl (.inl rfl) (pe_g (g_L_draw T) (hr.mono (by omega)) (by rfl) pass0 (pa_cons (pv 0) (pa_cons (pe_op op_add (pv 3) pe_int) pa_nil))))
  (pss_cut (ps_if (PW.pt (pw_and (pt_val (pv 2)) (pw_and1 (pt_cmpR op_eq (pv 5) (pe_op op_sub (pe_callB call_len_seq (by rfl) T.f_len (by decide +kernel) (pa_cons (pv 1) pa_nil)) pe_int) (nomark _))))) (pss_one (ps_set (i := 6) sc_L_linear.nd rfl (.inl rfl) (pv 3))) pss_nil)
  (pss_cons (ps_set (i := 3) sc_L_linear.nd rfl (.inl rfl) (pe_op op_sub (pv 3) (pv 6)))
  (pss_one (ps_set (i := 4) sc_L_linear.nd rfl (.inl rfl) (pe_tup (pa_cons pe_str (pa_cons (pv 4) (pa_cons (pe_tup (pa_cons pe_str (pa_cons (pe_tup (pa_cons pe_str (pa_cons (pe_g (g_L_ratio T) (hr.mono (by omega)) (by rfl) pass0 (pa_cons (pv 6) (pa_cons pe_int pa_nil))) pa_nil))) (pa_cons (pe_tup (pa_cons pe_str (pa_cons (pe_ix ix_list (pv 1) (pv 5) (fun _ _ => rfl)) pa_nil))) pa_nil)))) pa_nil))))))))))
  (pss_one (ps_ret (pv 4)))))), ?_⟩
  refine ⟨_, rfl, F, d, 9, rfl, hd, by decide, by decide, fun m H1 hm z1 d1 => ⟨two_ok, fun q1 hq1 => ⟨two_ok, fun q2 hq2 => ?_⟩⟩⟩
  obtain ⟨y2, d2⟩ := deck_nw (o := .tup [.int (m : Int), .int 1]) d1 hq1
  obtain ⟨y3, d3⟩ := deck_nw (o := .tup [.str "percent", .ref q1]) d2 hq2
  have g3 := z1.trans (y2.trans y3)
  refine ⟨_, rfl, na, _, rfl, .inl (SqL.of (d3.sub _ _ (g3.grow _ _ hna))), _, rfl, by rw [hlm]; omega, by rw [hlm]; omega, for_range (lo := 0) (fun i σ H' => ∃ (left : Nat) (rv : V) (r5 r6 : Option V) (F' : Hp) (p : Px Str), σ = [some (.ref d), some (.ref na), some (.bl sg), some (.int (left : Nat)), some rv, r5, r6] ∧ left ≤ 6 ∧ Fz (Eqd d) H F H' F' ∧ Deck H' F' d ∧ (∀ pl, PxIn K F' pl rv p) ∧ LG names i p ∧ p.Ok names FT ∧ p.ht ≤ i + 2)
    ⟨6, _, none, none, _, .leaf (.pct ((m : Int) : Rat)), rfl, by omega, g3, d3, fun pl => ⟨.ref q1, ⟨q2, rfl, .inl (.inl upd_same)⟩, q1, rfl, .inl (.inl (y3.grow _ _ upd_same))⟩, .zero _, ⟨show ((m : Int) : Rat).num.natAbs ≤ 2 ^ 3 by rw [(ofInt_parts m).1]; omega, show ((m : Int) : Rat).den ≤ 2 ^ 0 from Nat.le_refl 1⟩, by simp only [Px.ht]; omega⟩ (fun i σ H' hi hp => ?_) (fun σ H' hp => ?_)⟩
  · obtain ⟨left, rv, r5, r6, F', p, rfl, hl6, z, dk, hpx, lg, ok, ht⟩ := hp
    have hi : i < names.length := by omega
    have e0 : (0 : Int) + (i : Int) = (i : Int) := Int.zero_add _
    simp only [e0]
    have el1 : (left : Int) + 1 = ((left + 1 : Nat) : Int) := by omega
    refine ⟨_, rfl, _, rfl, _, _, rfl, rfl, F', d, left + 1, by rw [← el1]; rfl, dk, by omega, by omega, fun m2 H2 hm2 z2 d2 => ?_⟩
    have g2 := z.trans z2
    obtain ⟨nm, hnm⟩ : ∃ nm, names[i]? = some nm := ⟨names[i], List.getElem?_eq_getElem hi⟩
    have es : (names.map V.str)[i]? = some (.str nm) := by rw [List.getElem?_map, hnm]; rfl
    have three_ok : 3 ≤ sizeLine := by decide
    have hnaH := g2.sub _ _ (g2.grow _ _ hna)
    refine ⟨fun σ' H' => ∃ s : Nat, s ≤ left ∧ H' = H2 ∧ σ' = [some (.ref d), some (.ref na), some (.bl sg), some (.int (left : Nat)), some rv, some (.int (i : Nat)), some (.int (s : Nat))], ?_, ?_⟩
    · refine ⟨_, rfl, sg, rfl, ?_⟩
      cases sg with
      | false => exact iteF (iteF ⟨m2, by omega, rfl, rfl⟩)
      | true =>
        refine iteT ⟨_, rfl, _, rfl, na, _, rfl, .inl (SqL.of hnaH), _, _, rfl, rfl, rfl, _, rfl, ite2 (fun e => ?_) (fun e => ?_)⟩
        · exact ⟨_, rfl, left, Nat.le_refl _, rfl, rfl⟩
        · exact ⟨m2, by omega, rfl, rfl⟩
    · rintro σ' H' ⟨s, hs, rfl, rfl⟩
      have els : (left : Int) - (s : Int) = ((left - s : Nat) : Int) := by omega
      have bx : Bt 3 3 (Rat.divInt (s : Int) 6) := bt_div (by decide) (show (s : Int).natAbs ≤ 2 ^ 3 by omega) (by decide)
      refine ⟨_, rfl, _, rfl, _, _, rfl, rfl, ?_⟩
      refine ⟨_, rfl, _, rfl, F', _, _, rfl, d2.sub, by decide, Nat.le_trans (show (6 : Int).natAbs ≤ 2 ^ 3 by decide) (Nat.pow_le_pow_right (by decide) (by decide)), Sl.of bx (by decide), fun xv H3 F3 z3 hxv => ?_⟩
      have d3 := d2.mv z3 (fun z => z)
      refine ⟨two_ok, fun p1 hp1 => ?_⟩
      obtain ⟨y4, d4⟩ := deck_nw (o := .tup [.str "number", xv]) d3 hp1
      have g4 := g2.trans (z3.to.trans y4)
      refine ⟨_, rfl, _, rfl, na, _, _, _, rfl, rfl, SqL.of (g4.sub _ _ (g4.grow _ _ hna)), atI_nat es, two_ok, fun p2 hp2 => ?_⟩
      obtain ⟨y5, d5⟩ := deck_nw (o := .tup [.str "rate", .str nm]) d4 hp2
      refine ⟨three_ok, fun p3 hp3 => ?_⟩
      obtain ⟨y6, d6⟩ := deck_nw (o := .tup [.str "multiply", .ref p1, .ref p2]) d5 hp3
      refine ⟨three_ok, fun p4 hp4 => ?_⟩
      obtain ⟨y7, d7⟩ := deck_nw (o := .tup [.str "add", rv, .ref p3]) d6 hp4
      have g7 := g4.trans (y5.trans (y6.trans y7))
      refine ⟨left - s, _, _, _, _, .bin .add p (.bin .multiply (.leaf (.num (Rat.divInt (s : Int) 6))) (.leaf (.rate nm))), by rw [← els]; rfl, by omega, g7, d7, fun pl => ?_, .succ s lg hnm (by omega), ⟨ok, bx, List.mem_of_getElem? hnm⟩, by simp only [Px.ht]; omega⟩
      refine ⟨rv, .ref p3, ⟨p4, rfl, .inl (.inl upd_same)⟩, (hpx pl).up (z2.grow.trans (z3.grow.trans (y4.grow.trans (y5.grow.trans (y6.grow.trans y7.grow))))), .ref p1, .ref p2, ⟨p3, rfl, .inl (.inl (y7.grow _ _ upd_same))⟩, ⟨xv, ⟨p1, rfl, .inl (.inl (y7.grow _ _ (y6.grow _ _ (y5.grow _ _ upd_same))))⟩, hxv.up (y4.grow.trans (y5.grow.trans (y6.grow.trans y7.grow)))⟩, p2, rfl, .inl (.inl (y7.grow _ _ (y6.grow _ _ upd_same)))⟩
  · obtain ⟨left, rv, r5, r6, F', p, rfl, hl6, z, dk, hpx, lg, ok, ht⟩ := hp
    rw [hlm] at lg ht
    exact ⟨_, rfl, k _ _ _ p z dk hpx lg ok (by have := ht; simp at this; omega)⟩
end
end K3
end
section
set_option Elab.async false
set_option linter.all false
set_option maxRecDepth 100000
set_option exponentiation.threshold 100
namespace K3
open PySem PySem.Spec PyProof.Rows L2
/-! ### expressions as data -/
def lfD : Leaf Str → PyData
  | .pct x => .tuple [.str "percent", frD x]
  | .num x => .tuple [.str "number", frD x]
  | .fact n => .tuple [.str "fact", .str n]
  | .rate n => .tuple [.str "rate", .str n]
def trD : Tr Str → PyData
  | .tru => .tuple [.str "true"]
  | .fls => .tuple [.str "false"]
  | .cmp w a b => .tuple [.str w.str, lfD a, lfD b]
  | .not c => .tuple [.str "not", trD c]
  | .and c d => .tuple [.str "and", trD c, trD d]
  | .or c d => .tuple [.str "or", trD c, trD d]
  | .tim w k c => .tuple [.str w.str, .int (k : Nat), trD c]
def pxD : Px Str → PyData
  | .leaf l => lfD l
  | .ite c p q => .tuple [.str "if", trD c, pxD p, pxD q]
  | .bin w p q => .tuple [.str w.str, pxD p, pxD q]
  | .part _ => .tuple [.str "name", .str "part"]
section
variable {K : PySem.W.Frag} {H : Hp}
theorem dp_tup {v : V} {xs : List V} {ds : List PyData} (h : TpIn K H v xs) (d : DpAll K H xs ds) : Dp K H v (.tuple ds) := by
  obtain ⟨a, rfl, hs⟩ := h
  exact .tup hs d
theorem lfD_dp {v : V} : ∀ {l : Leaf Str}, LfIn K H v l → Dp K H v (lfD l)
  | .pct _, ⟨u, h1, h2⟩ => dp_tup h1 (.cons (.str _) (.cons (dp_f h2) .nil))
  | .num _, ⟨u, h1, h2⟩ => dp_tup h1 (.cons (.str _) (.cons (dp_f h2) .nil))
  | .fact _, h => dp_tup h (.cons (.str _) (.cons (.str _) .nil))
  | .rate _, h => dp_tup h (.cons (.str _) (.cons (.str _) .nil))
theorem trD_dp : ∀ {c : Tr Str} {v : V}, TrIn K H v c → Dp K H v (trD c)
  | .tru, _, h => dp_tup h (.cons (.str _) .nil)
  | .fls, _, h => dp_tup h (.cons (.str _) .nil)
  | .cmp _ _ _, _, ⟨u1, u2, h, h1, h2⟩ => dp_tup h (.cons (.str _) (.cons (lfD_dp h1) (.cons (lfD_dp h2) .nil)))
  | .not _, _, ⟨u, h, h1⟩ => dp_tup h (.cons (.str _) (.cons (trD_dp h1) .nil))
  | .and _ _, _, ⟨u1, u2, h, h1, h2⟩ => dp_tup h (.cons (.str _) (.cons (trD_dp h1) (.cons (trD_dp h2) .nil)))
  | .or _ _, _, ⟨u1, u2, h, h1, h2⟩ => dp_tup h (.cons (.str _) (.cons (trD_dp h1) (.cons (trD_dp h2) .nil)))
  | .tim _ _ _, _, ⟨u, h, h1⟩ => dp_tup h (.cons (.str _) (.cons (.int _) (.cons (trD_dp h1) .nil)))
theorem pxD_dp {pl : Option (Px Str)} : ∀ {p : Px Str} {v : V}, PxIn K H pl v p → Dp K H v (pxD p)
  | .leaf _, _, h => lfD_dp h
  | .ite _ _ _, _, ⟨u0, u1, u2, h, h0, h1, h2⟩ => dp_tup h (.cons (.str _) (.cons (trD_dp h0) (.cons (pxD_dp h1) (.cons (pxD_dp h2) .nil))))
  | .bin _ _ _, _, ⟨u1, u2, h, h1, h2⟩ => dp_tup h (.cons (.str _) (.cons (pxD_dp h1) (.cons (pxD_dp h2) .nil)))
  | .part _, _, ⟨h, _⟩ => dp_tup h (.cons (.str _) (.cons (.str _) .nil))
end
theorem sok (s : Str) (h : PyData.strOk s = true := by decide +kernel) : (PyData.str s).canLay0 = true := by simp only [PyData.canLay0]; exact h
theorem lay_nil : PyData.canLayAll0 [] = true := by simp only [PyData.canLayAll0]
theorem lay_cons {d : PyData} {ds : List PyData} (h : d.canLay0 = true) (h2 : PyData.canLayAll0 ds = true) : PyData.canLayAll0 (d :: ds) = true := by simp only [PyData.canLayAll0, h, h2, Bool.and_self]
theorem lay_tup {ds : List PyData} (h : PyData.canLayAll0 ds = true) : (PyData.tuple ds).canLay0 = true := by simp only [PyData.canLay0]; exact h
theorem lay_int (i : Int) : (PyData.int i).canLay0 = true := by simp only [PyData.canLay0]
theorem cmp_ok (w : CmpW) : (PyData.str w.str).canLay0 = true := by cases w <;> exact sok _
theorem tim_ok (w : TimW) : (PyData.str w.str).canLay0 = true := by cases w <;> exact sok _
theorem bin_ok (w : BinW) : (PyData.str w.str).canLay0 = true := by cases w <;> exact sok _
section
variable {ring : List Str} (hr : ∀ n ∈ ring, PyData.strOk n = true)
include hr
theorem lfD_lay : ∀ {l : Leaf Str}, l.Ok ring FT → (lfD l).canLay0 = true
  | .pct x, _ => lay_tup (lay_cons (sok _) (lay_cons (frD_lay x) lay_nil))
  | .num x, _ => lay_tup (lay_cons (sok _) (lay_cons (frD_lay x) lay_nil))
  | .fact n, h => lay_tup (lay_cons (sok _) (lay_cons (sok n (by
      have h : n = "low" ∨ n = "top" := ok_fitL (ring := ring) (l := .fact n) h
      rcases h with rfl | rfl <;> decide +kernel)) lay_nil))
  | .rate n, h => lay_tup (lay_cons (sok _) (lay_cons (sok n (hr n h)) lay_nil))
theorem trD_lay : ∀ {c : Tr Str}, c.Ok ring FT → (trD c).canLay0 = true
  | .tru, _ => lay_tup (lay_cons (sok _) lay_nil)
  | .fls, _ => lay_tup (lay_cons (sok _) lay_nil)
  | .cmp w a b, h => lay_tup (lay_cons (cmp_ok w) (lay_cons (lfD_lay hr h.1) (lay_cons (lfD_lay hr h.2) lay_nil)))
  | .not c, h => lay_tup (lay_cons (sok _) (lay_cons (trD_lay (c := c) h) lay_nil))
  | .and c d, h => lay_tup (lay_cons (sok _) (lay_cons (trD_lay h.1) (lay_cons (trD_lay h.2) lay_nil)))
  | .or c d, h => lay_tup (lay_cons (sok _) (lay_cons (trD_lay h.1) (lay_cons (trD_lay h.2) lay_nil)))
  | .tim w k c, h => lay_tup (lay_cons (tim_ok w) (lay_cons (lay_int _) (lay_cons (trD_lay h.2.2) lay_nil)))
theorem pxD_lay : ∀ {p : Px Str}, p.Ok ring FT → (pxD p).canLay0 = true
  | .leaf l, h => lfD_lay hr (l := l) h
  | .ite c p q, h => lay_tup (lay_cons (sok _) (lay_cons (trD_lay hr h.1) (lay_cons (pxD_lay h.2.1) (lay_cons (pxD_lay h.2.2) lay_nil))))
  | .bin w p q, h => lay_tup (lay_cons (bin_ok w) (lay_cons (pxD_lay h.1) (lay_cons (pxD_lay h.2) lay_nil)))
  | .part p, h => lay_tup (lay_cons (sok _) (lay_cons (sok _) lay_nil))
end
theorem lfD_depth (l : Leaf Str) : (lfD l).depth ≤ 2 := by
  cases l with
  | pct x => have := frD_depth x; simp only [lfD, PyData.depth, PyData.depthAll]; omega
  | num x => have := frD_depth x; simp only [lfD, PyData.depth, PyData.depthAll]; omega
  | fact n => simp only [lfD, PyData.depth, PyData.depthAll]; omega
  | rate n => simp only [lfD, PyData.depth, PyData.depthAll]; omega
theorem trD_depth : ∀ c : Tr Str, (trD c).depth ≤ c.ht + 2
  | .tru => by simp only [trD, Tr.ht, PyData.depth, PyData.depthAll]; omega
  | .fls => by simp only [trD, Tr.ht, PyData.depth, PyData.depthAll]; omega
  | .cmp w a b => by have := lfD_depth a; have := lfD_depth b; simp only [trD, Tr.ht, PyData.depth, PyData.depthAll]; omega
  | .not c => by have := trD_depth c; simp only [trD, Tr.ht, PyData.depth, PyData.depthAll]; omega
  | .and c d => by have := trD_depth c; have := trD_depth d; simp only [trD, Tr.ht, PyData.depth, PyData.depthAll]; omega
  | .or c d => by have := trD_depth c; have := trD_depth d; simp only [trD, Tr.ht, PyData.depth, PyData.depthAll]; omega
  | .tim w k c => by have := trD_depth c; simp only [trD, Tr.ht, PyData.depth, PyData.depthAll]; omega
theorem pxD_depth : ∀ p : Px Str, (pxD p).depth ≤ p.ht + 2
  | .leaf l => by have := lfD_depth l; simp only [pxD, Px.ht]; omega
  | .ite c p q => by have := trD_depth c; have := pxD_depth p; have := pxD_depth q; simp only [pxD, Px.ht, PyData.depth, PyData.depthAll]; omega
  | .bin w p q => by have := pxD_depth p; have := pxD_depth q; simp only [pxD, Px.ht, PyData.depth, PyData.depthAll]; omega
  | .part p => by simp only [pxD, Px.ht, PyData.depth, PyData.depthAll]; omega
/-- the lets of a bond as data -/
def letD : Option (Px Str) → List PyData
  | none => []
  | some p => [.tuple [.str "part", pxD p]]
theorem letD_shaped {ring : List Str} (hr : ∀ n ∈ ring, PyData.strOk n = true) {pl : Option (Px Str)} (h : ∀ p, pl = some p → p.Ok ring FT ∧ p.ht ≤ 10) : SeqAt.shaped (.list (letD pl)) = true := by
  cases pl with
  | none => exact shaped_of (by simp only [letD, PyData.canLay0]; exact lay_nil) (by simp only [letD, PyData.depth, PyData.depthAll]; omega)
  | some p =>
    obtain ⟨h1, h2⟩ := h p rfl
    exact shaped_of (by simp only [letD, PyData.canLay0]; exact lay_cons (lay_tup (lay_cons (sok _) (lay_cons (pxD_lay hr h1) lay_nil))) lay_nil) (by have := pxD_depth p; simp only [letD, PyData.depth, PyData.depthAll]; omega)
theorem letD_eqv (pl : Option (Px Str)) : PyData.eqv (.list (letD pl)) (.list []) = decide (pl = none) := by
  cases pl with
  | none => simp only [letD, PyData.eqv, PyData.eqvAll]; rfl
  | some p => simp only [letD, PyData.eqv, PyData.eqvAll]; rfl
end K3
end
section
set_option Elab.async false
set_option linter.all false
set_option maxRecDepth 100000
set_option exponentiation.threshold 100
namespace K3
open PySem PySem.Spec PyProof.Rows L2
/-! ### _law_world -/
def setR (f : Str → Row) (n : Str) (r : Row) : Str → Row := fun m => if m = n then r else f m
section
variable {P : Program} {w : World} {K : PySem.W.Frag} {mg : Str → Option Value} {base : Heap}
theorem tab_set {f : Str → Row} {F : Hp} {kvs : KVs} {N : Nat} {n : Str} {u : V} {r : Row} (h : DcK (pTab K f) F kvs N) (hu : RFs K F u r) : DcK (pTab K (setR f n r)) F (putK kvs (Sum.inr n) u) (N + 1) := by
  refine ⟨h.1.put (by split <;> omega), fun m => ?_⟩
  rw [valV_putS]
  by_cases e : m = n
  · subst e
    rw [if_pos rfl]
    show RFs K F u (setR f m r m)
    unfold setR
    rw [if_pos rfl]; exact hu
  · rw [if_neg e]
    have q := h.2 m
    have e2 : setR f n r m = f m := if_neg e
    cases z : valV kvs (Sum.inr m : Key) with
    | none => rw [z] at q; show setR f n r m = []; rw [e2]; exact q
    | some v => rw [z] at q; show RFs K F v (setR f n r m); rw [e2]; exact q
/-- a drawn table: so many entries for the names, all small -/
structure TabB (f : Str → Row) (L : Nat) (names : List Str) : Prop where
  len : ∀ n ∈ names, (f n).length = L
  bt : ∀ (n : Str) (x : Rat), x ∈ f n → Bt 3 7 x
  out : ∀ n : Str, n ∉ names → f n = []
theorem TabB.set {f : Str → Row} {L : Nat} {names : List Str} {n : Str} {r : Row} (h : TabB f L names) (hl : r.length = L) (hb : ∀ x ∈ r, Bt 3 7 x) : TabB (setR f n r) L (names ++ [n]) := by
  refine ⟨fun m hm => ?_, fun m x hx => ?_, fun m hm => by unfold setR; rw [if_neg (fun z => hm (by rw [z]; exact List.mem_append_right _ List.mem_cons_self))]; exact h.out m (fun z => hm (List.mem_append_left _ z))⟩
  · unfold setR
    by_cases e : m = n
    · rw [if_pos e]; exact hl
    · rw [if_neg e]
      exact h.len m ((List.mem_append.mp hm).resolve_right fun z => e (List.mem_singleton.mp z))
  · unfold setR at hx
    by_cases e : m = n
    · rw [if_pos e] at hx; exact hb x hx
    · rw [if_neg e] at hx; exact h.bt m x hx
def HasK (F : Hp) (v : V) (names : List Str) : Prop := ∃ a od kvs, v = .ref a ∧ F a = some (.frz od (.dK kvs)) ∧ ∀ n ∈ names, (valV kvs (Sum.inr n : Key)).isSome = true
theorem HasK.up {F F' : Hp} {v : V} {names : List Str} (h : HasK F v names) (e : Same F F') : HasK F' v names := let ⟨a, od, kvs, h1, h2, h3⟩ := h; ⟨a, od, kvs, h1, e _ _ h2, h3⟩
def WoK (F : Hp) (v : V) (names : List Str) : Prop := ∃ l f r, v = .ref l ∧ F l = some (.lst [f, r]) ∧ HasK F r names
def WoP (K : PySem.W.Frag) (F : Hp) (v : V) (W : Wd Str) : Prop := ∃ l f r, v = .ref l ∧ F l = some (.lst [f, r]) ∧ TabF K 20 W.facts F f ∧ TabF K 20 W.rates F r
def spWorld (K : PySem.W.Frag) : Sp := fun vs H Q _ => ∃ (F : Hp) (d : Addr) (nv : V) (names : List Str) (day : Nat), vs = [.ref d, nv, .int (day : Nat)] ∧ Deck H F d ∧ IsL RS F nv names ∧ names.length ≤ 3 ∧ day < 100 ∧
  ∀ v H' F' (W : Wd Str), Fz (Eqd d) H F H' F' → Deck H' F' d → WoP K F' v W → WoK F' v names → TabB W.facts (day + 1) FT → TabB W.rates day names → Q v H'
theorem drawn {n : Nat} (h : n < 9) : Bt 3 7 (Rat.divInt (n : Int) 100) := bt_div (by decide) (show (n : Int).natAbs ≤ 2 ^ 3 by omega) (by decide)
theorem g_L_world (T : Txt K mg) : G P w K mg base CX0 4 "_law_world" p_L_world (spWorld K) := by
  refine G.mk' T.df_L_world T.g_L_world (fun _ _ _ _ _ _ us hl => match us, hl with | [_, _, _], _ => rfl) fun fd F => ?_
  refine F.ok sc_L_world (fun vs H Q E h => ?_) (fun cdv A outer s H vs Q _ hr hh => ?_)
  · obtain ⟨_, _, _, _, _, rfl, _⟩ := h
    rfl
  obtain ⟨F, d, _, names, day, rfl, hd, ⟨na, vn, rfl, hna, pn⟩, hn3, hday, k⟩ := hh
  have evn : vn = names.map V.str := paired_eq pn
  subst evn
  have pl100 : Pl 8998 100 := Nat.le_trans (show (100 : Int).natAbs ≤ 2 ^ 7 by decide) (Nat.pow_le_pow_right (by decide) (by decide))
  refine ⟨_, PSs.nox (pss_cons (ps_set (i := 3) sc_L_world.nd rfl (.inl rfl) pe_dnewK)
  (pss_cons (ps_for PassesOwn.never rfl (pi_list (pe_lst (pa_cons pe_str (pa_cons pe_str pa_nil)))) (pg_name (i := 4) sc_L_world.nd rfl (Or.inl rfl))
    (pss_one (ps_dput (hu_of hr) (pv 3) (pv 4) (pe_lc (own := [("_law_k", 6)]) (g := gName 6) (tt := tYes) rfl sc_L_world.nd (pi_range1 (by rfl) T.f_range (pa_cons (pe_op op_add (pv 2) pe_int) pa_nil)) (blkOk_by (own := [("_law_k", 6)]) (N := n_L_world) (sc := defScope s_L_world) (by decide +kernel)) (fun _ _ _ _ _ => (pg_name (i := 6) sc_L_world.nd rfl (Or.inl rfl))) (fun _ _ _ _ _ => pts_nil) (fun _ _ _ _ _ => (pe_g (g_L_ratio T) (hr.mono (by omega)) (by rfl) pass0 (pa_cons (pe_g (g_L_draw T) (hr.mono (by omega)) (by rfl) pass0 (pa_cons (pv 0) (pa_cons pe_int pa_nil))) (pa_cons pe_int pa_nil))))) rfl)))
  (pss_cons (ps_set (i := 5) sc_L_world.nd rfl (.inl rfl) pe_dnewK)
  (pss_cons (ps_for PassesOwn.never rfl (pi_list (pv 1)) (pg_name (i := 4) sc_L_world.nd rfl (Or.inl rfl))
    (pss_one (ps_dput (hu_of hr) (pv 5) (pv 4) (pe_lc (own := [("_law_k", 6)]) (g := gName 6) (tt := tYes) rfl sc_L_world.nd (pi_range1 (by rfl) T.f_range (pa_cons (pv 2) pa_nil)) (blkOk_by (own := [("_law_k", 6)]) (N := n_L_world) (sc := defScope s_L_world) (by decide +kernel)) (fun _ _ _ _ _ => (pg_name (i := 6) sc_L_world.nd rfl (Or.inl rfl))) (fun _ _ _ _ _ => pts_nil) (fun _ _ _ _ _ => (pe_g (g_L_ratio T) (hr.mono (by omega)) (by rfl) pass0 (pa_cons (pe_g (g_L_draw T) (hr.mono (by omega)) (by rfl) pass0 (pa_cons (pv 0) (pa_cons pe_int pa_nil))) (pa_cons pe_int pa_nil))))) rfl)))
  (pss_one (ps_ret (pe_lst (pa_cons (pe_frz (pv 3)) (pa_cons (pe_frz (pv 5)) pa_nil))))))))), ?_⟩
  refine fun D1 hD1 => ?_
  have hs := hd.sub
  have nd1 : d ≠ D1 := fun z => by obtain ⟨_, _, _, _, _, h1, _⟩ := hd; rw [z, hD1] at h1; cases h1
  have z1 := (Fz.raw (o := .dK []) hs hD1).to (S := Eqd d)
  have d1 := hd.put (o := .dK []) nd1 (hs.free hD1)
  refine ⟨two_ok, fun l hl => ?_⟩
  have y2 := Fz.raw (o := .lst [.str "low", .str "top"]) d1.sub hl
  have z2 := z1.trans y2.to
  have d2 := d1.mv y2 (fun z => z)
  have e2 := y2.same _ _ (upd_same (H := H) (a := D1) (o := .dK []))
  have el2 := upd_same (H := upd H D1 (.dK [])) (a := l) (o := .lst [.str "low", .str "top"])
  have ndl : l ≠ d := fun z => by obtain ⟨_, _, _, _, _, h1, _⟩ := d1; rw [← z, hl] at h1; cases h1
  refine ⟨l, rfl, ⟨_, SqL.of el2⟩, for_list (xs := [.str "low", .str "top"]) (fun i σ H' => ∃ (r4 : Option V) (F' : Hp) (f : Str → Row) (cur : KVs), σ = [some (.ref d), some (.ref na), some (.int (day : Nat)), some (.ref D1), r4, none, none] ∧ Fz (Eqd d) H F H' F' ∧ Deck H' F' d ∧ H' l = some (.lst [.str "low", .str "top"]) ∧ F' l = none ∧ H l = none ∧
    H' D1 = some (.dK cur) ∧ F' D1 = none ∧ DcK (pTab K f) F' cur i ∧ TabB f (day + 1) (FT.take i))
    ⟨none, F, fun _ => [], [], rfl, z2, d2, el2, d1.sub.free hl, ?_, e2, hs.free hD1, ⟨DOk.nil, fun _ => rfl⟩, ⟨fun n hn => (List.not_mem_nil hn).elim, fun n x hx => (List.not_mem_nil hx).elim, fun _ _ => rfl⟩⟩ (fun i σ H' _ hp => ?_) (fun i v σ H' hv hp => ?_) (fun σ H' hp => ?_)⟩
  · cases q : H l with
    | none => rfl
    | some o => have := (Fz.raw (o := .dK []) hs hD1).same _ _ q; rw [this] at hl; cases hl
  · obtain ⟨_, _, _, _, rfl, _, _, h1, _⟩ := hp
    exact SqL.of h1
  · obtain ⟨r4, F', f, cur, rfl, z, dk, eL, fL, hlH, eD, fD, hC, hB⟩ := hp
    obtain ⟨n, hn, rfl⟩ : ∃ n, FT[i]? = some n ∧ v = V.str n := by
      match i, hv with
      | 0, hv => exact ⟨_, rfl, (Option.some.inj hv).symm⟩
      | 1, hv => exact ⟨_, rfl, (Option.some.inj hv).symm⟩
      | i + 2, hv => simp at hv
    have hi2 : i < 2 := (List.getElem?_eq_some_iff.mp hn).1
    have el1 : (day : Int) + 1 = ((day + 1 : Nat) : Int) := by omega
    refine ⟨_, rfl, _, _, rfl, rfl, ((day + 1 : Nat) : Int), by rw [← el1], by omega, by omega, lc_RD (n := ((day + 1 : Nat) : Int).toNat) (fun j acc F5 => ∃ r : Row, Paired (RF K F5) acc r ∧ r.length = j ∧ ∀ x ∈ r, Bt 3 7 x) dk ⟨[], .nil, rfl, fun x hx => (List.not_mem_nil hx).elim⟩ (by omega) (fun _ => rfl) (fun j acc H5 F5 hj z5 dk5 p5 S S' hS hS' => ?_) (fun E5 ys H5 F5 hE5 z5 dk5 e51 e52 p5 => ?_)⟩
    · obtain ⟨r, pr, hrl, hrb⟩ := p5
      refine yes ⟨_, rfl, F5, d, 9, rfl, dk5, by decide, by decide, fun m H6 hm z6 dk6 => ?_⟩
      refine ⟨F5, _, _, rfl, dk6.sub, by decide, pl100, Sl.of (drawn hm) (by decide), fun xv H7 F7 z7 hxv => ?_⟩
      refine hS xv H7 F7 (z6.trans z7.to) (dk6.mv z7 (fun z => z)) ⟨r ++ [Rat.divInt (m : Int) 100], pr_snoc (paired_up upF z7.grow pr) hxv, by rw [List.length_append, hrl]; rfl, fun x hx => ?_⟩
      rcases List.mem_append.mp hx with h | h
      · exact hrb x h
      · rw [List.mem_singleton.mp h]; exact drawn hm
    · obtain ⟨r, pr, hrl, hrb⟩ := p5
      have ndE : d ≠ E5 := fun z => by obtain ⟨_, _, _, _, _, h1, _⟩ := dk; rw [z, hE5] at h1; cases h1
      have nD1 : D1 ≠ E5 := fun z => by rw [z, hE5] at eD; cases eD
      have nL1 : l ≠ E5 := fun z => by rw [z, hE5] at eL; cases eL
      have eD5 := z5.keep _ _ (Ne.symm nd1) eD
      have eL5 := z5.keep _ _ ndl eL
      have fD5 := z5.outS fD eD
      have fL5 := z5.outS fL eL
      have z6 := (z.trans z5).freeze (by
        cases q : H E5 with
        | none => rfl
        | some o =>
          have h1 := z.live E5 (by rw [q]; simp)
          rw [hE5] at h1; exact absurd rfl h1) e51 e52
      have d6 := dk5.fz e51 ndE e52
      have f6D : upd F5 E5 (.lst ys) D1 = none := by rw [upd_ne nD1]; exact fD5
      have f6L : upd F5 E5 (.lst ys) l = none := by rw [upd_ne nL1]; exact fL5
      have g6 := z5.grow.trans (same_upd (o := .lst ys) e52)
      have lc := hC.1.le
      refine ⟨_, rfl, _, rfl, D1, _, rfl, .inl ⟨cur, Sum.inr n, eD5, rfl, small10 (by omega), rfl⟩, ?_⟩
      refine ⟨_, _, setR f n r, _, rfl, z6.set (.inl hD1) f6D, d6.put nd1 f6D, ?_, f6L, hlH, upd_same, f6D, tab_set (hC.up upTab g6) ⟨E5, ys, rfl, upd_same, paired_up upF (same_upd e52) pr⟩, ?_⟩
      · have nlD : l ≠ D1 := fun z => by rw [z, eD] at eL; cases eL
        rw [upd_ne nlD]; exact eL5
      · rw [List.take_add_one, hn]
        exact hB.set (by rw [hrl]; rfl) hrb
  · obtain ⟨r4, F', f, cur, rfl, z, dk, eL, fL, hlH, eD, fD, hC, hB⟩ := hp
    have hB : TabB f (day + 1) FT := hB
    refine fun D2 hD2 => ?_
    have nd2 : d ≠ D2 := fun z => by obtain ⟨_, _, _, _, _, h1, _⟩ := dk; rw [z, hD2] at h1; cases h1
    have n12 : D1 ≠ D2 := fun z => by rw [z, hD2] at eD; cases eD
    have hD2H : H D2 = none := by
      cases q : H D2 with
      | none => rfl
      | some o =>
        have h1 := z.live D2 (by rw [q]; simp)
        rw [hD2] at h1; exact absurd rfl h1
    have z3 := z.trans (Fz.raw (o := .dK []) dk.sub hD2).to
    have d3 := dk.put (o := .dK []) nd2 (dk.sub.free hD2)
    have hnaH := d3.sub _ _ (z3.grow _ _ hna)
    refine ⟨_, rfl, na, rfl, ⟨_, SqL.of hnaH⟩, for_list (xs := names.map V.str) (fun i σ H' => ∃ (r4 : Option V) (F2 : Hp) (g : Str → Row) (cu2 : KVs), σ = [some (.ref d), some (.ref na), some (.int (day : Nat)), some (.ref D1), r4, some (.ref D2), none] ∧ Fz (Eqd d) H F H' F2 ∧ Same F' F2 ∧ Deck H' F2 d ∧ H' D1 = some (.dK cur) ∧ F2 D1 = none ∧
      H' D2 = some (.dK cu2) ∧ F2 D2 = none ∧ DcK (pTab K g) F2 cu2 i ∧ TabB g day (names.take i) ∧ ∀ n ∈ names.take i, (valV cu2 (Sum.inr n : Key)).isSome = true)
      ⟨_, F', fun _ => [], [], rfl, z3, Same.refl _, d3, by rw [upd_ne n12]; exact eD, fD, upd_same, dk.sub.free hD2, ⟨DOk.nil, fun _ => rfl⟩, ⟨fun n hn => (List.not_mem_nil hn).elim, fun n x hx => (List.not_mem_nil hx).elim, fun _ _ => rfl⟩, fun n hn => (List.not_mem_nil hn).elim⟩ (fun i σ H' _ hp => ?_) (fun i v σ H' hv hp => ?_) (fun σ H' hp => ?_)⟩
    · obtain ⟨_, F2, _, _, rfl, z, _, dk2, _⟩ := hp
      exact SqL.of (dk2.sub _ _ (z.grow _ _ hna))
    · obtain ⟨r4, F2, g, cu2, rfl, z, g2, dk, eD1, fD1, eD, fD, hC2, hB2, hK2⟩ := hp
      obtain ⟨n, hn, rfl⟩ : ∃ n, names[i]? = some n ∧ v = V.str n := by
        rw [List.getElem?_map] at hv
        cases q : names[i]? with
        | none => rw [q] at hv; cases hv
        | some n => rw [q] at hv; exact ⟨n, rfl, (Option.some.inj hv).symm⟩
      have hi2 : i < names.length := (List.getElem?_eq_some_iff.mp hn).1
      refine ⟨_, rfl, ((day : Nat) : Int), rfl, by omega, by omega, lc_RD (n := ((day : Nat) : Int).toNat) (fun j acc F5 => ∃ r : Row, Paired (RF K F5) acc r ∧ r.length = j ∧ ∀ x ∈ r, Bt 3 7 x) dk ⟨[], .nil, rfl, fun x hx => (List.not_mem_nil hx).elim⟩ (by omega) (fun _ => rfl) (fun j acc H5 F5 hj z5 dk5 p5 S S' hS hS' => ?_) (fun E5 ys H5 F5 hE5 z5 dk5 e51 e52 p5 => ?_)⟩
      · obtain ⟨r, pr, hrl, hrb⟩ := p5
        refine yes ⟨_, rfl, F5, d, 9, rfl, dk5, by decide, by decide, fun m H6 hm z6 dk6 => ?_⟩
        refine ⟨F5, _, _, rfl, dk6.sub, by decide, pl100, Sl.of (drawn hm) (by decide), fun xv H7 F7 z7 hxv => ?_⟩
        refine hS xv H7 F7 (z6.trans z7.to) (dk6.mv z7 (fun z => z)) ⟨r ++ [Rat.divInt (m : Int) 100], pr_snoc (paired_up upF z7.grow pr) hxv, by rw [List.length_append, hrl]; rfl, fun x hx => ?_⟩
        rcases List.mem_append.mp hx with h | h
        · exact hrb x h
        · rw [List.mem_singleton.mp h]; exact drawn hm
      · obtain ⟨r, pr, hrl, hrb⟩ := p5
        have ndE : d ≠ E5 := fun z => by obtain ⟨_, _, _, _, _, h1, _⟩ := dk; rw [z, hE5] at h1; cases h1
        have nD1 : D1 ≠ E5 := fun z => by rw [z, hE5] at eD1; cases eD1
        have nD2 : D2 ≠ E5 := fun z => by rw [z, hE5] at eD; cases eD
        have eD15 := z5.keep _ _ (Ne.symm nd1) eD1
        have eD5 := z5.keep _ _ (Ne.symm nd2) eD
        have fD15 := z5.outS fD1 eD1
        have fD5 := z5.outS fD eD
        have z6 := (z.trans z5).freeze (by
          cases q : H E5 with
          | none => rfl
          | some o =>
            have h1 := z.live E5 (by rw [q]; simp)
            rw [hE5] at h1; exact absurd rfl h1) e51 e52
        have d6 := dk5.fz e51 ndE e52
        have f61 : upd F5 E5 (.lst ys) D1 = none := by rw [upd_ne nD1]; exact fD15
        have f62 : upd F5 E5 (.lst ys) D2 = none := by rw [upd_ne nD2]; exact fD5
        have g6 := z5.grow.trans (same_upd (o := .lst ys) e52)
        have lc := hC2.1.le
        refine ⟨_, rfl, _, rfl, D2, _, rfl, .inl ⟨cu2, Sum.inr n, eD5, rfl, small10 (by omega), rfl⟩, ?_⟩
        refine ⟨_, _, setR g n r, _, rfl, z6.set (.inl hD2H) f62, g2.trans g6, d6.put nd2 f62, by rw [upd_ne n12]; exact eD15, f61, upd_same, f62, tab_set (hC2.up upTab g6) ⟨E5, ys, rfl, upd_same, paired_up upF (same_upd e52) pr⟩, ?_, fun n' hn' => ?_⟩
        · rw [List.take_add_one, hn]
          exact hB2.set (by rw [hrl]; rfl) hrb
        · rw [valV_putS]
          by_cases q : n' = n
          · rw [if_pos q]; rfl
          · rw [if_neg q]
            rw [List.take_add_one, hn] at hn'
            exact hK2 n' ((List.mem_append.mp hn').resolve_right fun z => q (List.mem_singleton.mp z))
    · obtain ⟨r4, F2, g, cu2, rfl, z, g2, dk, eD1, fD1, eD, fD, hC2, hB2, hK2⟩ := hp
      rw [List.length_map] at hC2 hB2
      rw [List.take_length] at hB2
      rw [List.length_map, List.take_length] at hK2
      refine ⟨_, rfl, D1, _, eD1, True.intro, fun o1 => ?_⟩
      have z4 := z.frz (o := .frz o1 (.dK cur)) hD1 fD1
      have d4 := (dk.put (o := .frz o1 (.dK cur)) nd1 fD1).fz upd_same nd1 fD1
      refine ⟨_, rfl, D2, .dK cu2, by rw [upd_ne (Ne.symm n12)]; exact eD, True.intro, fun o2 => ⟨two_ok, fun q hq => ?_⟩⟩
      have f4 : upd F2 D1 (.frz o1 (.dK cur)) D2 = none := by rw [upd_ne (Ne.symm n12)]; exact fD
      have z5 := z4.frz (o := .frz o2 (.dK cu2)) hD2H f4
      have d5 := (d4.put (o := .frz o2 (.dK cu2)) nd2 f4).fz upd_same nd2 f4
      obtain ⟨y6, d6⟩ := deck_nw (o := .lst [.ref D1, .ref D2]) d5 hq
      have g5 := (same_upd (o := .frz o1 (.dK cur)) fD1).trans ((same_upd (o := .frz o2 (.dK cu2)) f4).trans y6.grow)
      refine k _ _ _ ⟨f, g⟩ (z5.trans y6) d6 ⟨q, _, _, rfl, upd_same, ⟨D1, o1, cur, rfl, y6.grow _ _ (by rw [upd_ne n12, upd_same]), ?_⟩, ⟨D2, o2, cu2, rfl, y6.grow _ _ upd_same, ?_⟩⟩ ⟨q, _, _, rfl, upd_same, D2, o2, cu2, rfl, y6.grow _ _ upd_same, hK2⟩ hB hB2
      · exact DcK.up upTab (show DcK (pTab K f) F' cur 20 from ⟨hC.1.mono (by simp), hC.2⟩) (g2.trans g5)
      · exact DcK.up upTab (show DcK (pTab K g) F2 cu2 20 from ⟨hC2.1.mono (by omega), hC2.2⟩) g5
end
end K3
end
section
set_option Elab.async false
set_option linter.all false
set_option maxRecDepth 100000
set_option exponentiation.threshold 100
namespace K3
open PySem PySem.Spec PyProof.Rows L2
/-! ### _law_bonds -/
abbrev rg (m : Nat) : List Str := (["a", "b", "c", "d"] : List Str).take m
/-- what the bonds drawn are -/
structure BG (ring : List Str) (b : Bd) : Prop where
  ok : b.coupon.Ok ring FT
  ht : b.coupon.ht ≤ 6
  how : PG 2 b.coupon ∨ ∃ p q, b.pl = some p ∧ PG 1 p ∧ PG 2 q ∧ b.coupon = .bin .add (.part p) q
section
variable {P : Program} {w : World} {K : PySem.W.Frag} {mg : Str → Option Value} {base : Heap}
def spBonds (K : PySem.W.Frag) : Sp := fun vs H Q _ => ∃ (F : Hp) (d : Addr) (m : Nat), vs = [.ref d, .int (m : Nat)] ∧ Deck H F d ∧ m ≤ 3 ∧
  ∀ v H' F' (bs : List Bd), Fz (Eqd d) H F H' F' → Deck H' F' d → IsL (BoF K) F' v bs → bs.map Bd.name = rg m → (∀ b ∈ bs, BG (rg m) b) → Q v H'
theorem rg_ok {m : Nat} : ∀ n ∈ rg m, PyData.strOk n = true := fun n hn => by
  have h : n ∈ (["a", "b", "c", "d"] : List Str) := List.mem_of_mem_take hn
  have key : ∀ n ∈ (["a", "b", "c", "d"] : List Str), PyData.strOk n = true := by decide +kernel
  exact key n h
theorem rg_len {m : Nat} (h : m ≤ 3) : (rg m).length = m := by rw [List.length_take]; show min m 4 = m; omega
theorem g_L_bonds (T : Txt K mg) : G P w K mg base CX0 11 "_law_bonds" p_L_bonds (spBonds K) := by
  refine G.mk' T.df_L_bonds T.g_L_bonds (fun _ _ _ _ _ _ us hl => match us, hl with | [_, _], _ => rfl) fun fd F => ?_
  refine F.ok sc_L_bonds (fun vs H Q E h => ?_) (fun cdv A outer s H vs Q _ hr hh => ?_)
  · obtain ⟨_, _, _, rfl, _⟩ := h
    rfl
  obtain ⟨F, d, m, rfl, hd, hm3, k⟩ := hh
  have four_ok : 4 ≤ sizeLine := by decide
  have three_ok : 3 ≤ sizeLine := by decide
  have lrg := rg_len hm3
  refine ⟨_, PSs.nox (pss_cons (ps_set (i := 2) sc_L_bonds.nd rfl (.inl rfl) (pe_slice sl_list (pe_lst (pa_cons pe_str (pa_cons pe_str (pa_cons pe_str (pa_cons pe_str pa_nil))))) po_none (po_some (pv 1))))
  (pss_cons (ps_set (i := 3) sc_L_bonds.nd rfl (.inl rfl) (pe_lst pa_nil))
  (pss_cons (ps_for PassesOwn.never rfl (pi_range1 (by rfl) T.f_range (pa_cons (pv 1) pa_nil)) (pg_name (i := 4) sc_L_bonds.nd rfl (Or.inl rfl))
    (pss_cons (ps_set (i := 5) sc_L_bonds.nd rfl (.inl rfl) (pe_lst pa_nil))
  (pss_cons (ps_setLc (i := 6) (own := [("_law_name", 8)]) (g := gName 8) rfl sc_L_bonds.nd rfl rfl (sw_true rfl rfl rfl (by decide +kernel)) (pi_list (pv 2)) (blkOk_by (own := [("_law_name", 8)]) (N := n_L_bonds) (sc := defScope s_L_bonds) (by decide +kernel)) (fun _ _ _ _ _ => (pg_name (i := 8) sc_L_bonds.nd rfl (Or.inl rfl))) (fun _ _ _ _ _ => (pts_one (pt_cmpR op_gt (pe_g (g_L_draw T) (hr.mono (by omega)) (by rfl) pass0 (pa_cons (pv 0) (pa_cons pe_int pa_nil))) pe_int (nomark _)))) (fun _ _ _ _ _ => (pv 8)))
  (pss_cut (ps_if (pt_cmpR op_eq (pe_g (g_L_draw T) (hr.mono (by omega)) (by rfl) pass0 (pa_cons (pv 0) (pa_cons pe_int pa_nil))) pe_int (nomark _)) (pss_one (ps_expr (pe_bm PySem.F.plainAttrs_list PySem.F.slot_list_append PySem.F.type_list_append mt_append (pv 5) (pa_cons (pe_tup (pa_cons pe_str (pa_cons (pe_g (g_L_plain T) (hr.mono (by omega)) (by rfl) pass0 (pa_cons (pv 0) (pa_cons (pv 6) (pa_cons pe_int pa_nil)))) pa_nil))) pa_nil)))) pss_nil)
  (pss_cons (ps_set (i := 7) sc_L_bonds.nd rfl (.inl rfl) (pe_g (g_L_plain T) (hr.mono (by omega)) (by rfl) pass0 (pa_cons (pv 0) (pa_cons (pv 6) (pa_cons pe_int pa_nil)))))
  (pss_cut (ps_if (PW.pt (pw_and (pt_cmpR (op_neD hr.units) (pv 5) (pe_lst pa_nil) (nomark _)) (pw_and1 (pt_cmpR op_eq (pe_g (g_L_draw T) (hr.mono (by omega)) (by rfl) pass0 (pa_cons (pv 0) (pa_cons pe_int pa_nil))) pe_int (nomark _))))) (pss_one (ps_set (i := 7) sc_L_bonds.nd rfl (.inl rfl) (pe_tup (pa_cons pe_str (pa_cons (pe_tup (pa_cons pe_str (pa_cons pe_str pa_nil))) (pa_cons (pv 7) pa_nil)))))) pss_nil)
  (pss_one (ps_expr (pe_bm PySem.F.plainAttrs_list PySem.F.slot_list_append PySem.F.type_list_append mt_append (pv 3) (pa_cons (pe_g (g_L_bond T) (hr.mono (by omega)) (by rfl) pass0 (pa_cons (pe_ix ix_list (pv 2) (pv 4) (fun _ _ => rfl)) (pa_cons (pv 5) (pa_cons (pv 7) pa_nil)))) pa_nil))))))))))
  (pss_one (ps_ret (pv 3)))))), ?_⟩
  refine ⟨four_ok, fun l0 hl0 => ?_⟩
  have hs := hd.sub
  have y0 := Fz.raw (o := .lst [.str "a", .str "b", .str "c", .str "d"]) hs hl0
  refine ⟨_, rfl, _, rfl, l0, _, rfl, SqL.of upd_same, fun na hna => ?_⟩
  rw [cut_to]
  have d0 := hd.mv y0 (fun z => z)
  obtain ⟨y1, d1⟩ := deck_nw (o := .lst ([V.str "a", .str "b", .str "c", .str "d"].take m)) d0 hna
  have z1 := y0.to.trans y1
  have hnaF := upd_same (H := F) (a := na) (o := .lst ([V.str "a", .str "b", .str "c", .str "d"].take m))
  have enm : [V.str "a", .str "b", .str "c", .str "d"].take m = (rg m).map V.str := by rw [List.map_take]; rfl
  generalize upd F na (.lst ([V.str "a", .str "b", .str "c", .str "d"].take m)) = F1 at z1 d1 hnaF
  rw [enm] at hnaF
  generalize upd (upd H l0 (.lst [.str "a", .str "b", .str "c", .str "d"])) na (.lst ([V.str "a", .str "b", .str "c", .str "d"].take m)) = H1 at z1 d1
  refine ⟨(by decide : 0 ≤ sizeLine), fun bl hbl => ?_⟩
  have ndb : d ≠ bl := fun z => by obtain ⟨_, _, _, _, _, h1, _⟩ := d1; rw [z, hbl] at h1; cases h1
  have hblH : H bl = none := by
    cases q : H bl with
    | none => rfl
    | some o =>
      have h1 := z1.live bl (by rw [q]; simp)
      rw [hbl] at h1; exact absurd rfl h1
  have z2 := z1.trans (Fz.raw (o := .lst []) d1.sub hbl).to
  have d2 := d1.put (o := .lst []) ndb (d1.sub.free hbl)
  refine ⟨_, rfl, _, rfl, by omega, by omega, for_range (lo := 0) (fun i σ H' => ∃ (r4 r5 r6 r7 : Option V) (F' : Hp) (vb : List V) (bs : List Bd), σ = [some (.ref d), some (.int (m : Nat)), some (.ref na), some (.ref bl), r4, r5, r6, r7, none] ∧ Fz (Eqd d) H F H' F' ∧ Same F1 F' ∧ Deck H' F' d ∧ H' bl = some (.lst vb) ∧ F' bl = none ∧
    Paired (BoF K F') vb bs ∧ bs.map Bd.name = (rg m).take i ∧ ∀ b ∈ bs, BG (rg m) b) ⟨none, none, none, none, F1, [], [], rfl, z2, Same.refl _, d2, upd_same, d1.sub.free hbl, .nil, rfl, fun b hb => (List.not_mem_nil hb).elim⟩ (fun i σ H' hi hp => ?_) (fun σ H' hp => ?_)⟩
  · obtain ⟨r4, r5, r6, r7, F', vb, bs, rfl, z, g, dk, eb, fb, pb, hnm, hbg⟩ := hp
    have hi : i < m := by omega
    have e0 : (0 : Int) + (i : Int) = (i : Int) := Int.zero_add _
    show tSeq _ _ _ _ _
    simp only [e0]
    obtain ⟨nm, hnmi⟩ : ∃ nm, (rg m)[i]? = some nm := ⟨_, List.getElem?_eq_getElem (by omega)⟩
    refine ⟨(by decide : 0 ≤ sizeLine), fun ll hll => ?_⟩
    have ndl : d ≠ ll := fun z => by obtain ⟨_, _, _, _, _, h1, _⟩ := dk; rw [z, hll] at h1; cases h1
    have nbl : bl ≠ ll := fun z => by rw [z, hll] at eb; cases eb
    have hllH : H ll = none := by
      cases q : H ll with
      | none => rfl
      | some o =>
        have h1 := z.live ll (by rw [q]; simp)
        rw [hll] at h1; exact absurd rfl h1
    have fll := dk.sub.free hll
    have z3 := z.trans (Fz.raw (o := .lst []) dk.sub hll).to
    have d3 := dk.put (o := .lst []) ndl fll
    have eb3 : upd H' ll (.lst []) bl = some (.lst vb) := by rw [upd_ne nbl]; exact eb
    have el3 := upd_same (H := H') (a := ll) (o := .lst [])
    generalize upd H' ll (.lst []) = H3 at z3 d3 eb3 el3
    have hna3 := d3.sub _ _ (g _ _ hnaF)
    have ndn : na ≠ d := fun z => by obtain ⟨_, _, _, _, _, h1, h2, _⟩ := dk; rw [← z] at h2; rw [g _ _ hnaF] at h2; cases h2
    -- the names linked
    refine ⟨_, rfl, na, rfl, ⟨_, SqL.of hna3⟩, lc_LD (a := na) (xs := (rg m).map V.str) (fun j acc F5 => ∃ ns : List Str, acc = ns.map V.str ∧ (∀ n ∈ ns, n ∈ rg m) ∧ ns.length ≤ j) d3 hna3 ndn ⟨[], rfl, fun n hn => (List.not_mem_nil hn).elim, Nat.le_refl _⟩ (by rw [List.length_map]; omega) (fun _ => rfl) (fun j acc H5 F5 v5 hv5 z5 dk5 p5 S S' hS hS' => ?_) (fun lk ys H5 F5 hlk z5 dk5 e51 e52 p5 => ?_)⟩
    · obtain ⟨ns, rfl, hns, hnl⟩ := p5
      obtain ⟨n5, hn5, rfl⟩ := List.mem_map.mp (List.mem_of_getElem? hv5)
      refine ⟨_, rfl, F5, d, 3, rfl, dk5, by decide, by decide, fun q H6 hq z6 dk6 => ⟨_, _, rfl, rfl, _, rfl, ite2 (fun e => ?_) (fun e => ?_)⟩⟩
      · refine ⟨_, rfl, hS _ H6 F5 z6 dk6 ⟨ns ++ [n5], by rw [List.map_append]; rfl, fun n hn => ?_, by rw [List.length_append]; simp; omega⟩⟩
        rcases List.mem_append.mp hn with h | h
        · exact hns n h
        · rw [List.mem_singleton.mp h]; exact hn5
      · exact hS' H6 F5 z6 dk6 ⟨ns, rfl, hns, by omega⟩
    obtain ⟨ns, rfl, hns, hnl⟩ := p5
    rw [List.length_map, lrg] at hnl
    have eb5 := z5.keep _ _ (Ne.symm ndb) eb3
    have el5 := z5.keep _ _ (Ne.symm ndl) el3
    have fb5 := z5.outS fb eb3
    have fl5 := z5.outS fll el3
    have ndk : d ≠ lk := fun z => by obtain ⟨_, _, _, _, _, h1, _⟩ := d3; rw [z, hlk] at h1; cases h1
    have nbk : bl ≠ lk := fun z => by rw [z, hlk] at eb3; cases eb3
    have nlk : ll ≠ lk := fun z => by rw [z, hlk] at el3; cases el3
    have hlkH : H lk = none := by
      cases q : H lk with
      | none => rfl
      | some o =>
        have h1 := z3.live lk (by rw [q]; simp)
        rw [hlk] at h1; exact absurd rfl h1
    have z6 := (z3.trans z5).freeze hlkH e51 e52
    have d6 := dk5.fz e51 ndk e52
    have g6 := z5.grow.trans (same_upd (o := .lst (ns.map V.str)) e52)
    have fb6 : upd F5 lk (.lst (ns.map V.str)) bl = none := by rw [upd_ne nbk]; exact fb5
    have fl6 : upd F5 lk (.lst (ns.map V.str)) ll = none := by rw [upd_ne nlk]; exact fl5
    have hlk6 : IsL RS (upd F5 lk (.lst (ns.map V.str))) (.ref lk) ns := ⟨lk, _, rfl, upd_same, paired_map _ _⟩
    generalize upd F5 lk (.lst (ns.map V.str)) = F6 at z6 d6 g6 fb6 fl6 hlk6
    have hso := fun n (hn : n ∈ ns) => rg_ok n (hns n hn)
    refine ⟨fun σ' H7 => ∃ (F7 : Hp) (pl : Option (Px Str)), σ' = [some (.ref d), some (.int (m : Nat)), some (.ref na), some (.ref bl), some (.int (i : Nat)), some (.ref ll), some (.ref lk), r7, none] ∧ Fz (Eqd d) H F H7 F7 ∧ Same F6 F7 ∧ Deck H7 F7 d ∧ H7 bl = some (.lst vb) ∧ F7 bl = none ∧ LetsIn K F7 (.ref ll) pl ∧ (∀ p, pl = some p → PG 1 p ∧ p.Ok (rg m) FT ∧ p.ht ≤ 3), ?_, ?_⟩
    · refine ⟨_, rfl, F6, d, 3, rfl, d6, by decide, by decide, fun q H7 hq z7 dk7 => ⟨rfl, _, rfl, ite2 (fun e => ?_) (fun e => ?_)⟩⟩
      · have el7 := z7.keep _ _ (Ne.symm ndl) el5
        have eb7 := z7.keep _ _ (Ne.symm ndb) eb5
        refine ⟨_, rfl, .inl ⟨rfl, _, SqL.of el7⟩, _, rfl, _, rfl, F6, d, _, ns, rg m, 1, rfl, dk7, hlk6, hns, by omega, hso, by decide, fun v8 H8 F8 p8 z8 dk8 e8 pg8 ok8 ht8 => ?_⟩
        refine ⟨two_ok, fun q1 hq1 => ?_⟩
        obtain ⟨y9, d9⟩ := deck_nw (o := .tup [.str "part", v8]) dk8 hq1
        have y := z7.trans (z8.trans y9)
        have el9 := (z8.trans y9).keep _ _ (Ne.symm ndl) el7
        have eb9 := (z8.trans y9).keep _ _ (Ne.symm ndb) eb7
        have fl9 := (z8.trans y9).outS fl6 el7
        have fb9 := (z8.trans y9).outS fb6 eb7
        refine ⟨ll, [], _, rfl, rfl, el9, small10 (by simp), ?_⟩
        have z10 := ((z6.trans y).set (o := .lst ([] ++ [V.ref q1])) (.inl hllH) fl9).freeze hllH upd_same fl9
        have d10 := (d9.put (o := .lst ([] ++ [V.ref q1])) ndl fl9).fz upd_same ndl fl9
        have g10 := same_upd (o := .lst ([] ++ [V.ref q1])) fl9
        refine ⟨_, some p8, rfl, z10, y.grow.trans g10, d10, by rw [upd_ne nbl]; exact eb9, by rw [upd_ne nbl]; exact fb9, ⟨ll, _, rfl, upd_same, q1, v8, rfl, .inl (.inl (g10 _ _ upd_same)), (e8 (some p8)).up (y9.grow.trans g10)⟩, fun p e => by cases e; exact ⟨pg8, ok8, ht8⟩⟩
      · have el7 := z7.keep _ _ (Ne.symm ndl) el5
        have eb7 := z7.keep _ _ (Ne.symm ndb) eb5
        have z10 := (z6.trans z7).freeze hllH el7 fl6
        have d10 := dk7.fz el7 ndl fl6
        exact ⟨_, none, rfl, z10, same_upd (o := .lst []) fl6, d10, eb7, by rw [upd_ne nbl]; exact fb6, ⟨ll, _, rfl, upd_same, rfl⟩, fun p e => by cases e⟩
    · rintro σ' H7 ⟨F7, pl, rfl, z7, g7, dk7, eb7, fb7, hlets, hpl⟩
      have hlk7 : IsL RS F7 (.ref lk) ns := IsL.up upS _ _ _ _ g7 hlk6
      refine ⟨_, rfl, _, rfl, F7, d, _, ns, rg m, 2, rfl, dk7, hlk7, hns, by omega, hso, by decide, fun v8 H8 F8 p8 z8 dk8 e8 pg8 ok8 ht8 => ?_⟩
      have z08 := z7.trans z8
      have eb8 := z8.keep _ _ (Ne.symm ndb) eb7
      have fb8 := z8.outS fb7 eb7
      have hlets8 := hlets.up z8.grow
      refine ⟨fun σ' H9 => ∃ (F9 : Hp) (cv : V) (p9 : Px Str), σ' = [some (.ref d), some (.int (m : Nat)), some (.ref na), some (.ref bl), some (.int (i : Nat)), some (.ref ll), some (.ref lk), some cv, none] ∧ Fz (Eqd d) H F H9 F9 ∧ Same F8 F9 ∧ Deck H9 F9 d ∧ H9 bl = some (.lst vb) ∧ F9 bl = none ∧ PxIn K F9 pl cv p9 ∧ BG (rg m) ⟨nm, pl, p9⟩, ?_, ?_⟩
      · have stay : BG (rg m) ⟨nm, pl, p8⟩ := ⟨ok8, by show p8.ht ≤ 6; omega, .inl pg8⟩
        obtain ⟨la, vl, ela, hla, hvl⟩ := hlets8
        cases ela
        have hlaH := dk8.sub _ _ hla
        have dpl : DpAll K H8 vl (letD pl) := by
          cases pl with
          | none => rw [show vl = [] from hvl]; exact .nil
          | some p =>
            obtain ⟨t, u, h3, h4, h5⟩ := hvl
            rw [h3]
            exact .cons (dp_tup ⟨t, rfl, sq_t dk8.sub h4⟩ (.cons (.str _) (.cons (pxD_dp (h5.up dk8.sub)) .nil))) .nil
        refine ⟨_, rfl, (by decide : 0 ≤ sizeLine), fun q hq => ?_⟩
        have y := Fz.raw (o := .lst []) dk8.sub hq
        have d9 := dk8.mv y (fun z => z)
        have eb9 := y.same _ _ eb8
        have dpl' : DpAll K (upd H8 q (.lst [])) vl (letD pl) := by
          cases pl with
          | none => rw [show vl = [] from hvl]; exact .nil
          | some p =>
            obtain ⟨t, u, h3, h4, h5⟩ := hvl
            rw [h3]
            exact .cons (dp_tup ⟨t, rfl, sq_t y.sub h4⟩ (.cons (.str _) (.cons (pxD_dp (h5.up y.sub)) .nil))) .nil
        refine ⟨_, _, .lst (SqL.of (y.sub _ _ hla)) dpl', .lst (SqL.of upd_same) .nil, letD_shaped rg_ok (fun p e => ⟨(hpl p e).2.1, by have := (hpl p e).2.2; omega⟩), by decide +kernel, _, rfl, ?_⟩
        rw [letD_eqv]
        cases pl with
        | none => exact inF rfl (iteF ⟨F8, v8, p8, rfl, z08.trans y.to, Same.refl _, d9, eb9, fb8, e8 _, stay⟩)
        | some p =>
          obtain ⟨pgp, okp, htp⟩ := hpl p rfl
          refine inT rfl ⟨_, rfl, F8, d, 2, rfl, d9, by decide, by decide, fun q' H10 hq' z10 dk10 => ⟨rfl, _, rfl, ite2 (fun e => ?_) (fun e => ?_)⟩⟩
          · have eb10 := z10.keep _ _ (Ne.symm ndb) eb9
            refine ⟨two_ok, fun q1 hq1 => ?_⟩
            obtain ⟨y1, d11⟩ := deck_nw (o := .tup [.str "name", .str "part"]) dk10 hq1
            refine ⟨_, rfl, three_ok, fun q2 hq2 => ?_⟩
            obtain ⟨y2, d12⟩ := deck_nw (o := .tup [.str "add", .ref q1, v8]) d11 hq2
            have yy := y.to.trans (z10.trans (y1.trans y2))
            refine ⟨_, _, .bin .add (.part p) p8, rfl, z08.trans yy, yy.grow, d12, (y1.trans y2).keep _ _ (Ne.symm ndb) eb10, (y1.trans y2).outS fb8 eb10, ⟨.ref q1, v8, ⟨q2, rfl, .inl (.inl upd_same)⟩, ⟨⟨q1, rfl, .inl (.inl (y2.grow _ _ upd_same))⟩, rfl⟩, (e8 _).up (y1.grow.trans y2.grow)⟩, ⟨⟨okp, ok8⟩, by show (Px.bin .add (.part p) p8).ht ≤ 6; simp only [Px.ht]; omega, .inr ⟨p, p8, rfl, pgp, pg8, rfl⟩⟩⟩
          · have eb10 := z10.keep _ _ (Ne.symm ndb) eb9
            exact ⟨F8, v8, p8, rfl, z08.trans (y.to.trans z10), Same.refl _, dk10, eb10, fb8, e8 _, stay⟩
      · rintro σ' H9 ⟨F9, cv, p9, rfl, z9, g9, dk9, eb9, fb9, hcv, hbg9⟩
        have gF : Same F' F9 := g6.trans (g7.trans (z8.grow.trans g9))
        have hna9 := dk9.sub _ _ (gF _ _ (g _ _ hnaF))
        have es : ((rg m).map V.str)[i]? = some (.str nm) := by rw [List.getElem?_map, hnmi]; rfl
        refine ⟨_, rfl, .inl ⟨rfl, _, SqL.of eb9⟩, _, rfl, _, rfl, na, _, _, _, rfl, rfl, SqL.of hna9, atI_nat es, _, rfl, _, rfl, F9, nm, _, _, pl, p9, rfl, dk9.sub, (hlets.up z8.grow).up g9, hcv, fun bv H10 F10 z10 hbv => ?_⟩
        have d10 := dk9.mv z10 (fun z => z)
        have eb10 := z10.same _ _ eb9
        have fb10 := z10.outS fb9 eb9
        have lvb : vb.length ≤ 3 := by
          have := pr_len pb
          have h2 := congrArg List.length hnm
          rw [List.length_map, List.length_take, lrg] at h2
          omega
        refine ⟨bl, vb, _, rfl, rfl, eb10, small10 (by omega), ?_⟩
        have gG := gF.trans z10.grow
        refine ⟨_, _, _, _, F10, vb ++ [bv], bs ++ [(⟨nm, pl, p9⟩ : Bd)], rfl, (z9.trans z10.to).set (.inl hblH) fb10, g.trans gG, d10.put ndb fb10, upd_same, fb10, pr_snoc (paired_up upBo gG pb) (show BoF K F10 bv ⟨nm, pl, p9⟩ from hbv), ?_, fun b hb => ?_⟩
        · rw [List.map_append, hnm, List.take_add_one, hnmi]; rfl
        · rcases List.mem_append.mp hb with h | h
          · exact hbg b h
          · rw [List.mem_singleton.mp h]; exact hbg9
  · obtain ⟨r4, r5, r6, r7, F', vb, bs, rfl, z, g, dk, eb, fb, pb, hnm, hbg⟩ := hp
    rw [Int.toNat_natCast, List.take_of_length_le (by omega)] at hnm
    have z3 := z.freeze hblH eb fb
    exact ⟨_, rfl, k _ _ _ bs z3 (dk.fz eb ndb fb) ⟨bl, vb, rfl, upd_same, paired_up upBo (same_upd fb) pb⟩ hnm hbg⟩
end
end K3
end
section
set_option Elab.async false
set_option linter.all false
set_option maxRecDepth 100000
set_option exponentiation.threshold 100
namespace K3
open PySem PySem.Spec PyProof.Rows L2
/-! ### _law_told -/
section
variable {P : Program} {w : World} {K : PySem.W.Frag} {mg : Str → Option Value} {base : Heap}
def ToP (K : PySem.W.Frag) (W : Wd Str) (day : Nat) (ring : List Str) (bs : List Bd) (v : V) (F' : Hp) : Prop := ∃ l, v = .ref l ∧ match sysE W day ring bs with
  | .error n => F' l = some (.lst [.str "straight", .str n])
  | .ok fs => ((sweep (augT (matT (fs.map (rowF ring))) (fs.map (·.2))) ring.length).2.2.length = ring.length ∧ ∃ xs, F' l = some (.lst [.str "one", xs]) ∧ RFs K F' xs ((sweep (augT (matT (fs.map (rowF ring))) (fs.map (·.2))) ring.length).1.map fun d => at0 d ring.length)) ∨
    ((sweep (augT (matT (fs.map (rowF ring))) (fs.map (·.2))) ring.length).2.2.length < ring.length ∧ ∃ lv wv, F' l = some (.lst [.str "many", lv, wv]) ∧ IsL RS F' lv ring ∧ ∃ f, f < ring.length ∧ f ∉ (sweep (matT (fs.map (rowF ring))) ring.length).2.2 ∧ RFs K F' wv (kv ring.length f (sweep (matT (fs.map (rowF ring))) ring.length).1 (sweep (matT (fs.map (rowF ring))) ring.length).2.2))
def spTold (K : PySem.W.Frag) : Sp := fun vs H Q _ => ∃ (F : Hp) (bv rg wv : V) (bs : List Bd) (W : Wd Str) (day : Nat) (ring : List Str), vs = [bv, rg, .int (day : Nat), wv] ∧ Same F H ∧ IsL (BoF K) F bv bs ∧ IsL RS F rg ring ∧ WoP K F wv W ∧ BsL W day ring bs ∧ Ret N0 H F (ToP K W day ring bs) Q
def tStr (K : PySem.W.Frag) : Addr → Value → Option Addr → TS := fun a cls d => tRet (tLst (tCons (tC (.str "straight")) (tCons (tXf a cls d (He.ga K "NotStraight") "name" (tVar 4)) tNil)))
def tMany (K : PySem.W.Frag) : Addr → Value → Option Addr → TS := fun a cls d => tRet (tLst (tCons (tC (.str "many")) (tCons (tXf a cls d (He.ga K "NoSingleRate") "ring" (tVar 4)) (tCons (tXf a cls d (He.ga K "NoSingleRate") "weights" (tVar 4)) tNil))))
theorem g_L_told (T : Txt K mg) : G P w K mg base CX0 50 "_law_told" p_L_told (spTold K) := by
  refine G.mk' T.df_L_told T.g_L_told (fun _ _ _ _ _ _ us hl => match us, hl with | [_, _, _, _], _ => rfl) fun fd F => ?_
  refine F.ok sc_L_told (fun vs H Q E h => ?_) (fun cdv A outer s H vs Q E hr h => ?_)
  · obtain ⟨_, _, _, _, _, _, _, _, rfl, _⟩ := h
    rfl
  obtain ⟨F, bv, rgv, wv, bs, W, day, ring, rfl, hs, hb, hrg, hW, ok, k⟩ := h
  obtain ⟨wl, f, r, rfl, hwl, tf, tr⟩ := hW
  have three_ok : 3 ≤ sizeLine := by decide
  refine ⟨_, pss_one (ps_try_manyAs (tb := fun W => tRet (tLst (tCons (tC (.str "one")) (tCons (tCallS (spRates K) (WE W) (tCons (tVar 0) (tCons (tVar 1) (tCons (tVar 2) (tCons (tOp (rIxL K) (tVar 3) (tC (.int 0))) (tCons (tOp (rIxL K) (tVar 3) (tC (.int 1))) tNil)))))) tNil))))
      (l := [(.ref (He.ga K "NotStraight"), 4, tStr K), (.ref (He.ga K "NoSingleRate"), 4, tMany K)]) rfl rfl sc_L_told.nd takes0
      (fun W pn xe tk hp => by exact pss_one (ps_ret (pe_lst (pa_cons pe_str (pa_cons (pe_gS (g_ring_rates T) (hr.mono (by omega)) (by rfl) (fun σ => passAt tk σ) (pa_cons (pv 0) (pa_cons (pv 1) (pa_cons (pv 2) (pa_cons (pe_ix ix_list (pv 3) pe_int (fun _ _ => rfl)) (pa_cons (pe_ix ix_list (pv 3) pe_int (fun _ _ => rfl)) pa_nil)))))) pa_nil)))))
      (HdsAs.cons (i := 4) rfl rfl ⟨by rfl, by decide, .inl T.g_NotStraight⟩ (fun a oe cls d pn hz hf => by exact pss_one (ps_ret (pe_lst (pa_cons pe_str (pa_cons (by exact pe_xf T.e_NotStraight.xf T.n_NotStraight_name hz hf (pv 4)) pa_nil)))))
        (HdsAs.cons (i := 4) rfl rfl ⟨by rfl, by decide, .inl T.g_NoSingleRate⟩ (fun a oe cls d pn hz hf => by exact pss_one (ps_ret (pe_lst (pa_cons pe_str (pa_cons (by exact pe_xf T.e_NoSingleRate.xf T.n_NoSingleRate_ring hz hf (pv 4)) (pa_cons (by exact pe_xf T.e_NoSingleRate.xf T.n_NoSingleRate_weights hz hf (pv 4)) pa_nil)))))) .nil))), ?_⟩
  refine ⟨_, rfl, _, rfl, _, rfl, _, rfl, wl, _, _, _, rfl, rfl, SqL.of (hs _ _ hwl), rfl, _, rfl, wl, _, _, _, rfl, rfl, SqL.of (hs _ _ hwl), rfl, ?_⟩
  refine ⟨F, bv, rgv, f, r, bs, W, day, ring, rfl, hs, hb, hrg, tf, tr, ok.b, ok.s, ok.ne, ?_⟩
  cases qs : sysE W day ring bs with
  | error n =>
    intro d H2 F2 z e2
    refine ⟨true, T.x_NotStraight_NotStraight, fun _ ea hea => ?_, fun h => by cases h⟩
    refine ⟨_, rfl, rfl, rfl, d, _, _, rfl, e2, rfl, two_ok, fun q hq => ?_⟩
    have y := Fz.nw (o := .lst [.str "straight", .str n]) z.sub hq
    refine k _ _ _ (z.trans y) ⟨q, rfl, ?_⟩
    rw [qs]; exact upd_same
  | ok fs =>
    refine ⟨fun e1 v H2 F2 z hv => ⟨two_ok, fun q hq => ?_⟩, fun e1 d H2 F2 lv wv' z e2 h3 h4 => ?_⟩
    · have y := Fz.nw (o := .lst [.str "one", v]) z.sub hq
      refine k _ _ _ (z.trans y) ⟨q, rfl, ?_⟩
      rw [qs]
      exact .inl ⟨e1, v, upd_same, upFs _ _ _ _ y.grow hv⟩
    · refine ⟨false, T.x_NoSingleRate_NotStraight, fun h => Bool.noConfusion h, fun _ => ?_⟩
      refine ⟨true, T.x_NoSingleRate_NoSingleRate, fun _ ea hea => ?_, fun h => Bool.noConfusion h⟩
      refine ⟨_, rfl, rfl, rfl, d, _, _, rfl, e2, rfl, _, rfl, rfl, rfl, d, _, _, rfl, e2, rfl, three_ok, fun q hq => ?_⟩
      have y := Fz.nw (o := .lst [.str "many", lv, wv']) z.sub hq
      refine k _ _ _ (z.trans y) ⟨q, rfl, ?_⟩
      rw [qs]
      obtain ⟨f', h5, h6, h7⟩ := h4
      exact .inr ⟨e1, lv, wv', upd_same, IsL.up upS _ _ _ _ y.grow h3, f', h5, h6, upFs _ _ _ _ y.grow h7⟩
end
end K3
end
section
set_option Elab.async false
set_option linter.all false
set_option maxRecDepth 100000
set_option exponentiation.threshold 100
namespace K3
open PySem PySem.Spec PyProof.Rows L2
/-! ### sizes of forms and values -/
/-- the factors and the rest of a form -/
structure FBd (a c p q : Nat) (f : Fm Str) : Prop where
  co : ∀ n, Bt a c (f.1 n)
  re : Bt p q f.2
theorem FBd.mono {a c p q a' c' p' q' : Nat} {f : Fm Str} (h : FBd a c p q f) (h1 : a ≤ a' := by omega) (h2 : c ≤ c' := by omega) (h3 : p ≤ p' := by omega) (h4 : q ≤ q' := by omega) : FBd a' c' p' q' f := ⟨fun n => (h.co n).mono h1 h2, h.re.mono h3 h4⟩
theorem FBd.sm {a c p q : Nat} {f : Fm Str} (h : FBd a c p q f) (h1 : a ≤ 4400 := by omega) (h2 : c ≤ 4400 := by omega) (h3 : p ≤ 4400 := by omega) (h4 : q ≤ 4400 := by omega) : FSm f := ⟨fun n => (h.co n).mono h1 h2, h.re.mono h3 h4⟩
theorem FBd.sl {a c p q : Nat} {f : Fm Str} (h : FBd a c p q f) (h2 : c ≤ 3331 := by omega) (h4 : q ≤ 3331 := by omega) : FSl f := ⟨fun n => Sl.of (h.co n) h2, Sl.of h.re h4⟩
theorem comb_bd {ring : List Str} {w : BinW} {f g h : Fm Str} {a c p q a' c' p' q' : Nat} (hw : w ≠ .multiply) (hf : FBd a c p q f) (hg : FBd a' c' p' q' g) (e : comb ring w f g = some h) : FBd (max (a + c') (a' + c) + 1) (c + c') (max (p + q') (p' + q) + 1) (q + q') h := by
  cases w with
  | add => cases e; exact ⟨fun n => bt_add (hf.co n) (hg.co n), bt_add hf.re hg.re⟩
  | subtract => cases e; exact ⟨fun n => bt_sub (hf.co n) (hg.co n), bt_sub hf.re hg.re⟩
  | multiply => exact absurd rfl hw
  | min =>
    simp only [comb] at e
    by_cases h1 : (noF ring f && noF ring g) = true
    · rw [if_pos h1] at e; cases e
      refine ⟨fun n => bt_zero.mono (by omega) (by omega), ?_⟩
      show Bt _ _ (if f.2 ≤ g.2 then f.2 else g.2)
      by_cases z : f.2 ≤ g.2
      · rw [if_pos z]; exact hf.re.mono (by omega) (by omega)
      · rw [if_neg z]; exact hg.re.mono (by omega) (by omega)
    · rw [if_neg h1] at e; cases e
  | max =>
    simp only [comb] at e
    by_cases h1 : (noF ring f && noF ring g) = true
    · rw [if_pos h1] at e; cases e
      refine ⟨fun n => bt_zero.mono (by omega) (by omega), ?_⟩
      show Bt _ _ (if g.2 ≤ f.2 then f.2 else g.2)
      by_cases z : g.2 ≤ f.2
      · rw [if_pos z]; exact hf.re.mono (by omega) (by omega)
      · rw [if_neg z]; exact hg.re.mono (by omega) (by omega)
    · rw [if_neg h1] at e; cases e
/-- number * form -/
theorem comb_num {ring : List Str} {x : Rat} {g h : Fm Str} (e : comb ring .multiply (fun _ => 0, x) g = some h) : h = scF g x := by
  have h1 : noF ring ((fun _ => 0, x) : Fm Str) = true := noF_iff.2 fun _ _ => rfl
  simp only [comb] at e
  rw [if_pos h1] at e
  exact (Option.some.inj e).symm
theorem num_bd {x : Rat} {g : Fm Str} {a c p q s t : Nat} (hx : Bt s t x) (hg : FBd a c p q g) : FBd (a + s) (c + t) (p + s) (q + t) (scF g x) := ⟨fun n => bt_mul (hg.co n) hx, bt_mul hg.re hx⟩
/-- by depth: factors (a, c), rests (p, q) -/
def pgB : Nat → (Nat × Nat) × (Nat × Nat)
  | 0 => ((0, 0), (3, 7))
  | n + 1 => let b := pgB n; ((max (b.1.1 + b.1.2 + 1) (b.1.1 + 2), b.1.2 + max b.1.2 2), (max (b.2.1 + b.2.2 + 1) (b.2.1 + 2), b.2.2 + max b.2.2 2))
structure WdB (W : Wd Str) (day : Nat) : Prop where
  f : ∀ (n : Str) (x : Rat), (W.facts n)[day]? = some x → Bt 3 7 x
theorem leaf_bd {W : Wd Str} {day : Nat} {ring : List Str} (hW : WdB W day) {l : Leaf Str} (ok : l.Ok ring FT) {f : Fm Str} (e : fm W day ring (.leaf l) = some f) : FBd 0 0 3 7 f := by
  cases l with
  | pct x => cases e; exact ⟨fun n => bt_zero, (bt_mul ok (show Bt 0 7 (1 / 100) from ⟨by decide +kernel, by decide +kernel⟩)).mono (by decide) (by decide)⟩
  | num x => cases e; exact ⟨fun n => bt_zero, Bt.mono (show Bt 3 3 x from ok) (by decide) (by decide)⟩
  | fact n =>
    cases q : lfv W day (.fact n) with
    | error m => simp only [fm, q] at e; cases e
    | ok x =>
      simp only [fm, q] at e
      cases e
      simp only [lfv] at q
      cases q2 : (W.facts n)[day]? with
      | none => rw [q2] at q; cases q
      | some y => rw [q2] at q; cases q; exact ⟨fun n => bt_zero, hW.f n _ q2⟩
  | rate n =>
    cases e
    refine ⟨fun m => ?_, bt_zero.mono (by decide) (by decide)⟩
    show Bt 0 0 (if m = n then (1 : Rat) else 0)
    by_cases h : m = n
    · rw [if_pos h]; exact bt_one
    · rw [if_neg h]; exact bt_zero
theorem pg_bd {W : Wd Str} {day : Nat} {ring : List Str} (hW : WdB W day) : ∀ {D : Nat} {p : Px Str}, PG D p → p.Ok ring FT → D ≤ 2 → (OkL W day ring p ∧ ∀ f, fm W day ring p = some f → FBd (pgB D).1.1 (pgB D).1.2 (pgB D).2.1 (pgB D).2.2 f) := by
  intro D p h
  induction h with
  | @leaf n l =>
    intro ok hD
    refine ⟨trivial, fun f e => (leaf_bd hW ok e).mono (Nat.zero_le _) (Nat.zero_le _) ?_ ?_⟩
    · match n, hD with
      | 0, _ => decide
      | 1, _ => decide
      | 2, _ => decide
    · match n, hD with
      | 0, _ => decide
      | 1, _ => decide
      | 2, _ => decide
  | @ite n c p q hp hq ihp ihq =>
    intro ok hD
    obtain ⟨o1, b1⟩ := ihp ok.2.1 (by omega)
    obtain ⟨o2, b2⟩ := ihq ok.2.2 (by omega)
    refine ⟨⟨o1, o2⟩, fun f e => ?_⟩
    have up : ∀ f, FBd (pgB n).1.1 (pgB n).1.2 (pgB n).2.1 (pgB n).2.2 f → FBd (pgB (n + 1)).1.1 (pgB (n + 1)).1.2 (pgB (n + 1)).2.1 (pgB (n + 1)).2.2 f := fun f h => h.mono (by simp only [pgB]; omega) (by simp only [pgB]; omega) (by simp only [pgB]; omega) (by simp only [pgB]; omega)
    simp only [fm] at e
    cases q0 : trv W c day with
    | error m => rw [q0] at e; cases e
    | ok b =>
      rw [q0] at e
      cases b with
      | true => exact up f (b1 f e)
      | false => exact up f (b2 f e)
  | @mul n x p hx hp ih =>
    intro ok hD
    obtain ⟨o1, b1⟩ := ih ok.2 (by omega)
    have sz : (pgB n).1.1 ≤ 10 ∧ (pgB n).1.2 ≤ 10 ∧ (pgB n).2.1 ≤ 30 ∧ (pgB n).2.2 ≤ 30 := by
      match n, hD with
      | 0, _ => decide
      | 1, _ => decide
    have key : ∀ f g, fm W day ring (.leaf (.num x)) = some f → fm W day ring p = some g → FSm f ∧ FSm g ∧ ∀ h, comb ring .multiply f g = some h → FSl h ∧ FBd (pgB (n + 1)).1.1 (pgB (n + 1)).1.2 (pgB (n + 1)).2.1 (pgB (n + 1)).2.2 h := by
      intro f g e1 e2
      have hf := leaf_bd hW ok.1 e1
      have hg := b1 g e2
      cases e1
      refine ⟨hf.sm, hg.sm (by omega) (by omega) (by omega) (by omega), fun h e3 => ?_⟩
      rw [comb_num e3]
      have hb := num_bd hx hg
      exact ⟨hb.sl (by omega) (by omega), hb.mono (by simp only [pgB]; omega) (by simp only [pgB]; omega) (by simp only [pgB]; omega) (by simp only [pgB]; omega)⟩
    refine ⟨⟨trivial, o1, fun f g e1 e2 => ⟨(key f g e1 e2).1, (key f g e1 e2).2.1, fun h e3 => ((key f g e1 e2).2.2 h e3).1⟩⟩, fun f e => ?_⟩
    simp only [fm] at e
    cases e2 : fm W day ring p with
    | none => simp only [fm, lfv, e2] at e; cases e
    | some g =>
      simp only [fm, lfv, e2] at e
      exact ((key _ g rfl e2).2.2 f e).2
  | @bin n w p q hw hp hq ihp ihq =>
    intro ok hD
    obtain ⟨o1, b1⟩ := ihp ok.1 (by omega)
    obtain ⟨o2, b2⟩ := ihq ok.2 (by omega)
    have sz : (pgB n).1.1 ≤ 10 ∧ (pgB n).1.2 ≤ 10 ∧ (pgB n).2.1 ≤ 30 ∧ (pgB n).2.2 ≤ 30 := by
      match n, hD with
      | 0, _ => decide
      | 1, _ => decide
    have key : ∀ f g, fm W day ring p = some f → fm W day ring q = some g → FSm f ∧ FSm g ∧ ∀ h, comb ring w f g = some h → FSl h ∧ FBd (pgB (n + 1)).1.1 (pgB (n + 1)).1.2 (pgB (n + 1)).2.1 (pgB (n + 1)).2.2 h := by
      intro f g e1 e2
      have hf := b1 f e1
      have hg := b2 g e2
      refine ⟨hf.sm (by omega) (by omega) (by omega) (by omega), hg.sm (by omega) (by omega) (by omega) (by omega), fun h e3 => ?_⟩
      have hb := comb_bd hw hf hg e3
      exact ⟨hb.sl (by omega) (by omega), hb.mono (by simp only [pgB]; omega) (by simp only [pgB]; omega) (by simp only [pgB]; omega) (by simp only [pgB]; omega)⟩
    refine ⟨⟨o1, o2, fun f g e1 e2 => ⟨(key f g e1 e2).1, (key f g e1 e2).2.1, fun h e3 => ((key f g e1 e2).2.2 h e3).1⟩⟩, fun f e => ?_⟩
    simp only [fm] at e
    cases e1 : fm W day ring p with
    | none => rw [e1] at e; cases e
    | some f1 =>
      rw [e1] at e
      cases e2 : fm W day ring q with
      | none => simp only [e2] at e; cases e
      | some g1 =>
        simp only [e2] at e
        exact ((key f1 g1 e1 e2).2.2 f e).2
end K3
end
section
set_option Elab.async false
set_option linter.all false
set_option maxRecDepth 100000
set_option exponentiation.threshold 100
namespace K3
open PySem PySem.Spec PyProof.Rows L2
/-! ### sizes of coupons, of the system -/
theorem bg_bd {W : Wd Str} {day : Nat} {ring : List Str} (hW : WdB W day) {b : Bd} (h : BG ring b) : OkL W day ring b.coupon ∧ ∀ f, fm W day ring b.coupon = some f → FBd 8 6 41 42 f := by
  rcases h.how with h1 | ⟨p, q, _, h1, h2, e⟩
  · obtain ⟨o, bd⟩ := pg_bd hW h1 h.ok (by omega)
    exact ⟨o, fun f e => (bd f e).mono (by decide) (by decide) (by decide) (by decide)⟩
  · have ok := h.ok
    rw [e] at ok ⊢
    obtain ⟨o1, b1⟩ := pg_bd hW h1 (show p.Ok ring FT from ok.1) (by omega)
    obtain ⟨o2, b2⟩ := pg_bd hW h2 ok.2 (by omega)
    have key : ∀ f g, fm W day ring (.part p) = some f → fm W day ring q = some g → FSm f ∧ FSm g ∧ ∀ h, comb ring .add f g = some h → FSl h ∧ FBd 8 6 41 42 h := by
      intro f g e1 e2
      have hf : FBd 2 2 11 14 f := (b1 f e1).mono (by decide) (by decide) (by decide) (by decide)
      have hg : FBd 5 4 26 28 g := (b2 g e2).mono (by decide) (by decide) (by decide) (by decide)
      refine ⟨hf.sm, hg.sm, fun h e3 => ?_⟩
      have hb := comb_bd (by decide) hf hg e3
      exact ⟨hb.sl, hb.mono⟩
    refine ⟨⟨o1, o2, fun f g e1 e2 => ⟨(key f g e1 e2).1, (key f g e1 e2).2.1, fun h e3 => ((key f g e1 e2).2.2 h e3).1⟩⟩, fun f e => ?_⟩
    simp only [fm] at e
    cases e1 : fm W day ring p with
    | none => rw [e1] at e; cases e
    | some f1 =>
      rw [e1] at e
      cases e2 : fm W day ring q with
      | none => simp only [e2] at e; cases e
      | some g1 =>
        simp only [e2] at e
        exact ((key f1 g1 e1 e2).2.2 f e).2
theorem fm_bin {W : Wd Str} {day : Nat} {ring : List Str} {w : BinW} {p q : Px Str} : fm W day ring (.bin w p q) = (match fm W day ring p with | none => none | some f => match fm W day ring q with | none => none | some g => comb ring w f g) := by
  rw [fm]
  cases fm W day ring p with
  | none => rfl
  | some f => cases fm W day ring q <;> rfl
/-- the linear coupons: each factor is one share -/
theorem lg_bd {W : Wd Str} {day : Nat} {ring : List Str} (hW : WdB W day) (nd : ring.Nodup) : ∀ {i : Nat} {p : Px Str}, LG ring i p → p.Ok ring FT → (OkL W day ring p ∧ ∃ f, fm W day ring p = some f ∧ FBd 3 3 3 7 f ∧ ∀ n, n ∉ ring.take i → f.1 n = 0) := by
  intro i p h
  induction h with
  | zero x => exact fun ok => ⟨trivial, _, rfl, (leaf_bd (l := .pct x) hW ok rfl).mono, fun n _ => rfl⟩
  | @succ i p n s hp hn hs ih =>
    intro ok
    obtain ⟨o, f, ef, bf, zf⟩ := ih ok.1
    have bx : Bt 3 3 (Rat.divInt (s : Int) 6) := ok.2.1
    have hi := (List.getElem?_eq_some_iff.mp hn).1
    have hnot : n ∉ ring.take i := fun hm => by
      obtain ⟨j, hj, e⟩ := List.getElem_of_mem hm
      rw [List.getElem_take] at e
      rw [List.length_take] at hj
      have : j = i := (List.getElem?_inj (by omega) nd).mp (by rw [hn, List.getElem?_eq_getElem (by omega), e])
      omega
    have e1 : fm W day ring (.leaf (.num (Rat.divInt (s : Int) 6))) = some (fun _ => 0, Rat.divInt (s : Int) 6) := rfl
    have e2 : fm W day ring (.leaf (.rate n)) = some (fun x => if x = n then 1 else 0, 0) := rfl
    have e3 : fm W day ring (.bin .multiply (.leaf (.num (Rat.divInt (s : Int) 6))) (.leaf (.rate n))) = some (scF (fun x => if x = n then 1 else 0, 0) (Rat.divInt (s : Int) 6)) := by
      have h1 : noF ring ((fun _ => 0, Rat.divInt (s : Int) 6) : Fm Str) = true := noF_iff.2 fun _ _ => rfl
      show comb ring .multiply (fun _ => 0, Rat.divInt (s : Int) 6) (fun x => if x = n then 1 else 0, 0) = _
      simp only [comb]
      rw [if_pos h1]
    have hx0 : FBd 0 0 3 3 ((fun _ => 0, Rat.divInt (s : Int) 6) : Fm Str) := ⟨fun _ => bt_zero, bx⟩
    have hr0 : FBd 0 0 0 0 ((fun x => if x = n then 1 else 0, 0) : Fm Str) := ⟨fun m => by
      show Bt 0 0 (if m = n then (1 : Rat) else 0)
      by_cases h : m = n
      · rw [if_pos h]; exact bt_one
      · rw [if_neg h]; exact bt_zero, bt_zero⟩
    have hg : FBd 3 3 3 3 (scF ((fun x => if x = n then 1 else 0, 0) : Fm Str) (Rat.divInt (s : Int) 6)) := (num_bd bx hr0).mono
    have efm : fm W day ring (.bin .add p (.bin .multiply (.leaf (.num (Rat.divInt (s : Int) 6))) (.leaf (.rate n)))) = some (fun x => f.1 x + (scF ((fun x => if x = n then 1 else 0, 0) : Fm Str) (Rat.divInt (s : Int) 6)).1 x, f.2 + (scF ((fun x => if x = n then 1 else 0, 0) : Fm Str) (Rat.divInt (s : Int) 6)).2) := by
      rw [fm_bin, ef, e3]
      rfl
    have hnew : FBd 3 3 3 7 ((fun x => f.1 x + (scF ((fun x => if x = n then 1 else 0, 0) : Fm Str) (Rat.divInt (s : Int) 6)).1 x, f.2 + (scF ((fun x => if x = n then 1 else 0, 0) : Fm Str) (Rat.divInt (s : Int) 6)).2) : Fm Str) := by
      refine ⟨fun m => ?_, ?_⟩
      · show Bt 3 3 (f.1 m + (if m = n then 1 else 0) * Rat.divInt (s : Int) 6)
        by_cases h : m = n
        · rw [if_pos h, h, zf n hnot, Rat.one_mul, Rat.zero_add]; exact bx
        · rw [if_neg h, Rat.zero_mul, Rat.add_zero]; exact bf.co m
      · show Bt 3 7 (f.2 + 0 * Rat.divInt (s : Int) 6)
        rw [Rat.zero_mul, Rat.add_zero]; exact bf.re
    refine ⟨⟨o, ⟨trivial, trivial, fun f' g' h1 h2 => ?_⟩, fun f' g' h1 h2 => ?_⟩, _, efm, hnew, fun m hm => ?_⟩
    · rw [e1] at h1
      rw [e2] at h2
      cases h1; cases h2
      refine ⟨hx0.sm, hr0.sm, fun h e => ?_⟩
      rw [comb_num e]
      exact hg.sl
    · rw [ef] at h1
      rw [e3] at h2
      cases h1; cases h2
      refine ⟨bf.sm, hg.sm, fun h e => ?_⟩
      cases e
      exact hnew.sl
    · show f.1 m + (if m = n then 1 else 0) * Rat.divInt (s : Int) 6 = 0
      have h1 : m ≠ n := fun z => hm (by rw [z, List.take_add_one, hn]; exact List.mem_append_right _ List.mem_cons_self)
      have h2 : m ∉ ring.take i := fun z => hm (by rw [List.take_add_one]; exact List.mem_append_left _ z)
      rw [if_neg h1, zf m h2, Rat.zero_mul, Rat.add_zero]
theorem sysE_get {W : Wd Str} {day : Nat} {ring : List Str} : ∀ {bs : List Bd} {fs : List (Fm Str)}, sysE W day ring bs = .ok fs → ∀ {i : Nat} {f : Fm Str}, fs[i]? = some f → ∃ b, bs[i]? = some b ∧ fm W day ring b.coupon = some f
  | [], fs, e, i, f, h => by cases e; simp at h
  | b :: bs, fs, e, i, f, h => by
    simp only [sysE] at e
    cases q : fm W day ring b.coupon with
    | none => rw [q] at e; cases e
    | some f0 =>
      rw [q] at e
      cases q2 : sysE W day ring bs with
      | error m => simp only [q2] at e; cases e
      | ok l =>
        simp only [q2] at e
        cases e
        cases i with
        | zero => simp at h; subst h; exact ⟨b, rfl, q⟩
        | succ i => exact sysE_get q2 (by simpa using h)
theorem sizes_of {W : Wd Str} {day : Nat} {ring : List Str} {bs : List Bd} (h : ∀ b ∈ bs, ∀ f, fm W day ring b.coupon = some f → FBd 8 6 41 42 f) (hl : bs.length = ring.length) : Sizes W day ring bs := by
  have key : ∀ fs, sysE W day ring bs = .ok fs → ∀ f ∈ fs, FBd 8 6 41 42 f := fun fs e f hf => by
    obtain ⟨i, hi, ei⟩ := List.getElem_of_mem hf
    obtain ⟨b, hb, eb⟩ := sysE_get e (show fs[i]? = some f by rw [List.getElem?_eq_getElem hi, ei])
    exact h b (List.mem_of_getElem? hb) f eb
  refine ⟨fun fs e f hf => (key fs e f hf).sm, fun fs e m hm => ?_, fun fs e j => ?_⟩
  · obtain ⟨i, hi, e2⟩ := List.getElem_of_mem hm
    rw [matT_len, List.length_map] at hi
    have e3 : (fs.map (rowF ring))[i]? = some (rowF ring fs[i]) := by rw [List.getElem?_map, List.getElem?_eq_getElem hi]; rfl
    have e4 := matT_get e3
    rw [List.getElem?_eq_getElem (by rw [matT_len, List.length_map]; exact hi), e2] at e4
    have em : m = rowT i (rowF ring fs[i]) := Option.some.inj e4
    subst em
    have hf := key fs e _ (List.getElem_mem hi)
    intro j
    have lr : (rowT i (rowF ring fs[i])).length = ring.length := by rw [rowT_len]; unfold rowF; rw [List.length_map]
    refine ⟨fun hj => ?_, fun hj => ?_⟩
    · have hjr : j < (rowF ring fs[i]).length := by unfold rowF; rw [List.length_map]; exact hj
      have e5 := rowT_get (i := i) (List.getElem?_eq_getElem hjr)
      rw [show at0 (rowT i (rowF ring fs[i])) j = (if j = i then 1 else 0) - (rowF ring fs[i])[j] from by unfold at0; rw [List.getD_eq_getElem?_getD, e5]; rfl]
      obtain ⟨nn, enn⟩ : ∃ n, (rowF ring fs[i])[j] = fs[i].1 n := by
        unfold rowF
        exact ⟨_, List.getElem_map _⟩
      rw [enn]
      show Bt 9 6 _
      have b0 : Bt 0 0 (if j = i then (1 : Rat) else 0) := by
        by_cases h : j = i
        · rw [if_pos h]; exact bt_one
        · rw [if_neg h]; exact bt_zero
      exact (bt_sub b0 (hf.co nn)).mono (by decide) (by decide)
    · rw [show at0 (rowT i (rowF ring fs[i])) j = 0 from by unfold at0; rw [List.getD_eq_getElem?_getD, List.getElem?_eq_none (by omega)]; rfl]
      exact bt_zero.mono (by decide) (by decide)
  · unfold at0
    rw [List.getD_eq_getElem?_getD, List.getElem?_map]
    cases q : fs[j]? with
    | none => exact bt_zero.mono (by decide) (by decide)
    | some f => exact (key fs e f (List.mem_of_getElem? q)).re
end K3
end
section
set_option Elab.async false
set_option linter.all false
set_option maxRecDepth 100000
set_option exponentiation.threshold 100
namespace K3
open PySem PySem.Spec PyProof.Rows L2
/-! ### sizes of values -/
structure WdV (W : Wd Str) (day : Nat) : Prop where
  f : ∀ (n : Str) (x : Rat), (W.facts n)[day]? = some x → Bt 743 741 x
  r : ∀ (n : Str) (x : Rat), (W.rates n)[day]? = some x → Bt 743 741 x
def vB : Nat → Nat × Nat
  | 0 => (743, 741)
  | n + 1 => ((vB n).1 + (vB n).2 + 1, (vB n).2 + (vB n).2)
theorem leaf_v {W : Wd Str} {day : Nat} {ring : List Str} (hW : WdV W day) {l : Leaf Str} (ok : l.Ok ring FT) {x : Rat} (e : lfv W day l = .ok x) : Bt 743 741 x := by
  cases l with
  | pct y => cases e; exact (bt_mul ok (show Bt 0 7 (1 / 100) from ⟨by decide +kernel, by decide +kernel⟩)).mono (by decide) (by decide)
  | num y => cases e; exact Bt.mono (show Bt 3 3 x from ok) (by decide) (by decide)
  | fact n =>
    simp only [lfv] at e
    cases q : (W.facts n)[day]? with
    | none => rw [q] at e; cases e
    | some y => rw [q] at e; cases e; exact hW.f n _ q
  | rate n =>
    simp only [lfv] at e
    cases q : (W.rates n)[day]? with
    | none => rw [q] at e; cases e
    | some y => rw [q] at e; cases e; exact hW.r n _ q
theorem binV_bd {w : BinW} {x y : Rat} {a c : Nat} (hw : w ≠ .multiply) (hx : Bt a c x) (hy : Bt a c y) : Bt (a + c + 1) (c + c) (binV w x y) := by
  cases w with
  | add => exact (bt_add hx hy).mono (by omega) (by omega)
  | subtract => exact (bt_sub hx hy).mono (by omega) (by omega)
  | multiply => exact absurd rfl hw
  | min =>
    show Bt _ _ (if x ≤ y then x else y)
    by_cases z : x ≤ y
    · rw [if_pos z]; exact hx.mono (by omega) (by omega)
    · rw [if_neg z]; exact hy.mono (by omega) (by omega)
  | max =>
    show Bt _ _ (if y ≤ x then x else y)
    by_cases z : y ≤ x
    · rw [if_pos z]; exact hx.mono (by omega) (by omega)
    · rw [if_neg z]; exact hy.mono (by omega) (by omega)
theorem pxv_bin {W : Wd Str} {day : Nat} {w : BinW} {p q : Px Str} {v : Rat} (e : pxv W day (.bin w p q) = .ok v) : ∃ x y, pxv W day p = .ok x ∧ pxv W day q = .ok y ∧ v = binV w x y := by
  simp only [pxv] at e
  cases e1 : pxv W day p with
  | error m => rw [e1] at e; cases e
  | ok x =>
    rw [e1] at e
    cases e2 : pxv W day q with
    | error m => simp only [e2] at e; cases e
    | ok y => simp only [e2] at e; cases e; exact ⟨x, y, rfl, rfl, rfl⟩
theorem pv_bd {W : Wd Str} {day : Nat} {ring : List Str} (hW : WdV W day) : ∀ {D : Nat} {p : Px Str}, PG D p → p.Ok ring FT → D ≤ 2 → (OkV W day p ∧ ∀ x, pxv W day p = .ok x → Bt (vB D).1 (vB D).2 x) := by
  intro D p h
  induction h with
  | @leaf n l =>
    intro ok hD
    refine ⟨trivial, fun x e => (leaf_v hW ok e).mono ?_ ?_⟩
    · match n, hD with
      | 0, _ => decide
      | 1, _ => decide
      | 2, _ => decide
    · match n, hD with
      | 0, _ => decide
      | 1, _ => decide
      | 2, _ => decide
  | @ite n c p q hp hq ihp ihq =>
    intro ok hD
    obtain ⟨o1, b1⟩ := ihp ok.2.1 (by omega)
    obtain ⟨o2, b2⟩ := ihq ok.2.2 (by omega)
    refine ⟨⟨o1, o2⟩, fun x e => ?_⟩
    simp only [pxv] at e
    cases q0 : trv W c day with
    | error m => rw [q0] at e; cases e
    | ok b =>
      rw [q0] at e
      cases b with
      | true => exact (b1 x e).mono (by simp only [vB]; omega) (by simp only [vB]; omega)
      | false => exact (b2 x e).mono (by simp only [vB]; omega) (by simp only [vB]; omega)
  | @mul n z p hz hp ih =>
    intro ok hD
    obtain ⟨o1, b1⟩ := ih ok.2 (by omega)
    have sz : 741 ≤ (vB n).2 ∧ (vB n).1 ≤ 1485 ∧ (vB n).2 ≤ 1482 := by
      match n, hD with
      | 0, _ => decide
      | 1, _ => decide
    refine ⟨⟨trivial, o1, fun x y e1 e2 => ?_⟩, fun v e => ?_⟩
    · cases e1
      have hy := b1 y e2
      exact ⟨hz.mono (by omega) (by omega), hy.mono (by omega) (by omega), Sl.of (bt_mul hz hy) (by omega)⟩
    · obtain ⟨x, y, e1, e2, rfl⟩ := pxv_bin e
      cases e1
      exact (bt_mul hz (b1 y e2)).mono (by simp only [vB]; omega) (by simp only [vB]; omega)
  | @bin n w p q hw hp hq ihp ihq =>
    intro ok hD
    obtain ⟨o1, b1⟩ := ihp ok.1 (by omega)
    obtain ⟨o2, b2⟩ := ihq ok.2 (by omega)
    have sz : 741 ≤ (vB n).2 ∧ (vB n).1 ≤ 1485 ∧ (vB n).2 ≤ 1482 := by
      match n, hD with
      | 0, _ => decide
      | 1, _ => decide
    refine ⟨⟨o1, o2, fun x y e1 e2 => ?_⟩, fun v e => ?_⟩
    · have hx := b1 x e1
      have hy := b2 y e2
      exact ⟨hx.mono (by omega) (by omega), hy.mono (by omega) (by omega), Sl.of (binV_bd hw hx hy) (by omega)⟩
    · obtain ⟨x, y, e1, e2, rfl⟩ := pxv_bin e
      exact binV_bd hw (b1 x e1) (b2 y e2)
theorem bg_v {W : Wd Str} {day : Nat} {ring : List Str} (hW : WdV W day) {b : Bd} (h : BG ring b) {v : Rat} (e : pxv W day b.coupon = .ok v) (hv : Sl v) : OkV W day b.coupon := by
  rcases h.how with h1 | ⟨p, q, _, h1, h2, ec⟩
  · exact (pv_bd hW h1 h.ok (by omega)).1
  · have ok := h.ok
    rw [ec] at ok e ⊢
    obtain ⟨o1, b1⟩ := pv_bd hW h1 (show p.Ok ring FT from ok.1) (by omega)
    obtain ⟨o2, b2⟩ := pv_bd hW h2 ok.2 (by omega)
    refine ⟨o1, o2, fun x y e1 e2 => ?_⟩
    have hx := b1 x e1
    have hy := b2 y e2
    obtain ⟨x', y', e1', e2', rfl⟩ := pxv_bin e
    rw [e1] at e1'
    rw [e2] at e2'
    cases e1'; cases e2'
    exact ⟨hx.mono (by decide) (by decide), hy.mono (by decide) (by decide), hv⟩
theorem lg_v {W : Wd Str} {day : Nat} {ring : List Str} (hW : WdV W day) : ∀ {i : Nat} {p : Px Str}, LG ring i p → p.Ok ring FT → i ≤ 3 → (OkV W day p ∧ ∀ x, pxv W day p = .ok x → Bt (750 * i + 750) (745 * i + 745) x) := by
  intro i p h
  induction h with
  | zero x => exact fun ok _ => ⟨trivial, fun y e => (leaf_v hW ok e).mono (by omega) (by omega)⟩
  | @succ i p n s hp hn hs ih =>
    intro ok hi
    obtain ⟨o, b⟩ := ih ok.1 (by omega)
    have bx : Bt 3 3 (Rat.divInt (s : Int) 6) := ok.2.1
    have mulB : ∀ y, pxv W day (.leaf (.rate n)) = .ok y → Bt 746 744 (Rat.divInt (s : Int) 6 * y) := fun y e => (bt_mul bx (leaf_v hW (l := .rate n) ok.2.2 e)).mono (by omega) (by omega)
    refine ⟨⟨o, ⟨trivial, trivial, fun x y e1 e2 => ?_⟩, fun x y e1 e2 => ?_⟩, fun v e => ?_⟩
    · cases e1
      exact ⟨bx.mono (by decide) (by decide), (leaf_v hW (l := .rate n) ok.2.2 e2).mono (by decide) (by decide), Sl.of (mulB y e2) (by decide)⟩
    · obtain ⟨x', y', e1', e2', rfl⟩ := pxv_bin e2
      cases e1'
      have h1 := b x e1
      have h2 := mulB y' e2'
      exact ⟨h1.mono (by omega) (by omega), Bt.mono h2 (by decide) (by decide), Sl.of (bt_add h1 h2) (by omega)⟩
    · obtain ⟨x, y, e1, e2, rfl⟩ := pxv_bin e
      obtain ⟨x', y', e1', e2', rfl⟩ := pxv_bin e2
      cases e1'
      exact (bt_add (b x e1) (mulB y' e2')).mono (by omega) (by omega)
/-! ### the two solutions -/
theorem sol_row {T D R : List Row} {Pv : List Nat} {W n : Nat} {M : List Row} (I : SI W T n D R Pv) (x : Ext n M T) (h : Pv.length = n) (hM : M.length = n) (hW : n < W) (hT : ∀ t ∈ T, t.length = W) {i : Nat} {m : Row} {t : Row} (em : M[i]? = some m) (et : T[i]? = some t) : dot m (at0 (D.map fun d => at0 d n)) = at0 t n := by
  have q := sol_ok I h (by rw [x.len, hM]) (fun i t e => by rw [hT t (List.mem_of_getElem? e)]; exact hW) i t et
  obtain ⟨ex, e⟩ := x.at_ i m em
  rw [et] at e
  have e := Option.some.inj e
  have hm := x.w m (List.mem_of_getElem? em)
  rw [e, List.take_append_of_le_length (by omega), List.take_of_length_le (by omega)] at q
  rw [e]
  exact q
theorem dot_sub' : ∀ (a : Row) (y z : Nat → Rat), dot a (fun j => y j - z j) = dot a y - dot a z
  | [], y, z => by show (0 : Rat) = 0 - 0; grind
  | x :: a, y, z => by
    have ih := dot_sub' a (fun i => y (i + 1)) (fun i => z (i + 1))
    show x * (y 0 - z 0) + dot a (fun i => y (i + 1) - z (i + 1)) = (x * y 0 + dot a fun i => y (i + 1)) - (x * z 0 + dot a fun i => z (i + 1))
    rw [ih]; grind
theorem sol_same {M : List Row} {n : Nat} {a b : Row} (hk : KerTriv n M) (hw : ∀ m ∈ M, m.length = n) (h : ∀ m ∈ M, dot m (at0 a) = dot m (at0 b)) (la : a.length = n) (lb : b.length = n) : a = b := by
  have key := hk (fun j => at0 a j - at0 b j) fun m hm => by
    have : dot m (fun j => at0 a j - at0 b j) = dot m (at0 a) - dot m (at0 b) := dot_sub' m _ _
    rw [this, h m hm]; grind
  refine List.ext_getElem (by omega) fun j h1 h2 => ?_
  have := key j (by omega)
  have e1 : at0 a j = a[j] := by unfold at0; rw [List.getD_eq_getElem?_getD, List.getElem?_eq_getElem h1]; rfl
  have e2 : at0 b j = b[j] := by unfold at0; rw [List.getD_eq_getElem?_getD, List.getElem?_eq_getElem h2]; rfl
  have this : at0 a j - at0 b j = 0 := this
  rw [e1, e2] at this
  grind
end K3
end
section
set_option Elab.async false
set_option linter.all false
set_option maxRecDepth 100000
set_option exponentiation.threshold 100
namespace K3
open PySem PySem.Spec PyProof.Rows L2
/-! ### the plain law -/
theorem dot_rowT_aux (i : Nat) : ∀ (r : Row) (z : Nat → Rat) (off : Nat), dot ((List.range r.length).map fun j => (if j + off = i then 1 else 0) - at0 r j) z = (if off ≤ i ∧ i < off + r.length then z (i - off) else 0) - dot r z
  | [], z, off => by
    show (0 : Rat) = _ - 0
    rw [if_neg (fun q => by have h1 := q.1; have h2 : i < off + 0 := q.2; omega)]; grind
  | x :: r, z, off => by
    have ih := dot_rowT_aux i r (fun j => z (j + 1)) (off + 1)
    rw [List.length_cons, List.range_succ_eq_map, List.map_cons, List.map_map]
    show ((if 0 + off = i then 1 else 0) - x) * z 0 + dot ((List.range r.length).map fun j => (if (j + 1) + off = i then 1 else 0) - at0 (x :: r) (j + 1)) (fun j => z (j + 1)) = _ - (x * z 0 + dot r fun j => z (j + 1))
    have e : ((List.range r.length).map fun j => (if (j + 1) + off = i then (1 : Rat) else 0) - at0 (x :: r) (j + 1)) = (List.range r.length).map fun j => (if j + (off + 1) = i then 1 else 0) - at0 r j := by
      refine List.map_congr_left fun j _ => ?_
      have h1 : at0 (x :: r) (j + 1) = at0 r j := rfl
      have h2 : (j + 1) + off = j + (off + 1) := by omega
      rw [h1, h2]
    rw [e, ih]
    by_cases h0 : off = i
    · rw [if_pos (show 0 + off = i by omega), if_neg (show ¬ (off + 1 ≤ i ∧ i < off + 1 + r.length) by omega), if_pos (show off ≤ i ∧ i < off + (r.length + 1) by omega), show i - off = 0 by omega]; grind
    · rw [if_neg (show ¬ 0 + off = i by omega)]
      by_cases h1 : off + 1 ≤ i ∧ i < off + 1 + r.length
      · rw [if_pos h1, if_pos (show off ≤ i ∧ i < off + (r.length + 1) by omega), show i - off = (i - (off + 1)) + 1 by omega]; grind
      · rw [if_neg h1, if_neg (show ¬ (off ≤ i ∧ i < off + (r.length + 1)) by omega)]; grind
theorem dot_rowT {i : Nat} {r : Row} (z : Nat → Rat) (h : i < r.length) : dot (rowT i r) z = z i - dot r z := by
  have := dot_rowT_aux i r z 0
  rw [if_pos (by omega), Nat.sub_zero] at this
  exact this
theorem dot_rowF (c : Str → Rat) (x : Str → Rat) : ∀ (ring : List Str) (z : Nat → Rat), (∀ (k : Nat) (n : Str), ring[k]? = some n → x n = z k) → dot (ring.map c) z = dotF ring c x
  | [], z, _ => rfl
  | n :: r, z, h => by
    show c n * z 0 + dot (r.map c) (fun i => z (i + 1)) = c n * x n + dotF r c x
    rw [h 0 n rfl, dot_rowF c x r _ fun k m e => h (k + 1) m (by simpa using e)]
section
variable {W : Wd Str} {day : Nat} {ring : List Str} {bs : List Bd} {fs : List (Fm Str)}
abbrev mM (ring : List Str) (fs : List (Fm Str)) : List Row := matT (fs.map (rowF ring))
abbrev rR (fs : List (Fm Str)) : Row := fs.map (·.2)
theorem mM_w : ∀ m ∈ mM ring fs, m.length = ring.length := matT_w fun r hr => by
  obtain ⟨g, _, rfl⟩ := List.mem_map.mp hr
  unfold rowF; rw [List.length_map]
theorem mM_len : (mM ring fs).length = fs.length := by rw [matT_len, List.length_map]
/-- with a full set of pivots there is but one solution; else there is a kernel vector -/
theorem full_triv {T D R : List Row} {Pv : List Nat} {Wd n : Nat} {M : List Row} (I : SI Wd T n D R Pv) (x : Ext n M T) : Pv.length = n ↔ KerTriv n M := by
  constructor
  · exact ker_triv I x
  · intro hk
    rcases Nat.lt_or_ge Pv.length n with h | h
    · obtain ⟨f, h1, h2⟩ := I.free h
      have kk := kv_ok I x h1 h2
      have e : at0 (kv n f D Pv) f = 0 := hk _ kk.1 f h1
      rw [kk.2] at e
      exact absurd e (by decide)
    · have := I.le; omega
theorem sols_eq {D R : List Row} {Pv : List Nat} (hfs : fs.length = ring.length) (I : SI (ring.length + 1) (lawT (mM ring fs) (rR fs)) ring.length D R Pv) (h1 : (sweep (augT (mM ring fs) (rR fs)) ring.length).2.2.length = ring.length) (h2 : Pv.length = ring.length) :
    ((sweep (augT (mM ring fs) (rR fs)) ring.length).1.map fun d => at0 d ring.length) = D.map fun d => at0 d ring.length := by
  have lM : (mM ring fs).length = ring.length := by rw [mM_len, hfs]
  have hA := augT_w (r := rR fs) (mM_w (ring := ring) (fs := fs))
  have I1 := si_sweep hA ring.length (by omega)
  have x1 := augT_ext (r := rR fs) (mM_w (ring := ring) (fs := fs))
  have x2 := lawT_ext (r := rR fs) (mM_w (ring := ring) (fs := fs))
  have hk := (full_triv I1 x1).1 h1
  refine sol_same hk mM_w (fun m hm => ?_) (by rw [List.length_map, I1.len, h1]) (by rw [List.length_map, I.len, h2])
  obtain ⟨i, hi, e⟩ := List.getElem_of_mem hm
  have em : (mM ring fs)[i]? = some m := by rw [List.getElem?_eq_getElem hi, e]
  have l := mM_w (ring := ring) (fs := fs) m hm
  rw [sol_row I1 x1 h1 lM (by omega) hA em (augT_at em), sol_row I x2 h2 lM (by omega) (lawT_w mM_w) em (lawT_get em)]
  unfold at0
  simp only [List.getD_eq_getElem?_getD]
  rw [List.getElem?_append_right (by omega), List.getElem?_append_right (by omega), l, Nat.sub_self]
  rfl
/-- the solution's rates: the coupon's value is the rate -/
theorem coupon_val {b : Bd} {f : Fm Str} {i : Nat} (hfs : fs.length = ring.length) (nd : ring.Nodup) (h1 : (sweep (augT (mM ring fs) (rR fs)) ring.length).2.2.length = ring.length)
    (ef : fs[i]? = some f) (ok : b.coupon.Ok ring FT) (e : fm W day ring b.coupon = some f) {W' : Wd Str} (hle : W.Le W')
    (hx : ∀ (k : Nat) (n : Str), ring[k]? = some n → (W'.rates n)[day]? = some (at0 ((sweep (augT (mM ring fs) (rR fs)) ring.length).1.map fun d => at0 d ring.length) k)) :
    pxv W' day b.coupon = .ok (at0 ((sweep (augT (mM ring fs) (rR fs)) ring.length).1.map fun d => at0 d ring.length) i) := by
  have lM : (mM ring fs).length = ring.length := by rw [mM_len, hfs]
  have hA := augT_w (r := rR fs) (mM_w (ring := ring) (fs := fs))
  have I1 := si_sweep hA ring.length (by omega)
  have x1 := augT_ext (r := rR fs) (mM_w (ring := ring) (fs := fs))
  have hi := (List.getElem?_eq_some_iff.mp ef).1
  have er : (fs.map (rowF ring))[i]? = some (rowF ring f) := by rw [List.getElem?_map, ef]; rfl
  have em := matT_get er
  have q := sol_row I1 x1 h1 lM (by omega) hA em (augT_at em)
  have lr : (rowF ring f).length = ring.length := by unfold rowF; rw [List.length_map]
  rw [dot_rowT _ (by omega)] at q
  let z := at0 ((sweep (augT (mM ring fs) (rR fs)) ring.length).1.map fun d => at0 d ring.length)
  let x : Str → Rat := fun n => ((W'.rates n)[day]?).getD 0
  have hxz : ∀ (k : Nat) (n : Str), ring[k]? = some n → x n = z k := fun k n e => by show ((W'.rates n)[day]?).getD 0 = _; rw [hx k n e]; rfl
  have hv := fm_val hle nd (day := day) (x := x) (fun n hn => by
    obtain ⟨k, hk, e⟩ := List.getElem_of_mem hn
    have e2 := hx k n (by rw [List.getElem?_eq_getElem hk, e])
    rw [e2]
    show some _ = some (((W'.rates n)[day]?).getD 0)
    rw [e2]; rfl) b.coupon f ok e
  rw [hv]
  congr 1
  have e3 : dot (rowF ring f) z = dotF ring f.1 x := dot_rowF f.1 x ring z hxz
  have e4 : at0 (rowT i (rowF ring f) ++ (at0 (rR fs) i :: unitRow (mM ring fs).length i)) ring.length = f.2 := by
    unfold at0
    rw [List.getD_eq_getElem?_getD, List.getElem?_append_right (by rw [rowT_len]; omega), rowT_len, lr, Nat.sub_self]
    show (rR fs).getD i 0 = f.2
    rw [List.getD_eq_getElem?_getD, List.getElem?_map, ef]; rfl
  rw [e4] at q
  have q : z i - dot (rowF ring f) z = f.2 := q
  rw [e3] at q
  show dotF ring f.1 x + f.2 = z i
  grind
/-- the numbers of the answer are small -/
theorem sol_bd (hs : Sizes W day ring bs) (e : sysE W day ring bs = .ok fs) (hn : ring.length ≤ 3) (j : Nat) : Bt 743 741 (at0 ((sweep (augT (mM ring fs) (rR fs)) ring.length).1.map fun d => at0 d ring.length) j) := by
  have hA := augT_w (r := rR fs) (mM_w (ring := ring) (fs := fs))
  have hB := augT_B (mM_w (ring := ring) (fs := fs)) (hs.m fs e) (hs.r fs e)
  have key := (sweep_rowB hA hB (by omega) ring.length (Nat.le_refl _)).1
  unfold at0
  rw [List.getD_eq_getElem?_getD, List.getElem?_map]
  cases q : (sweep (augT (mM ring fs) (rR fs)) ring.length).1[j]? with
  | none => exact bt_zero.mono (by decide) (by decide)
  | some d =>
    have := (key d (List.mem_of_getElem? q) ring.length).2 (Nat.le_refl _)
    have b3 : (bd ring.length).2.1 ≤ 743 ∧ (bd ring.length).2.2 ≤ 741 := by
      match ring.length, hn with
      | 0, _ => decide
      | 1, _ => decide
      | 2, _ => decide
      | 3, _ => decide
    exact this.mono b3.1 b3.2
theorem kvF_bd {a c : Nat} (f : Nat) : ∀ (l : List (Row × Nat)) (v : Row), (∀ q ∈ l, Bt a c (at0 q.1 f)) → (∀ x ∈ v, Bt a c x) → ∀ x ∈ kvF f l v, Bt a c x
  | [], v, _, h, x, hx => h x hx
  | (d, p) :: l, v, hl, h, x, hx => by
    refine kvF_bd f l (v.set p (-(at0 d f))) (fun q hq => hl q (List.mem_cons_of_mem _ hq)) (fun y hy => ?_) x hx
    rcases List.mem_or_eq_of_mem_set hy with h1 | h1
    · exact h y h1
    · rw [h1]; exact bt_neg (hl (d, p) List.mem_cons_self)
theorem ker_bd (hs : Sizes W day ring bs) (e : sysE W day ring bs = .ok fs) (hn : ring.length ≤ 3) {f : Nat} (hf : f < ring.length) : ∀ x ∈ kv ring.length f (sweep (mM ring fs) ring.length).1 (sweep (mM ring fs) ring.length).2.2, Bt 500 500 x := by
  have key := (sweep_rowB (mM_w (ring := ring) (fs := fs)) (hs.m fs e) (Nat.le_refl _) ring.length (Nat.le_refl _)).1
  have b3 : (bd ring.length).1.1 ≤ 500 ∧ (bd ring.length).1.2 ≤ 500 := by
    match ring.length, hn with
    | 0, _ => decide
    | 1, _ => decide
    | 2, _ => decide
    | 3, _ => decide
  refine kvF_bd f _ _ (fun q hq => ?_) fun x hx => ?_
  · have := (key q.1 (List.of_mem_zip hq).1 f).1 hf
    exact this.mono b3.1 b3.2
  · rcases List.mem_or_eq_of_mem_set hx with h1 | h1
    · rw [(List.mem_replicate.mp h1).2]; exact bt_zero.mono (by decide) (by decide)
    · rw [h1]; exact bt_one.mono (by decide) (by decide)
theorem ker_ok {f : Nat} (hf : f < ring.length) (hp : f ∉ (sweep (mM ring fs) ring.length).2.2) : (∀ m ∈ mM ring fs, dot m (at0 (kv ring.length f (sweep (mM ring fs) ring.length).1 (sweep (mM ring fs) ring.length).2.2)) = 0) ∧ at0 (kv ring.length f (sweep (mM ring fs) ring.length).1 (sweep (mM ring fs) ring.length).2.2) f = 1 :=
  kv_ok (si_sweep mM_w ring.length (Nat.le_refl _)) (Ext.refl mM_w) hf hp
end
end K3
end
section
set_option Elab.async false
set_option linter.all false
set_option maxRecDepth 100000
set_option exponentiation.threshold 100
namespace K3
open PySem PySem.Spec PyProof.Rows L2
/-! ### the law -/
section
variable {P : Program} {w : World} {K : PySem.W.Frag} {mg : Str → Option Value} {base : Heap}
/-- drawn, or linear -/
def BX (ring : List Str) (b : Bd) : Prop := BG ring b ∨ (LG ring ring.length b.coupon ∧ b.coupon.Ok ring FT ∧ b.coupon.ht ≤ 6)
def spLaw (K : PySem.W.Frag) : Sp := fun vs H Q _ => ∃ (a : Addr) (ns : List Int), vs = [.ref a] ∧ SqL K H a (ns.map V.int) ∧ ∀ H', Q (.bl true) H'
theorem rg3 {m : Nat} (h : m ≤ 3) : [V.str "a", V.str "b", V.str "c"].take m = (rg m).map V.str := by
  match m, h with
  | 0, _ => rfl
  | 1, _ => rfl
  | 2, _ => rfl
  | 3, _ => rfl
theorem rg_nd {m : Nat} : (rg m).Nodup := List.Nodup.sublist (List.take_sublist _ _) (by decide +kernel)
theorem sysE_err {W : Wd Str} {day : Nat} {ring : List Str} {n : Str} : ∀ {bs : List Bd}, sysE W day ring bs = .error n → ∃ b ∈ bs, b.name = n
  | [], e => by cases e
  | b :: bs, e => by
    simp only [sysE] at e
    cases q : fm W day ring b.coupon with
    | none => rw [q] at e; cases e; exact ⟨b, List.mem_cons_self, rfl⟩
    | some f0 =>
      rw [q] at e
      cases q2 : sysE W day ring bs with
      | error m =>
        simp only [q2] at e
        cases e
        obtain ⟨b', h1, h2⟩ := sysE_err q2
        exact ⟨b', List.mem_cons_of_mem _ h1, h2⟩
      | ok l => simp only [q2] at e; cases e
theorem strs_refl (l : List Str) : PyData.eqv (.list (l.map PyData.str)) (.list (l.map PyData.str)) = true := by
  have key : ∀ l : List Str, PyData.eqvAll (l.map PyData.str) (l.map PyData.str) = true := by
    intro l
    induction l with
    | nil => simp [PyData.eqvAll]
    | cons n l ih => simp [PyData.eqvAll, PyData.eqv, ih]
  simp only [PyData.eqv]
  exact key l
theorem bsl_of {W : Wd Str} {day m : Nat} {bs : List Bd} (hm1 : 1 ≤ m) (hm3 : m ≤ 3) (hday : day < 100) (hf : TabB W.facts (day + 1) FT) (hr : TabB W.rates day (rg m)) (hn : bs.map Bd.name = rg m) (hx : ∀ b ∈ bs, BX (rg m) b) : BsL W day (rg m) bs := by
  have lrg := rg_len hm3
  have hW : WdB W day := ⟨fun n x e => hf.bt n x (List.mem_of_getElem? e)⟩
  have key : ∀ b ∈ bs, OkL W day (rg m) b.coupon ∧ (∀ f, fm W day (rg m) b.coupon = some f → FBd 8 6 41 42 f) ∧ b.coupon.Ok (rg m) FT ∧ b.coupon.ht ≤ 6 := fun b hb => by
    rcases hx b hb with h | ⟨h1, h2, h3⟩
    · obtain ⟨o, bd⟩ := bg_bd hW h
      exact ⟨o, bd, h.ok, h.ht⟩
    · obtain ⟨o, f, ef, bf, _⟩ := lg_bd hW rg_nd h1 h2
      refine ⟨o, fun f' e => ?_, h2, h3⟩
      rw [ef] at e
      cases e
      exact bf.mono
  have lbs : bs.length = (rg m).length := by rw [← hn, List.length_map]
  refine ⟨⟨hn, rg_nd, by omega, ⟨fun n h => ?_, fun n j x e => (hf.bt n x (List.mem_of_getElem? e)).mono (by decide) (by decide), fun n j x e => (hr.bt n x (List.mem_of_getElem? e)).mono (by decide) (by decide), by omega⟩, fun n h => hr.len n h, fun b hb => ⟨(key b hb).2.2.1, (key b hb).2.2.2, (key b hb).1.okF⟩⟩, fun b hb => (key b hb).1, sizes_of (fun b hb => (key b hb).2.1) lbs, fun z => by rw [z] at lrg; simp at lrg; omega⟩
  have : n ∈ FT := by rcases h with rfl | rfl <;> decide +kernel
  rw [hf.len n this]; omega
theorem ok_law (T : Txt K mg) {fd : FuncData} (F : FunD K "law" "law" (defArgs s_law) (defBody s_law) (defScope s_law) [] [] (He.fAd K ("law", none)) fd) : FnOk P w K mg base CX0 52 (He.ga K "law") fd p_law (spLaw K) := by
  refine F.ok sc_law (fun vs H Q E h => ?_) (fun cdv A outer s H vs Q _ hr hh => ?_)
  · obtain ⟨_, _, rfl, _⟩ := h
    rfl
  obtain ⟨sa, sn, rfl, hsa, k⟩ := hh
  have three_ok : 3 ≤ sizeLine := by decide
  refine ⟨_, PSs.nox (pss_cons (ps_set (i := 1) sc_law.nd rfl (.inr rfl) (pe_g (g_L_deck T) (hr.mono (by omega)) (by rfl) pass0 (pa_cons (pv 0) pa_nil)))
  (pss_cons (ps_set (i := 2) sc_law.nd rfl (.inl rfl) (pe_g (g_L_draw T) (hr.mono (by omega)) (by rfl) pass0 (pa_cons (pv 1) (pa_cons pe_int pa_nil))))
  (pss_cons (ps_set (i := 3) sc_law.nd rfl (.inr rfl) (pe_slice sl_list (pe_lst (pa_cons pe_str (pa_cons pe_str (pa_cons pe_str pa_nil)))) po_none (po_some (pe_op op_add pe_int (pe_g (g_L_draw T) (hr.mono (by omega)) (by rfl) pass0 (pa_cons (pv 1) (pa_cons pe_int pa_nil)))))))
  (pss_cons (ps_set (i := 4) sc_law.nd rfl (.inl rfl) (pe_g (g_L_bonds T) (hr.mono (by omega)) (by rfl) pass0 (pa_cons (pv 1) (pa_cons (pe_callB call_len_seq (by rfl) T.f_len (by decide +kernel) (pa_cons (pv 3) pa_nil)) pa_nil))))
  (pss_cons (ps_set (i := 5) sc_law.nd rfl (.inr rfl) (pe_g (g_L_draw T) (hr.mono (by omega)) (by rfl) pass0 (pa_cons (pv 1) (pa_cons pe_int pa_nil))))
  (pss_cut (ps_if (pt_cmpR op_lt (pv 5) pe_int (nomark _)) (pss_one (ps_setLc (i := 4) (own := [("_law_name", 11)]) (g := gName 11) (tt := tYes) rfl sc_law.nd rfl rfl (sw_true rfl rfl rfl (by decide +kernel)) (pi_list (pv 3)) (blkOk_by (own := [("_law_name", 11)]) (N := n_law) (sc := defScope s_law) (by decide +kernel)) (fun _ _ _ _ _ => (pg_name (i := 11) sc_law.nd rfl (Or.inl rfl))) (fun _ _ _ _ _ => pts_nil) (fun _ _ _ _ _ => (pe_g (g_L_bond T) (hr.mono (by omega)) (by rfl) pass0 (pa_cons (pv 11) (pa_cons (pe_lst pa_nil) (pa_cons (pe_g (g_L_linear T) (hr.mono (by omega)) (by rfl) pass0 (pa_cons (pv 1) (pa_cons (pv 3) (pa_cons (pe_cmpR op_eq (pv 5) pe_int (nomark _)) pa_nil)))) pa_nil))))))) pss_nil)
  (pss_cut (ps_set (i := 6) sc_law.nd rfl (.inl rfl) (pe_g (g_L_world T) (hr.mono (by omega)) (by rfl) pass0 (pa_cons (pv 1) (pa_cons (pv 3) (pa_cons (pv 2) pa_nil)))))
  (pss_cons (ps_set (i := 7) sc_law.nd rfl (.inl rfl) (pe_g (g_L_ring_answer T) (hr.mono (by omega)) (by rfl) pass0 (pa_cons (pv 4) (pa_cons (pv 3) (pa_cons (pv 2) (pa_cons (pe_ix ix_list (pv 6) pe_int (fun _ _ => rfl)) (pa_cons (pe_ix ix_list (pv 6) pe_int (fun _ _ => rfl)) pa_nil)))))))
  (pss_cons (ps_set (i := 8) sc_law.nd rfl (.inr rfl) (pe_g (g_L_told T) (hr.mono (by omega)) (by rfl) pass0 (pa_cons (pe_callTy call_list_of (by rfl) T.f_list (by decide +kernel) (pa_cons (pv 4) pa_nil)) (pa_cons (pe_callTy call_list_of (by rfl) T.f_list (by decide +kernel) (pa_cons (pv 3) pa_nil)) (pa_cons (pv 2) (pa_cons (pv 6) pa_nil))))))
  (pss_cons (ps_if (pt_cmpR op_ne (pe_ix ix_list (pv 8) pe_int (fun _ _ => rfl)) (pe_ix ix_list (pv 7) pe_int (fun _ _ => rfl)) (nomark _)) (pss_one (ps_ret pe_bl)) pss_nil)
  (pss_cons (ps_if (pt_cmpR op_eq (pe_ix ix_list (pv 8) pe_int (fun _ _ => rfl)) pe_str (nomark _)) (pss_one (ps_ret (pe_cmpR (op_eqD hr.units) (pe_ix ix_list (pv 8) pe_int (fun _ _ => rfl)) (pe_ix ix_list (pv 7) pe_int (fun _ _ => rfl)) (nomark _)))) pss_nil)
  (pss_cons (ps_if (pt_cmpR op_eq (pe_ix ix_list (pv 8) pe_int (fun _ _ => rfl)) pe_str (nomark _)) (pss_cons (ps_if (pt_not (pt_val (pe_g (g_L_same_list T) (hr.mono (by omega)) (by rfl) pass0 (pa_cons (pe_ix ix_list (pv 8) pe_int (fun _ _ => rfl)) (pa_cons (pe_ix ix_list (pv 7) pe_int (fun _ _ => rfl)) pa_nil))))) (pss_one (ps_ret pe_bl)) pss_nil)
  (pss_cons (ps_set (i := 9) sc_law.nd rfl (.inl rfl) pe_dnewK)
  (pss_cons (ps_for PassesOwn.never rfl (pi_range1 (by rfl) T.f_range (pa_cons (pe_callB call_len_seq (by rfl) T.f_len (by decide +kernel) (pa_cons (pv 3) pa_nil)) pa_nil)) (pg_name (i := 10) sc_law.nd rfl (Or.inl rfl))
    (pss_one (ps_dput (hu_of hr) (pv 9) (pe_ix ix_list (pv 3) (pv 10) (fun _ _ => rfl)) (pe_op op_cat (pe_dget (hu_of hr) (pe_ix ix_list (pv 6) pe_int (fun _ _ => rfl)) (pe_ix ix_list (pv 3) (pv 10) (fun _ _ => rfl)) (fun _ _ => rfl)) (pe_lst (pa_cons (pe_ix ix_list (pe_ix ix_list (pv 8) pe_int (fun _ _ => rfl)) (pv 10) (fun _ _ => rfl)) pa_nil))) rfl)))
  (pss_cons (ps_frz (ps_for PassesOwn.never rfl (pi_range1 (by rfl) T.f_range (pa_cons (pe_callB call_len_seq (by rfl) T.f_len (by decide +kernel) (pa_cons (pv 3) pa_nil)) pa_nil)) (pg_name (i := 10) sc_law.nd rfl (Or.inl rfl))
    (pss_one (ps_if (pt_cmpR (op_neD hr.units) (pe_g (g_L_value T 7) (hr.mono (by omega)) (by rfl) pass0 (pa_cons (pe_fld (pe_ix ix_list (pv 4) (pv 10) (fun _ _ => rfl)) rfl) (pa_cons (pe_fld (pe_ix ix_list (pv 4) (pv 10) (fun _ _ => rfl)) rfl) (pa_cons (pv 2) (pa_cons (pe_ix ix_list (pv 6) pe_int (fun _ _ => rfl)) (pa_cons (pv 9) pa_nil)))))) (pe_ix ix_list (pe_ix ix_list (pv 8) pe_int (fun _ _ => rfl)) (pv 10) (fun _ _ => rfl)) (nomark _)) (pss_one (ps_ret pe_bl)) pss_nil))))
  (pss_one (ps_ret pe_bl)))))) pss_nil)
  (pss_cons (ps_if (PW.pt (pw_or (pt_cmpR (op_neD hr.units) (pe_ix ix_list (pv 8) pe_int (fun _ _ => rfl)) (pv 3) (nomark _)) (pw_or (pt_not (pt_val (pe_callB call_isi (by rfl) T.f_isinstance (by decide +kernel) (pa_cons (pe_ix ix_list (pv 8) pe_int (fun _ _ => rfl)) (pa_cons (pe_bltn (v := .ty "list") (by rfl) T.f_list (by decide +kernel) rfl) pa_nil))))) (pw_or1 (pt_cmpR op_ne (pe_callB call_len_seq (by rfl) T.f_len (by decide +kernel) (pa_cons (pe_ix ix_list (pv 8) pe_int (fun _ _ => rfl)) pa_nil)) (pe_callB call_len_seq (by rfl) T.f_len (by decide +kernel) (pa_cons (pv 3) pa_nil)) (nomark _)))))) (pss_one (ps_ret pe_bl)) pss_nil)
  (pss_cons (ps_if (pt_cmpR (op_eqD hr.units) (pe_lc (own := [("_law_value_here", 12)]) (g := gName 12) rfl sc_law.nd (pi_list (pe_ix ix_list (pv 8) pe_int (fun _ _ => rfl))) (blkOk_by (own := [("_law_value_here", 12)]) (N := n_law) (sc := defScope s_law) (by decide +kernel)) (fun _ _ _ _ _ => (pg_name (i := 12) sc_law.nd rfl (Or.inl rfl))) (fun _ _ _ _ _ => (pts_one (pt_cmpR op_ne (pe_ix (ix_tupK (K := K) rfl) (pv 12) pe_int (fun _ _ => rfl)) pe_int (nomark _)))) (fun _ _ _ _ _ => (pv 12))) (pe_lst pa_nil) (nomark _)) (pss_one (ps_ret pe_bl)) pss_nil)
  (pss_one (ps_ret (pe_cmpR (op_eqD hr.units) (pe_lc (own := [("_law_row", 13)]) (g := gName 13) rfl sc_law.nd (pi_list (pe_ix ix_list (pv 7) pe_int (fun _ _ => rfl))) (blkOk_by (own := [("_law_row", 13)]) (N := n_law) (sc := defScope s_law) (by decide +kernel)) (fun _ _ _ _ _ => (pg_name (i := 13) sc_law.nd rfl (Or.inl rfl))) (fun _ _ _ _ _ => (pts_one (pt_cmpR op_ne (pe_ix (ix_tupK (K := K) rfl) (pe_g (g_L_dot T) (hr.mono (by omega)) (by rfl) pass0 (pa_cons (pv 13) (pa_cons (pe_ix (ix_listK (K := K) rfl) (pv 8) pe_int (fun _ _ => rfl)) pa_nil))) pe_int (fun _ _ => rfl)) pe_int (nomark _)))) (fun _ _ _ _ _ => (pv 13))) (pe_lst pa_nil) (nomark _)))))))))))))))))), ?_⟩
  refine ⟨_, rfl, sa, sn, rfl, hsa, fun H1 F1 d hs1 d1 => ?_⟩
  refine ⟨_, rfl, F1, d, 4, rfl, d1, by decide, by decide, fun day H2 hday z2 d2 => ?_⟩
  refine ⟨three_ok, fun l0 hl0 => ?_⟩
  obtain ⟨y3, d3⟩ := deck_nw (o := .lst [.str "a", .str "b", .str "c"]) d2 hl0
  refine ⟨_, rfl, _, d, 3, rfl, d3, by decide, by decide, fun m0 H4 hm0 z4 d4 => ⟨_, _, rfl, rfl, _, rfl, l0, _, rfl, SqL.of (z4.sub _ _ (z4.grow _ _ upd_same)), fun na hna => ?_⟩⟩
  have em : (1 : Int) + (m0 : Int) = ((m0 + 1 : Nat) : Int) := by omega
  obtain ⟨m, hm1, hm3, hmm⟩ : ∃ m, 1 ≤ m ∧ m ≤ 3 ∧ m = m0 + 1 := ⟨m0 + 1, by omega, by omega, rfl⟩
  rw [em, ← hmm, cut_to, rg3 hm3]
  have lrg := rg_len hm3
  obtain ⟨y5, d5⟩ := deck_nw (o := .lst ((rg m).map V.str)) d4 hna
  have hnaF := upd_same (H := upd F1 l0 (.lst [.str "a", .str "b", .str "c"])) (a := na) (o := .lst ((rg m).map V.str))
  generalize upd (upd F1 l0 (.lst [.str "a", .str "b", .str "c"])) na (.lst ((rg m).map V.str)) = F5 at d5 hnaF
  generalize upd H4 na (.lst ((rg m).map V.str)) = H5 at d5
  have hlm : ((rg m).map V.str).length = m := by rw [List.length_map]; exact lrg
  have hrg5 : IsL RS F5 (.ref na) (rg m) := ⟨na, _, rfl, hnaF, paired_map _ _⟩
  -- the bonds drawn
  refine ⟨_, rfl, _, rfl, na, _, rfl, .inl (SqL.of (d5.sub _ _ hnaF)), F5, d, m, by rw [hlm]; rfl, d5, hm3, fun bv H6 F6 bs z6 d6 hb6 hn6 hg6 => ?_⟩
  refine ⟨_, rfl, F6, d, 6, rfl, d6, by decide, by decide, fun kind H7 hkind z7 d7 => ?_⟩
  have hna7 := z6.grow _ _ hnaF
  refine ⟨fun σ' H8 => ∃ (F8 : Hp) (bv' : V) (bs' : List Bd), σ' = [some (.ref sa), some (.ref d), some (.int (day : Nat)), some (.ref na), some bv', some (.int (kind : Nat)), none, none, none, none, none, none, none, none] ∧ Deck H8 F8 d ∧ IsL RS F8 (.ref na) (rg m) ∧ IsL (BoF K) F8 bv' bs' ∧ bs'.map Bd.name = rg m ∧ ∀ b ∈ bs', BX (rg m) b, ?_, ?_⟩
  · refine ⟨_, rfl, _, _, rfl, rfl, _, rfl, ite2 (fun e => ?_) (fun e => ?_)⟩
    · have ndn : na ≠ d := fun z => by obtain ⟨_, _, _, _, _, h1, h2, _⟩ := d7; rw [← z] at h2; rw [hna7] at h2; cases h2
      have hnaH := d7.sub _ _ hna7
      refine ⟨_, rfl, na, rfl, ⟨_, SqL.of hnaH⟩, lc_LD (a := na) (xs := (rg m).map V.str) (fun j acc F9 => ∃ bs' : List Bd, Paired (BoF K F9) acc bs' ∧ bs'.map Bd.name = (rg m).take j ∧ ∀ b ∈ bs', BX (rg m) b) d7 hnaH ndn ⟨[], .nil, rfl, fun b hb => (List.not_mem_nil hb).elim⟩ (by omega) (fun _ => rfl) (fun j acc H9 F9 v9 hv9 z9 dk9 p9 S S' hS hS' => ?_) (fun E9 ys H9 F9 hE9 z9 dk9 e91 e92 p9 => ?_)⟩
      · obtain ⟨bs', pb', hnm', hbx'⟩ := p9
        obtain ⟨nm, hnm, rfl⟩ : ∃ n, (rg m)[j]? = some n ∧ v9 = V.str n := by
          rw [List.getElem?_map] at hv9
          cases q : (rg m)[j]? with
          | none => rw [q] at hv9; cases hv9
          | some n => rw [q] at hv9; exact ⟨n, rfl, (Option.some.inj hv9).symm⟩
        have hrg9 : IsL RS F9 (.ref na) (rg m) := IsL.up upS _ _ _ _ (z6.grow.trans z9.grow) hrg5
        refine yes ⟨_, rfl, (by decide : 0 ≤ sizeLine), fun le hle => ?_⟩
        obtain ⟨y10, d10⟩ := deck_nw (o := .lst []) dk9 hle
        refine ⟨_, rfl, _, rfl, _, rfl, rfl, _, d, _, rg m, _, rfl, d10, IsL.up upS _ _ _ _ y10.grow hrg9, by omega, fun v11 H11 F11 p11 z11 d11 e11 lg11 ok11 ht11 => ?_⟩
        rw [lrg] at ht11
        refine ⟨F11, nm, _, _, none, p11, rfl, d11.sub, ⟨le, [], rfl, z11.grow _ _ upd_same, rfl⟩, e11 none, fun v12 H12 F12 z12 hv12 => ?_⟩
        have gg := y10.trans (z11.trans z12.to)
        refine hS v12 H12 F12 gg (d11.mv z12 (fun z => z)) ⟨bs' ++ [(⟨nm, none, p11⟩ : Bd)], pr_snoc (paired_up upBo gg.grow pb') (show BoF K F12 v12 ⟨nm, none, p11⟩ from hv12), by rw [List.map_append, hnm', List.take_add_one, hnm]; rfl, fun b hb => ?_⟩
        rcases List.mem_append.mp hb with h | h
        · exact hbx' b h
        · rw [List.mem_singleton.mp h]; exact .inr ⟨lg11, ok11, by show p11.ht ≤ 6; omega⟩
      · obtain ⟨bs', pb', hnm', hbx'⟩ := p9
        rw [hlm, List.take_of_length_le (by omega)] at hnm'
        have ndE : d ≠ E9 := fun z => by obtain ⟨_, _, _, _, _, h1, _⟩ := d7; rw [z, hE9] at h1; cases h1
        have g9 := z9.grow.trans (same_upd (o := .lst ys) e92)
        exact ⟨_, _, bs', rfl, dk9.fz e91 ndE e92, IsL.up upS _ _ _ _ (z6.grow.trans g9) hrg5, ⟨E9, ys, rfl, upd_same, paired_up upBo (same_upd e92) pb'⟩, hnm', hbx'⟩
    · exact ⟨F6, bv, bs, rfl, d7, IsL.up upS _ _ _ _ z6.grow hrg5, hb6, hn6, fun b hb => .inl (hg6 b hb)⟩
  · rintro σ' H8 ⟨F8, bv', bs', rfl, d8, hrg8, hb8, hn8, hx8⟩
    refine ⟨fun σ' H9 => ∃ (F9 : Hp) (wv : V) (W : Wd Str), σ' = [some (.ref sa), some (.ref d), some (.int (day : Nat)), some (.ref na), some bv', some (.int (kind : Nat)), some wv, none, none, none, none, none, none, none] ∧ Same F9 H9 ∧ IsL RS F9 (.ref na) (rg m) ∧ IsL (BoF K) F9 bv' bs' ∧ WoP K F9 wv W ∧ WoK F9 wv (rg m) ∧ TabB W.facts (day + 1) FT ∧ TabB W.rates day (rg m), ?_, ?_⟩
    · refine ⟨_, rfl, _, rfl, _, rfl, F8, d, _, rg m, day, rfl, d8, hrg8, by omega, by omega, fun v H9 F9 W z9 d9 hw hwk hf hr => ?_⟩
      exact ⟨F9, v, W, rfl, d9.sub, IsL.up upS _ _ _ _ z9.grow hrg8, IsL.up upBo _ _ _ _ z9.grow hb8, hw, hwk, hf, hr⟩
    · rintro σ' H9 ⟨F9, wv, W, rfl, hs9, hrg9, hb9, hw9, hwk9, hf9, hr9⟩
      have ok := bsl_of hm1 hm3 (by omega) hf9 hr9 hn8 hx8
      have hw90 := hw9
      obtain ⟨wl, fv, rv, rfl, hwl, tf, tr⟩ := hw90
      -- due
      refine ⟨_, rfl, _, rfl, _, rfl, _, rfl, wl, _, _, _, rfl, rfl, SqL.of (hs9 _ _ hwl), rfl, _, rfl, wl, _, _, _, rfl, rfl, SqL.of (hs9 _ _ hwl), rfl, F9, _, _, _, _, bs', W, day, rg m, rfl, hs9, hb9, hrg9, tf, tr, ok, fun du H10 F10 z10 hdu => ?_⟩
      -- told
      obtain ⟨ba, vb, rfl, hba, pb⟩ := hb9
      obtain ⟨na', vn, ena, hna9, pn⟩ := hrg9
      cases ena
      have evn : vn = (rg m).map V.str := paired_eq pn
      subst evn
      refine ⟨_, rfl, ba, vb, rfl, .inl (SqL.of (z10.same _ _ (hs9 _ _ hba))), fun l1 hl1 => ?_⟩
      have y11 := Fz.nw (o := .lst vb) z10.sub hl1
      refine ⟨_, rfl, na, _, rfl, .inl (SqL.of (y11.same _ _ (z10.same _ _ (hs9 _ _ hna9)))), fun l2 hl2 => ?_⟩
      have y12 := Fz.nw (o := .lst ((rg m).map V.str)) y11.sub hl2
      have z12 := z10.trans (y11.trans y12)
      refine ⟨_, rfl, _, rfl, _, _, _, _, bs', W, day, rg m, rfl, y12.sub, ⟨l1, vb, rfl, y12.grow _ _ upd_same, paired_up upBo z12.grow pb⟩, ⟨l2, _, rfl, upd_same, paired_map _ _⟩, ⟨wl, fv, rv, rfl, z12.grow _ _ hwl, tf.up upTab z12.grow, tr.up upTab z12.grow⟩, ok, fun tv H13 F13 z13 htv => ?_⟩
      obtain ⟨dl, rfl, hdu⟩ := hdu
      obtain ⟨tl, rfl, htv⟩ := htv
      have g1013 : Same F10 F13 := (y11.trans (y12.trans z13)).grow
      have g913 : Same F9 F13 := z10.grow.trans g1013
      have sH : Same F13 H13 := z13.sub
      cases qs : sysE W day (rg m) bs' with
      | error n =>
        rw [qs] at hdu htv
        have hdu := sH _ _ (g1013 _ _ hdu)
        have htv := sH _ _ htv
        have hnok : PyData.strOk n = true := by
          obtain ⟨b, hb, e⟩ := sysE_err qs
          exact rg_ok n (by rw [← hn8, ← e]; exact List.mem_map.mpr ⟨b, hb, rfl⟩)
        refine ⟨_, rfl, tl, _, _, _, rfl, rfl, SqL.of htv, rfl, _, rfl, dl, _, _, _, rfl, rfl, SqL.of hdu, rfl, rfl, _, rfl, iteF ?_⟩
        refine ⟨_, rfl, tl, _, _, _, rfl, rfl, SqL.of htv, rfl, rfl, _, rfl, strT rfl ?_⟩
        have sok1 : SeqAt.shaped (.str n) = true := shaped_of (sok n hnok) (by simp only [PyData.depth]; omega)
        refine ⟨_, rfl, tl, _, _, _, rfl, rfl, SqL.of htv, rfl, _, rfl, dl, _, _, _, rfl, rfl, SqL.of hdu, rfl, .str n, .str n, .str n, .str n, sok1, sok1, ?_⟩
        have e : PyData.eqv (.str n) (.str n) = true := by simp [PyData.eqv]
        show Q (.bl (PyData.eqv (.str n) (.str n))) _
        rw [e]; exact k _
      | ok fs =>
        rw [qs] at hdu htv
        obtain ⟨D, R, Pd, I, hdu⟩ := hdu
        have lfs : fs.length = (rg m).length := by rw [sysE_len qs, ← hn8, List.length_map]
        have lM : (mM (rg m) fs).length = (rg m).length := by rw [mM_len, lfs]
        have I1 := si_sweep (augT_w (r := rR fs) (mM_w (ring := rg m) (fs := fs))) (rg m).length (by omega)
        have x1 := augT_ext (r := rR fs) (mM_w (ring := rg m) (fs := fs))
        have x2 := lawT_ext (r := rR fs) (mM_w (ring := rg m) (fs := fs))
        rcases htv with ⟨e1, xs, htl, hxs⟩ | ⟨e1, lv, wv, htl, hlv, f, hf, hfP, hwv⟩
        · have e2 : Pd.length = (rg m).length := (full_triv I x2).2 ((full_triv I1 x1).1 e1)
          obtain ⟨_, xs2, da, db, hdl, hxs2⟩ := hdu.resolve_left (fun h => by have := h.1; omega)
          have hdlH := sH _ _ (g1013 _ _ hdl)
          have htlH := sH _ _ htl
          refine ⟨_, rfl, tl, _, _, _, rfl, rfl, SqL.of htlH, rfl, _, rfl, dl, _, _, _, rfl, rfl, SqL.of hdlH, rfl, rfl, _, rfl, iteF ?_⟩
          refine ⟨_, rfl, tl, _, _, _, rfl, rfl, SqL.of htlH, rfl, rfl, _, rfl, strF (by decide +kernel) ?_⟩
          refine ⟨_, rfl, tl, _, _, _, rfl, rfl, SqL.of htlH, rfl, rfl, _, rfl, strT rfl ?_⟩
          have esol := sols_eq lfs I e1 e2
          have hxs2' := upFs _ _ _ _ g1013 hxs2
          rw [← esol] at hxs2'
          have hbdx := fun j => sol_bd ok.s qs (by omega) j
          have lxs : ((sweep (augT (mM (rg m) fs) (rR fs)) (rg m).length).1.map fun d => at0 d (rg m).length).length = (rg m).length := by rw [List.length_map, I1.len]; exact e1
          have hcv := fun (b : Bd) (f : Fm Str) (i : Nat) (ef : fs[i]? = some f) (okb : b.coupon.Ok (rg m) FT) (eb : fm W day (rg m) b.coupon = some f) (W' : Wd Str) (hle : W.Le W') => coupon_val (W := W) (day := day) (b := b) lfs rg_nd e1 ef okb eb hle
          generalize hsx : ((sweep (augT (mM (rg m) fs) (rR fs)) (rg m).length).1.map fun d => at0 d (rg m).length) = sx at hxs2' hbdx lxs hcv
          have hxs : RFs K F13 xs sx := by rw [← hsx]; exact hxs
          refine ⟨_, rfl, tl, _, _, _, rfl, rfl, SqL.of htlH, rfl, _, rfl, dl, _, _, _, rfl, rfl, SqL.of hdlH, rfl, F13, _, _, sx, rfl, sH, hxs, hxs2', by omega, true, rfl, iteF ?_⟩
          -- full
          refine fun Df hDf => ?_
          have z20 := Fz.raw (o := .dK []) sH hDf
          have hna13 : ∀ {Hx : Hp}, Same F13 Hx → Hx na = some (.lst ((rg m).map V.str)) := fun h => h _ _ (g913 _ _ hna9)
          obtain ⟨wl', fv', rv', ewl, hwl', rk, ork, krk, rfl, hrk, hkeys⟩ := hwk9
          cases ewl
          rw [hwl] at hwl'
          cases hwl'
          obtain ⟨rk', ork', krk', erk, hrk', hKr⟩ := tr
          cases erk
          rw [hrk] at hrk'
          cases hrk'
          obtain ⟨xa, vx, rfl, hxa, px⟩ := hxs
          have lvx := pr_len px
          refine ⟨_, rfl, na, _, rfl, .inl (SqL.of (hna13 z20.sub)), _, rfl, by omega, by omega, for_range (lo := 0) (fun i σ H' => ∃ (r10 : Option V) (F' : Hp) (g : Str → Row) (cur : KVs), σ = [some (.ref sa), some (.ref d), some (.int (day : Nat)), some (.ref na), some (.ref ba), some (.int (kind : Nat)), some (.ref wl), some (.ref dl), some (.ref tl), some (.ref Df), r10, none, none, none] ∧ Fz N0 H13 F13 H' F' ∧
            H' Df = some (.dK cur) ∧ F' Df = none ∧ DcK (pTab K g) F' cur i ∧ (∀ (k : Nat) (n : Str), k < i → (rg m)[k]? = some n → g n = W.rates n ++ [at0 sx k]) ∧ ∀ n, n ∉ (rg m).take i → g n = [])
            ⟨none, F13, fun _ => [], [], rfl, z20, upd_same, sH.free hDf, ⟨DOk.nil, fun _ => rfl⟩, fun k n h => absurd h (Nat.not_lt_zero _), fun _ _ => rfl⟩ (fun i σ H' hi hp => ?_) (fun σ H' hp => ?_)⟩
          · obtain ⟨r10, F', g, cur, rfl, z, eD, fD, hC, hg1, hg2⟩ := hp
            have hi : i < m := by omega
            have e0 : (0 : Int) + (i : Int) = (i : Int) := Int.zero_add _
            simp only [e0]
            obtain ⟨nm, hnm⟩ : ∃ nm, (rg m)[i]? = some nm := ⟨_, List.getElem?_eq_getElem (by omega)⟩
            have es : ((rg m).map V.str)[i]? = some (.str nm) := by rw [List.getElem?_map, hnm]; rfl
            have hnmr := List.mem_of_getElem? hnm
            obtain ⟨u, hu⟩ := Option.isSome_iff_exists.mp (hkeys nm hnmr)
            have hq := hKr.2 nm
            rw [hu] at hq
            obtain ⟨c, vc, rfl, hc, pc⟩ := hq
            have gH : ∀ {b : Addr} {o : HO}, F9 b = some o → H' b = some o := fun h => z.same _ _ (sH _ _ (g913 _ _ h))
            obtain ⟨xv, hxv, rxv⟩ := pr_at px (at0_lt (show i < sx.length by omega))
            have one_ok : 1 ≤ sizeLine := by decide
            refine ⟨_, rfl, wl, _, _, _, rfl, rfl, SqL.of (gH hwl), rfl, _, rfl, _, rfl, na, _, _, _, rfl, rfl, SqL.of (gH hna9), atI_nat es, rk, _, rfl, dget_frz (gH hrk) hu, _, rfl, tl, _, _, _, rfl, rfl, SqL.of (z.same _ _ htlH), rfl, _, rfl, xa, _, _, _, rfl, rfl, SqL.of (z.same _ _ (sH _ _ hxa)), atI_nat hxv, one_ok, fun l3 hl3 => ?_⟩
            have y1 := Fz.raw (o := .lst [xv]) z.sub hl3
            have lvc := pr_len pc
            have hrl := hr9.len nm hnmr
            have hcH := gH hc
            refine ⟨c, l3, vc, [xv], rfl, rfl, y1.same _ _ hcH, upd_same, by simp; exact small10' (by omega), fun l4 hl4 => ?_⟩
            have y2 := y1.trans (Fz.nw (o := .lst (vc ++ [xv])) y1.sub hl4)
            have eD2 := y2.same _ _ eD
            have fD2 := y2.outS fD eD
            have lcur := hC.1.le
            refine ⟨_, rfl, _, rfl, _, rfl, na, _, _, _, rfl, rfl, SqL.of (y2.same _ _ (gH hna9)), atI_nat es, Df, _, rfl, .inl ⟨cur, Sum.inr nm, eD2, rfl, small10 (by omega), rfl⟩, ?_⟩
            have hnew : RFs K (upd F' l4 (.lst (vc ++ [xv]))) (.ref l4) (W.rates nm ++ [at0 sx i]) := ⟨l4, _, rfl, upd_same, pr_snoc (paired_up upF ((g913.trans z.grow).trans y2.grow) pc) (rxv.up (z.grow.trans y2.grow))⟩
            refine ⟨_, _, setR g nm (W.rates nm ++ [at0 sx i]), _, rfl, (z.trans y2).set (.inl hDf) fD2, upd_same, fD2, tab_set (hC.up upTab y2.grow) hnew, fun k' n' hk' hn' => ?_, fun n' hn' => ?_⟩
            · unfold setR
              by_cases q : n' = nm
              · have : k' = i := (List.getElem?_inj (by have := (List.getElem?_eq_some_iff.mp hn').1; exact this) rg_nd).mp (by rw [hn', hnm, q])
                rw [if_pos q, q, this]
              · rw [if_neg q]
                refine hg1 k' n' ?_ hn'
                rcases Nat.lt_succ_iff_lt_or_eq.mp hk' with h | h
                · exact h
                · subst h; rw [hnm] at hn'; cases hn'; exact absurd rfl q
            · unfold setR
              rw [List.take_add_one, hnm] at hn'
              rw [if_neg (fun q => hn' (List.mem_append_right _ (by rw [q]; exact List.mem_cons_self)))]
              exact hg2 n' (fun q => hn' (List.mem_append_left _ q))
          · obtain ⟨r10, F', g, cur, rfl, z, eD, fD, hC, hg1, hg2⟩ := hp
            rw [Int.toNat_natCast, hlm] at hC hg1 hg2
            have hg2 : ∀ n, n ∉ rg m → g n = [] := fun n hn => hg2 n (fun q => hn (List.mem_of_mem_take q))
            have hg1 : ∀ (k : Nat) (n : Str), (rg m)[k]? = some n → g n = W.rates n ++ [at0 sx k] := fun k n e => hg1 k n (by have := (List.getElem?_eq_some_iff.mp e).1; omega) e
            have hle : W.Le ⟨W.facts, g⟩ := ⟨rfl, fun n j x e => by
              by_cases hn : n ∈ rg m
              · obtain ⟨k', hk', ek'⟩ := List.getElem_of_mem hn
                show (g n)[j]? = some x
                rw [hg1 k' n (by rw [List.getElem?_eq_getElem hk', ek']), List.getElem?_append_left (List.getElem?_eq_some_iff.mp e).1]
                exact e
              · rw [hr9.out n hn] at e; simp at e⟩
            have hgd : ∀ (k : Nat) (n : Str), (rg m)[k]? = some n → (g n)[day]? = some (at0 sx k) := fun k' n e => by
              have l := hr9.len n (List.mem_of_getElem? e)
              rw [hg1 k' n e, List.getElem?_append_right (by omega), l, Nat.sub_self]
              rfl
            have hgb : ∀ (n : Str) (x : Rat), x ∈ g n → Bt 743 741 x := fun n x hx => by
              by_cases hn : n ∈ rg m
              · obtain ⟨k', hk', ek'⟩ := List.getElem_of_mem hn
                rw [hg1 k' n (by rw [List.getElem?_eq_getElem hk', ek'])] at hx
                rcases List.mem_append.mp hx with h | h
                · exact (hr9.bt n x h).mono (by decide) (by decide)
                · rw [List.mem_singleton.mp h]; exact hbdx k'
              · rw [hg2 n hn] at hx; exact (List.not_mem_nil hx).elim
            have wb' : WB ⟨W.facts, g⟩ day := ⟨ok.b.wb.lo, ok.b.wb.fs, fun n j x e => (hgb n x (List.mem_of_getElem? e)).mono (by decide) (by decide), ok.b.wb.sm⟩
            have wv : WdV ⟨W.facts, g⟩ day := ⟨fun n x e => (hf9.bt n x (List.mem_of_getElem? e)).mono (by decide) (by decide), fun n x e => hgb n x (List.mem_of_getElem? e)⟩
            refine ⟨Df, _, eD, True.intro, fun od => ?_⟩
            have z21 := z.frz (o := .frz od (.dK cur)) hDf fD
            have hC21 : DcK (pTab K g) (upd F' Df (.frz od (.dK cur))) cur 100 := DcK.up upTab (show DcK (pTab K g) F' cur 100 from ⟨hC.1.mono (by omega), hC.2⟩) (same_upd fD)
            have hD21 := upd_same (H := F') (a := Df) (o := .frz od (.dK cur))
            generalize upd F' Df (.frz od (.dK cur)) = F21 at z21 hC21 hD21
            generalize upd H' Df (.frz od (.dK cur)) = H21 at z21
            refine ⟨_, rfl, na, _, rfl, .inl (SqL.of (hna13 (sH.trans z21.same))), _, rfl, by omega, by omega, for_range (lo := 0) (fun i σ H' => ∃ (r10 : Option V) (F' : Hp), σ = [some (.ref sa), some (.ref d), some (.int (day : Nat)), some (.ref na), some (.ref ba), some (.int (kind : Nat)), some (.ref wl), some (.ref dl), some (.ref tl), some (.ref Df), r10, none, none, none] ∧ Fz N0 H21 F21 H' F') ⟨_, F21, rfl, Fz.refl z21.sub⟩ (fun i σ H' hi hp => ?_) (fun σ H' hp => ?_)⟩
            · obtain ⟨r10, F5, rfl, z5⟩ := hp
              have hi : i < m := by omega
              have e0 : (0 : Int) + (i : Int) = (i : Int) := Int.zero_add _
              simp only [e0]
              have g95 : Same F9 F5 := g913.trans (z21.grow.trans z5.grow)
              have g135 : Same F13 F5 := z21.grow.trans z5.grow
              have gH : ∀ {b : Addr} {o : HO}, F9 b = some o → H' b = some o := fun h => z5.sub _ _ (g95 _ _ h)
              have gH13 : ∀ {b : Addr} {o : HO}, F13 b = some o → H' b = some o := fun h => z5.sub _ _ (g135 _ _ h)
              have lbs' : bs'.length = m := by rw [← lrg, ← hn8, List.length_map]
              obtain ⟨b, hbi⟩ : ∃ b, bs'[i]? = some b := ⟨_, List.getElem?_eq_getElem (by omega)⟩
              have hbm := List.mem_of_getElem? hbi
              obtain ⟨bv9, hbv9, hbo⟩ := pr_at pb hbi
              obtain ⟨f, hfi⟩ : ∃ f, fs[i]? = some f := ⟨_, List.getElem?_eq_getElem (by omega)⟩
              obtain ⟨b', hbi', hfb⟩ := sysE_get qs hfi
              rw [hbi] at hbi'
              cases hbi'
              have hval := hcv b f i hfi (ok.b.ok b hbm).1 hfb ⟨W.facts, g⟩ hle hgd
              have hok : OkV ⟨W.facts, g⟩ day b.coupon := by
                rcases hx8 b hbm with h | ⟨h1, h2, h3⟩
                · exact bg_v wv h hval (Sl.of (hbdx i) (by decide))
                · exact (lg_v wv h1 h2 (by omega)).1
              have hbo5 := upBo _ _ _ _ g95 hbo
              obtain ⟨bx, dx, bfs, lv, cv, rfl, hbx, _, hlets, hcoup, hLets, hPx⟩ := hbo5
              have hbxH := z5.sub _ _ hbx
              obtain ⟨xv, hxv, rxv⟩ := pr_at px (at0_lt (show i < sx.length by omega))
              refine ⟨_, rfl, _, rfl, ba, _, _, _, rfl, rfl, SqL.of (gH hba), atI_nat hbv9, bx, _, dx, bfs, _, rfl, hbxH, T.c_Bond, T.n_Bond_coupon, hcoup, ?_⟩
              refine ⟨_, rfl, _, rfl, ba, _, _, _, rfl, rfl, SqL.of (gH hba), atI_nat hbv9, bx, _, dx, bfs, _, rfl, hbxH, T.c_Bond, T.n_Bond_lets, hlets, ?_⟩
              refine ⟨_, rfl, _, rfl, wl, _, _, _, rfl, rfl, SqL.of (gH hwl), rfl, _, rfl, F5, cv, lv, fv, .ref Df, b.pl, ⟨W.facts, g⟩, day, rg m, rfl, z5.sub, hLets, (tf.up upTab g95).mono (by decide), ⟨Df, od, cur, rfl, z5.grow _ _ hD21, hC21.up upTab z5.grow⟩, wb', by decide, .inr (.inr ⟨b.coupon, hPx, (ok.b.ok b hbm).1, Nat.le_succ_of_le (ok.b.ok b hbm).2.1, hok, _, hval, fun v H6 F6 z6 hv => ?_⟩)⟩
              refine ⟨_, rfl, tl, _, _, _, rfl, rfl, SqL.of (z6.same _ _ (gH13 htl)), rfl, _, rfl, xa, _, _, _, rfl, rfl, SqL.of (z6.same _ _ (gH13 hxa)), atI_nat hxv, ?_⟩
              have sf : SeqAt.shaped (frD (at0 sx i)) = true := shaped_of (frD_lay _) (by have := frD_depth (at0 sx i); omega)
              refine ⟨frD (at0 sx i), frD (at0 sx i), dp_f (hv.up z6.sub), dp_f ((rxv.up (g135.trans z6.grow)).up z6.sub), sf, sf, _, rfl, inF (by rw [frD_eqv, decide_eq_true rfl]; rfl) ?_⟩
              exact ⟨_, F6, rfl, z5.trans z6⟩
            · exact k _
        · have e2 : Pd.length < (rg m).length := by
            rcases Nat.lt_or_ge Pd.length (rg m).length with h | h
            · exact h
            · exact absurd ((full_triv I1 x1).2 ((full_triv I x2).1 (by have := I.le; omega))) (Nat.ne_of_lt e1)
          obtain ⟨_, mv, hdl, hmv⟩ := hdu.resolve_right (fun h => by have := h.1; omega)
          have hdlH := sH _ _ (g1013 _ _ hdl)
          have htlH := sH _ _ htl
          refine ⟨_, rfl, tl, _, _, _, rfl, rfl, SqL.of htlH, rfl, _, rfl, dl, _, _, _, rfl, rfl, SqL.of hdlH, rfl, rfl, _, rfl, iteF ?_⟩
          refine ⟨_, rfl, tl, _, _, _, rfl, rfl, SqL.of htlH, rfl, rfl, _, rfl, strF (by decide +kernel) ?_⟩
          refine ⟨_, rfl, tl, _, _, _, rfl, rfl, SqL.of htlH, rfl, rfl, _, rfl, strF (by decide +kernel) ?_⟩
          -- told[1] != ring
          obtain ⟨lva, vlv, rfl, hlva, plv⟩ := hlv
          have evlv : vlv = (rg m).map V.str := paired_eq plv
          subst evlv
          have hna13 := sH _ _ (g913 _ _ hna9)
          have sr := strs_shaped (rg m) (fun n hn => rg_ok n hn)
          refine ⟨_, rfl, tl, _, _, _, rfl, rfl, SqL.of htlH, rfl, _, rfl, _, _, .lst (SqL.of (sH _ _ hlva)) (dp_strs (rg m)), .lst (SqL.of hna13) (dp_strs (rg m)), sr, sr, _, rfl, inF (by rw [strs_refl]; rfl) ?_⟩
          obtain ⟨wa, vw, rfl, hwa, pw⟩ := hwv
          have lvw := pr_len pw
          have lkv : (kv (rg m).length f (sweep (mM (rg m) fs) (rg m).length).1 (sweep (mM (rg m) fs) (rg m).length).2.2).length = (rg m).length := by unfold kv; rw [len_kvF, List.length_set, List.length_replicate]
          have hwa13 := sH _ _ hwa
          refine ⟨_, rfl, tl, _, _, _, rfl, rfl, SqL.of htlH, rfl, _, _, _, _, true, rfl, .ty "list", .base (.lst hwa13), kit_ty (show kitB "list" "list" = some true by decide +kernel), _, rfl, iteF ?_⟩
          refine ⟨_, rfl, tl, _, _, _, rfl, rfl, SqL.of htlH, rfl, wa, _, rfl, .inl (SqL.of hwa13), _, rfl, na, _, rfl, .inl (SqL.of hna13), rfl, _, rfl, inF (by rw [hlm, lvw, lkv, lrg]; simp) ?_⟩
          obtain ⟨kz, k1⟩ := ker_ok (ring := rg m) (fs := fs) hf hfP
          have kbd := ker_bd ok.s qs (by omega) hf
          generalize hkv : kv (rg m).length f (sweep (mM (rg m) fs) (rg m).length).1 (sweep (mM (rg m) fs) (rg m).length).2.2 = kvr at kz k1 kbd
          have pw : Paired (RF K F13) vw kvr := by rw [← hkv]; exact pw
          have lvw : vw.length = kvr.length := pr_len pw
          have lkv : kvr.length = (rg m).length := by rw [← hkv]; exact lkv
          refine ⟨_, rfl, tl, _, _, _, rfl, rfl, SqL.of htlH, rfl, wa, rfl, ⟨_, SqL.of hwa13⟩, lc_L (S := N0) (a := wa) (xs := vw) (fun i acc F' => ∃ r : Row, Paired (RF K F') acc r ∧ (f < i → r ≠ [])) sH (fun _ z => z.elim) hwa13 (fun z => z.elim) ⟨[], .nil, fun h => absurd h (Nat.not_lt_zero _)⟩ (by omega) (fun _ => rfl) (fun i acc H' F' v hv z p S S' hS hS' => ?_) (fun E7 ys H7 F7 hE7 z7 e71 e72 p7 => ?_)⟩
          · obtain ⟨r, pr, hr0⟩ := p
            obtain ⟨x, hx, hxf⟩ := pr_at' pw hv
            have hxf0 := hxf
            obtain ⟨xa, rfl, hxa⟩ := hxf0
            refine ⟨_, rfl, xa, _, _, _, rfl, rfl, sq_t (sH.trans z.same) hxa, rfl, rfl, _, rfl, ?_⟩
            by_cases h0 : x = 0
            · refine inF (by rw [(num_zero _).2 h0]; rfl) (hS' H' F' (Fz.refl z.sub) ⟨r, pr, fun h => hr0 ?_⟩)
              rcases Nat.lt_succ_iff_lt_or_eq.mp h with h1 | h1
              · exact h1
              · subst h1
                have : at0 kvr f = x := by unfold at0; rw [List.getD_eq_getElem?_getD, hx]; rfl
                rw [this, h0] at k1
                exact absurd k1 (by decide)
            · refine inT (by rw [decide_eq_false (fun q => h0 ((num_zero _).1 (V.int.inj q)))]; rfl) ⟨_, rfl, hS _ H' F' (Fz.refl z.sub) ⟨r ++ [x], pr_snoc pr (hxf.up z.grow), fun _ => by simp⟩⟩
          · obtain ⟨r, pr, hr0⟩ := p7
            have hrne : r ≠ [] := hr0 (by omega)
            refine ⟨(by decide : 0 ≤ sizeLine), fun q hq => ?_⟩
            have y := Fz.raw (o := .lst []) z7.sub hq
            have sy : Same F7 (upd H7 q (.lst [])) := z7.sub.trans y.same
            have er : PyData.eqv (.list (r.map frD)) (.list []) = false := by
              cases r with
              | nil => exact absurd rfl hrne
              | cons x r => simp [PyData.eqv, PyData.eqvAll]
            refine ⟨_, _, .lst (SqL.of (y.same _ _ e71)) (dp_fs (paired_up upF sy pr)), .lst (SqL.of upd_same) .nil, rowD_shaped r, by decide +kernel, _, rfl, inF er ?_⟩
            have g7 := z7.grow
            have hdl7 := sy _ _ (g7 _ _ (g1013 _ _ hdl))
            have htl7 := sy _ _ (g7 _ _ htl)
            have hmv' := upM _ _ _ _ g1013 hmv
            obtain ⟨ma, vm, rfl, hma, pm⟩ := hmv'
            have hma7 := sy _ _ (g7 _ _ hma)
            have lvm := pr_len pm
            have sy' : Same F7 (upd H7 q (.lst [])) := sy
            refine ⟨_, rfl, dl, _, _, _, rfl, rfl, SqL.of hdl7, rfl, ma, rfl, ⟨_, SqL.of hma7⟩, lc_L (S := N0) (a := ma) (xs := vm) (fun i acc F' => acc = []) sy' (fun _ z => z.elim) hma7 (fun z => z.elim) rfl (by rw [lvm, matT_len, List.length_map, lfs]; omega) (fun _ => rfl) (fun i acc H' F' v hv z p S S' hS hS' => ?_) (fun E8 ys8 H8' F8' hE8 z8 e81 e82 p8 => ?_)⟩
            · obtain ⟨mr, hmr, hmrf⟩ := pr_at' pm hv
              have hmm' := List.mem_of_getElem? hmr
              have lmr := mM_w (ring := rg m) (fs := fs) mr hmm'
              have hb9 : ∀ x ∈ mr, Bt 100 100 x := fun x hx => by
                obtain ⟨j, hj, e⟩ := List.getElem_of_mem hx
                have := (ok.s.m fs qs mr hmm' j).1 (by omega)
                rw [show at0 mr j = x from by unfold at0; rw [List.getD_eq_getElem?_getD, List.getElem?_eq_getElem hj, e]; rfl] at this
                exact this.mono (by decide) (by decide)
              refine ⟨_, rfl, _, rfl, tl, _, _, _, rfl, rfl, SqL.of (z.same _ _ htl7), rfl, F', _, _, mr, kvr, rfl, z.sub, upFs _ _ _ _ (g7.trans z.grow) hmrf, ⟨wa, vw, rfl, z.grow _ _ (g7 _ _ hwa), paired_up upF (g7.trans z.grow) pw⟩, by omega, by omega, hb9, kbd, fun dv H9' F9' z9 hdv => ?_⟩
              rw [kz mr hmm'] at hdv
              obtain ⟨xa, rfl, hxa⟩ := hdv
              refine ⟨xa, _, _, _, rfl, rfl, sq_t z9.sub hxa, rfl, rfl, _, rfl, inF rfl (hS' H9' F9' z9 p)⟩
            · subst p8
              refine ⟨(by decide : 0 ≤ sizeLine), fun q2 hq2 => ?_⟩
              refine ⟨.list [], .list [], .lst (SqL.of ((Fz.raw (o := .lst []) z8.sub hq2).same _ _ e81)) .nil, .lst (SqL.of upd_same) .nil, by decide +kernel, by decide +kernel, ?_⟩
              exact k _
end
end K3
end
set_option Elab.async false
set_option linter.all false
set_option maxRecDepth 100000
set_option maxHeartbeats 0
namespace K3
open PySem PySem.Spec PyProof.Rows L2
theorem factsL {w : World} {K : PySem.W.Frag} {h : Heap} {mg : Str → Option Value} {f : Addr} (X : K.In h) (G : h.Ns mainGlobals mg) (hfa : mg ("law" : Str) = some (.ref f)) (m : moreB K = true) (c : He.SaysD faL fnL K) :
    ∃ fd : FuncData, (∀ (s : Shared) (v : Value), BindsTo s fd ⟨[v], []⟩ [("_law_script", v)]) ∧ ∀ base : Heap, FnOk LR.prog w K mg base CX0 52 f fd ["_law_script"] (spLaw K) := by
  have T : Txt K mg := txt_of X G m c
  obtain ⟨fd, F⟩ := T.df_law
  have e := hfa.symm.trans T.g_law
  cases e
  have b := FunD.bindsA (ps := ["_law_script"]) F fun _ _ _ _ _ _ us hl => match us, hl with | [_], _ => rfl
  exact ⟨fd, fun s v => b s [v] rfl, fun base => ok_law T F⟩
end K3
open PySem PySem.W PySem.Calls PyProof.Rows
theorem PySem.Challenge.cw_consol_k30_whole_ring_has_one_solution_holds : PySem.Challenge.rw_consol_k30_whole_ring_has_one_solution.Holds := by
  w_on; o_law
  refine HandSHeadRun.head_imp (r := K3.LR) (q := K3.LQ) (H := K3.hkT) (ob := K3.obT) (M := 6000) (loose := K3.looseL) (d := HandSHeadRun.topDef K3.LR.prog 86) (kwd := []) K3.obT_eq K3.runL
    (by kernel_rfl) (by kernel_rfl) (by kernel_rfl) (by rfl) (by first | assumption | decide +kernel) (by decide +kernel) ⟨rfl, rfl, rfl, rfl, rfl, by decide +kernel⟩ ?hw ?hc
  case hw => w_witness2
  case hc =>
    refine L2.walk_ofE (l := PySem.Challenge.rw_consol_k30_whole_ring_has_one_solution) (n := 63) (k := 52) (x := "_law_script") (CX := L2.CX0) rfl (by decide) (by kernel_rfl) ⟨rfl, by decide, by decide⟩ ?F (fun _ _ _ _ z => z)
    intro w mg fa h Y G hmg0
    obtain ⟨K, KX, m, c⟩ := Y
    have hmg : mg ("law" : PySem.Str) = some (.ref fa) := by
      have e : (HandSHeadRun.topDef K3.LR.prog 86).name = ("law" : PySem.Str) := by kernel_rfl
      rw [← e]
      exact hmg0
    obtain ⟨fd, hb, hF⟩ := K3.factsL (w := w) KX G hmg m c
    exact ⟨K, fd, K3.spLaw K, KX, hb, fun H a ns hl _ hS => ⟨a, ns, rfl, hS, fun _ => rfl⟩, fun base _ _ => hF base⟩
