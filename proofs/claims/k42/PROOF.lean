import PyProof.Rows.All
import Wide.All
import OpenK.AllK
import Wide.FinOn
import KE.KStateDown
import HandS.ForMost
import HandS.Walk
import HandS.Property
import HandS.OwnEq
import HandS.IsInst
import HandS.DictComp
import HandS.Zip
import HandS.TupAny
import HandS.TupMul
import HandS.Style
import HandS.Defaults
import HandS.Codes
import HandS.Small
import HandS.Head0
import HandS.Head1
import HandS.Head2
import HandS.HeadEnd
import HandS.HeadHook1
import HandS.HeadHook2
import KE.GoesEnum
import KE.DataMinMax
import KE.KTupSum
import PySem.Challenge.RW_weatherline_k42_whole_means_after_hours
set_option Elab.async false
set_option linter.all false
set_option maxRecDepth 100000
set_option maxHeartbeats 4000000
/-! printed by wip/gen_text.py: places, data, slots of the program's defs -/
namespace WL
open PySem L2
def top (i : Nat) : Stmt := PySem.Challenge.pw_weatherline_k42_whole_means_after_hours.main.body.getD i (.Pass ⟨0, 0, 0, 0⟩)
abbrev s_is_number : Stmt := top 10
abbrev s_is_between : Stmt := top 11
abbrev s_is_pair : Stmt := top 12
abbrev s_is_word : Stmt := top 13
abbrev s_need_kinds : Stmt := top 14
abbrev s_number_in : Stmt := top 15
abbrev s_word_of : Stmt := top 16
abbrev s_all_words : Stmt := top 17
abbrev s_power_of : Stmt := top 18
abbrev s_common_divisor : Stmt := top 19
abbrev s_RingQ_initQ : Stmt := inClass (top 22) 0
abbrev s_Ring_many : Stmt := inClass (top 22) 1
abbrev s_Ring_cells : Stmt := inClass (top 22) 2
abbrev s_RingQ_eqQ : Stmt := inClass (top 22) 4
abbrev s_width_of : Stmt := top 27
abbrev s_RuleQ_initQ : Stmt := inClass (top 28) 0
abbrev s_Rule_many : Stmt := inClass (top 28) 1
abbrev s_Rule_first : Stmt := inClass (top 28) 2
abbrev s_Rule_table : Stmt := inClass (top 28) 3
abbrev s_Rule_width : Stmt := inClass (top 28) 4
abbrev s_RuleQ_eqQ : Stmt := inClass (top 28) 6
abbrev s_need_rule : Stmt := top 29
abbrev s_nodes_of : Stmt := top 30
abbrev s_need_size : Stmt := top 31
abbrev s_told : Stmt := top 32
abbrev s_step_word : Stmt := top 33
abbrev s_ring_step : Stmt := top 34
abbrev s_is_gauge : Stmt := top 38
abbrev s_need_gauge : Stmt := top 39
abbrev s_gauge_led : Stmt := top 40
abbrev s_widened : Stmt := top 41
abbrev s_less : Stmt := top 42
abbrev s_change_gauge : Stmt := top 43
abbrev s_lowest : Stmt := top 47
abbrev s_nodes_in : Stmt := top 48
abbrev s_SumsQ_initQ : Stmt := inClass (top 49) 0
abbrev s_Sums_ways : Stmt := inClass (top 49) 1
abbrev s_Sums_greatest_fraction : Stmt := inClass (top 49) 2
abbrev s_Sums_longer : Stmt := inClass (top 49) 3
abbrev s_Sums_raised : Stmt := inClass (top 49) 4
abbrev s_Sums_shortest : Stmt := inClass (top 49) 5
abbrev s_Sums_least_round : Stmt := inClass (top 49) 6
abbrev s_need_few : Stmt := top 50
abbrev s_best_ring : Stmt := top 51
abbrev s_greatest_mean : Stmt := top 52
abbrev s_led_for : Stmt := top 53
abbrev s_greatest_after : Stmt := top 54
abbrev s_gain : Stmt := top 55
abbrev s_law_begun : Stmt := top 57
abbrev s_law_mixed : Stmt := top 58
abbrev s_law_take : Stmt := top 59
abbrev s_law_pick : Stmt := top 60
abbrev s_law_power : Stmt := top 62
abbrev s_law_words : Stmt := top 63
abbrev s_law_number : Stmt := top 64
abbrev s_law_table : Stmt := top 65
abbrev s_law_model : Stmt := top 66
abbrev s_law_known : Stmt := top 67
abbrev s_law_any_model : Stmt := top 68
abbrev s_law_made : Stmt := top 69
abbrev s_law_told : Stmt := top 70
abbrev s_law_step : Stmt := top 71
abbrev s_law_round : Stmt := top 72
abbrev s_law_gauge : Stmt := top 73
abbrev s_law_sum : Stmt := top 74
abbrev s_law_low : Stmt := top 75
abbrev s_law_later : Stmt := top 76
abbrev s_law_extremes : Stmt := top 77
abbrev s_law_after_right : Stmt := top 78
abbrev s_law_led_weights : Stmt := top 79
abbrev s_law_sums : Stmt := top 80
abbrev s_law_far_right : Stmt := top 81
abbrev s_law : Stmt := top 82
def d_is_number : He.DefD := ⟨("is_number", none), "is_number", "is_number", defArgs s_is_number, defBody s_is_number, defScope s_is_number, [], []⟩
def d_is_between : He.DefD := ⟨("is_between", none), "is_between", "is_between", defArgs s_is_between, defBody s_is_between, defScope s_is_between, [], []⟩
def d_is_pair : He.DefD := ⟨("is_pair", none), "is_pair", "is_pair", defArgs s_is_pair, defBody s_is_pair, defScope s_is_pair, [], []⟩
def d_is_word : He.DefD := ⟨("is_word", none), "is_word", "is_word", defArgs s_is_word, defBody s_is_word, defScope s_is_word, [], []⟩
def d_need_kinds : He.DefD := ⟨("need_kinds", none), "need_kinds", "need_kinds", defArgs s_need_kinds, defBody s_need_kinds, defScope s_need_kinds, [], []⟩
def d_number_in : He.DefD := ⟨("number_in", none), "number_in", "number_in", defArgs s_number_in, defBody s_number_in, defScope s_number_in, [], []⟩
def d_word_of : He.DefD := ⟨("word_of", none), "word_of", "word_of", defArgs s_word_of, defBody s_word_of, defScope s_word_of, [], []⟩
def d_all_words : He.DefD := ⟨("all_words", none), "all_words", "all_words", defArgs s_all_words, defBody s_all_words, defScope s_all_words, [], []⟩
def d_power_of : He.DefD := ⟨("power_of", none), "power_of", "power_of", defArgs s_power_of, defBody s_power_of, defScope s_power_of, [], []⟩
def d_common_divisor : He.DefD := ⟨("common_divisor", none), "common_divisor", "common_divisor", defArgs s_common_divisor, defBody s_common_divisor, defScope s_common_divisor, [], []⟩
def d_RingQ_initQ : He.DefD := ⟨("Ring", some "__init__"), "__init__", "Ring.__init__", defArgs s_RingQ_initQ, defBody s_RingQ_initQ, defScope s_RingQ_initQ, [], []⟩
def d_Ring_many : He.DefD := ⟨("Ring", some "many"), "many", "Ring.many", defArgs s_Ring_many, defBody s_Ring_many, defScope s_Ring_many, [], []⟩
def d_Ring_cells : He.DefD := ⟨("Ring", some "cells"), "cells", "Ring.cells", defArgs s_Ring_cells, defBody s_Ring_cells, defScope s_Ring_cells, [], []⟩
def d_RingQ_eqQ : He.DefD := ⟨("Ring", some "__eq__"), "__eq__", "Ring.__eq__", defArgs s_RingQ_eqQ, defBody s_RingQ_eqQ, defScope s_RingQ_eqQ, [], []⟩
def d_width_of : He.DefD := ⟨("width_of", none), "width_of", "width_of", defArgs s_width_of, defBody s_width_of, defScope s_width_of, [], []⟩
def d_RuleQ_initQ : He.DefD := ⟨("Rule", some "__init__"), "__init__", "Rule.__init__", defArgs s_RuleQ_initQ, defBody s_RuleQ_initQ, defScope s_RuleQ_initQ, [], []⟩
def d_Rule_many : He.DefD := ⟨("Rule", some "many"), "many", "Rule.many", defArgs s_Rule_many, defBody s_Rule_many, defScope s_Rule_many, [], []⟩
def d_Rule_first : He.DefD := ⟨("Rule", some "first"), "first", "Rule.first", defArgs s_Rule_first, defBody s_Rule_first, defScope s_Rule_first, [], []⟩
def d_Rule_table : He.DefD := ⟨("Rule", some "table"), "table", "Rule.table", defArgs s_Rule_table, defBody s_Rule_table, defScope s_Rule_table, [], []⟩
def d_Rule_width : He.DefD := ⟨("Rule", some "width"), "width", "Rule.width", defArgs s_Rule_width, defBody s_Rule_width, defScope s_Rule_width, [], []⟩
def d_RuleQ_eqQ : He.DefD := ⟨("Rule", some "__eq__"), "__eq__", "Rule.__eq__", defArgs s_RuleQ_eqQ, defBody s_RuleQ_eqQ, defScope s_RuleQ_eqQ, [], []⟩
def d_need_rule : He.DefD := ⟨("need_rule", none), "need_rule", "need_rule", defArgs s_need_rule, defBody s_need_rule, defScope s_need_rule, [], []⟩
def d_nodes_of : He.DefD := ⟨("nodes_of", none), "nodes_of", "nodes_of", defArgs s_nodes_of, defBody s_nodes_of, defScope s_nodes_of, [], []⟩
def d_need_size : He.DefD := ⟨("need_size", none), "need_size", "need_size", defArgs s_need_size, defBody s_need_size, defScope s_need_size, [], []⟩
def d_told : He.DefD := ⟨("told", none), "told", "told", defArgs s_told, defBody s_told, defScope s_told, [], []⟩
def d_step_word : He.DefD := ⟨("step_word", none), "step_word", "step_word", defArgs s_step_word, defBody s_step_word, defScope s_step_word, [], []⟩
def d_ring_step : He.DefD := ⟨("ring_step", none), "ring_step", "ring_step", defArgs s_ring_step, defBody s_ring_step, defScope s_ring_step, [], []⟩
def d_is_gauge : He.DefD := ⟨("is_gauge", none), "is_gauge", "is_gauge", defArgs s_is_gauge, defBody s_is_gauge, defScope s_is_gauge, [], []⟩
def d_need_gauge : He.DefD := ⟨("need_gauge", none), "need_gauge", "need_gauge", defArgs s_need_gauge, defBody s_need_gauge, defScope s_need_gauge, [], []⟩
def d_gauge_led : He.DefD := ⟨("gauge_led", none), "gauge_led", "gauge_led", defArgs s_gauge_led, defBody s_gauge_led, defScope s_gauge_led, [], []⟩
def d_widened : He.DefD := ⟨("widened", none), "widened", "widened", defArgs s_widened, defBody s_widened, defScope s_widened, [], []⟩
def d_less : He.DefD := ⟨("less", none), "less", "less", defArgs s_less, defBody s_less, defScope s_less, [], []⟩
def d_change_gauge : He.DefD := ⟨("change_gauge", none), "change_gauge", "change_gauge", defArgs s_change_gauge, defBody s_change_gauge, defScope s_change_gauge, [], []⟩
def d_lowest : He.DefD := ⟨("lowest", none), "lowest", "lowest", defArgs s_lowest, defBody s_lowest, defScope s_lowest, [], []⟩
def d_nodes_in : He.DefD := ⟨("nodes_in", none), "nodes_in", "nodes_in", defArgs s_nodes_in, defBody s_nodes_in, defScope s_nodes_in, [], []⟩
def d_SumsQ_initQ : He.DefD := ⟨("Sums", some "__init__"), "__init__", "Sums.__init__", defArgs s_SumsQ_initQ, defBody s_SumsQ_initQ, defScope s_SumsQ_initQ, [], []⟩
def d_Sums_ways : He.DefD := ⟨("Sums", some "ways"), "ways", "Sums.ways", defArgs s_Sums_ways, defBody s_Sums_ways, defScope s_Sums_ways, [], []⟩
def d_Sums_greatest_fraction : He.DefD := ⟨("Sums", some "greatest_fraction"), "greatest_fraction", "Sums.greatest_fraction", defArgs s_Sums_greatest_fraction, defBody s_Sums_greatest_fraction, defScope s_Sums_greatest_fraction, [], []⟩
def d_Sums_longer : He.DefD := ⟨("Sums", some "longer"), "longer", "Sums.longer", defArgs s_Sums_longer, defBody s_Sums_longer, defScope s_Sums_longer, [], []⟩
def d_Sums_raised : He.DefD := ⟨("Sums", some "raised"), "raised", "Sums.raised", defArgs s_Sums_raised, defBody s_Sums_raised, defScope s_Sums_raised, [], []⟩
def d_Sums_shortest : He.DefD := ⟨("Sums", some "shortest"), "shortest", "Sums.shortest", defArgs s_Sums_shortest, defBody s_Sums_shortest, defScope s_Sums_shortest, [], []⟩
def d_Sums_least_round : He.DefD := ⟨("Sums", some "least_round"), "least_round", "Sums.least_round", defArgs s_Sums_least_round, defBody s_Sums_least_round, defScope s_Sums_least_round, [], []⟩
def d_need_few : He.DefD := ⟨("need_few", none), "need_few", "need_few", defArgs s_need_few, defBody s_need_few, defScope s_need_few, [], []⟩
def d_best_ring : He.DefD := ⟨("best_ring", none), "best_ring", "best_ring", defArgs s_best_ring, defBody s_best_ring, defScope s_best_ring, [], []⟩
def d_greatest_mean : He.DefD := ⟨("greatest_mean", none), "greatest_mean", "greatest_mean", defArgs s_greatest_mean, defBody s_greatest_mean, defScope s_greatest_mean, [], []⟩
def d_led_for : He.DefD := ⟨("led_for", none), "led_for", "led_for", defArgs s_led_for, defBody s_led_for, defScope s_led_for, [], []⟩
def d_greatest_after : He.DefD := ⟨("greatest_after", none), "greatest_after", "greatest_after", defArgs s_greatest_after, defBody s_greatest_after, defScope s_greatest_after, [], []⟩
def d_gain : He.DefD := ⟨("gain", none), "gain", "gain", defArgs s_gain, defBody s_gain, defScope s_gain, [], []⟩
def d_law_begun : He.DefD := ⟨("_law_begun", none), "_law_begun", "_law_begun", defArgs s_law_begun, defBody s_law_begun, defScope s_law_begun, [], []⟩
def d_law_mixed : He.DefD := ⟨("_law_mixed", none), "_law_mixed", "_law_mixed", defArgs s_law_mixed, defBody s_law_mixed, defScope s_law_mixed, [], []⟩
def d_law_take : He.DefD := ⟨("_law_take", none), "_law_take", "_law_take", defArgs s_law_take, defBody s_law_take, defScope s_law_take, [], []⟩
def d_law_pick : He.DefD := ⟨("_law_pick", none), "_law_pick", "_law_pick", defArgs s_law_pick, defBody s_law_pick, defScope s_law_pick, [], []⟩
def d_law_power : He.DefD := ⟨("_law_power", none), "_law_power", "_law_power", defArgs s_law_power, defBody s_law_power, defScope s_law_power, [], []⟩
def d_law_words : He.DefD := ⟨("_law_words", none), "_law_words", "_law_words", defArgs s_law_words, defBody s_law_words, defScope s_law_words, [], []⟩
def d_law_number : He.DefD := ⟨("_law_number", none), "_law_number", "_law_number", defArgs s_law_number, defBody s_law_number, defScope s_law_number, [], []⟩
def d_law_table : He.DefD := ⟨("_law_table", none), "_law_table", "_law_table", defArgs s_law_table, defBody s_law_table, defScope s_law_table, [], []⟩
def d_law_model : He.DefD := ⟨("_law_model", none), "_law_model", "_law_model", defArgs s_law_model, defBody s_law_model, defScope s_law_model, [], []⟩
def d_law_known : He.DefD := ⟨("_law_known", none), "_law_known", "_law_known", defArgs s_law_known, defBody s_law_known, defScope s_law_known, [], []⟩
def d_law_any_model : He.DefD := ⟨("_law_any_model", none), "_law_any_model", "_law_any_model", defArgs s_law_any_model, defBody s_law_any_model, defScope s_law_any_model, [], []⟩
def d_law_made : He.DefD := ⟨("_law_made", none), "_law_made", "_law_made", defArgs s_law_made, defBody s_law_made, defScope s_law_made, [], []⟩
def d_law_told : He.DefD := ⟨("_law_told", none), "_law_told", "_law_told", defArgs s_law_told, defBody s_law_told, defScope s_law_told, [], []⟩
def d_law_step : He.DefD := ⟨("_law_step", none), "_law_step", "_law_step", defArgs s_law_step, defBody s_law_step, defScope s_law_step, [], []⟩
def d_law_round : He.DefD := ⟨("_law_round", none), "_law_round", "_law_round", defArgs s_law_round, defBody s_law_round, defScope s_law_round, [], []⟩
def d_law_gauge : He.DefD := ⟨("_law_gauge", none), "_law_gauge", "_law_gauge", defArgs s_law_gauge, defBody s_law_gauge, defScope s_law_gauge, [], []⟩
def d_law_sum : He.DefD := ⟨("_law_sum", none), "_law_sum", "_law_sum", defArgs s_law_sum, defBody s_law_sum, defScope s_law_sum, [], []⟩
def d_law_low : He.DefD := ⟨("_law_low", none), "_law_low", "_law_low", defArgs s_law_low, defBody s_law_low, defScope s_law_low, [], []⟩
def d_law_later : He.DefD := ⟨("_law_later", none), "_law_later", "_law_later", defArgs s_law_later, defBody s_law_later, defScope s_law_later, [], []⟩
def d_law_extremes : He.DefD := ⟨("_law_extremes", none), "_law_extremes", "_law_extremes", defArgs s_law_extremes, defBody s_law_extremes, defScope s_law_extremes, [], []⟩
def d_law_after_right : He.DefD := ⟨("_law_after_right", none), "_law_after_right", "_law_after_right", defArgs s_law_after_right, defBody s_law_after_right, defScope s_law_after_right, [], []⟩
def d_law_led_weights : He.DefD := ⟨("_law_led_weights", none), "_law_led_weights", "_law_led_weights", defArgs s_law_led_weights, defBody s_law_led_weights, defScope s_law_led_weights, [], []⟩
def d_law_sums : He.DefD := ⟨("_law_sums", none), "_law_sums", "_law_sums", defArgs s_law_sums, defBody s_law_sums, defScope s_law_sums, [], []⟩
def d_law_far_right : He.DefD := ⟨("_law_far_right", none), "_law_far_right", "_law_far_right", defArgs s_law_far_right, defBody s_law_far_right, defScope s_law_far_right, [], []⟩
def d_law : He.DefD := ⟨("law", none), "law", "law", defArgs s_law, defBody s_law, defScope s_law, [], []⟩
def allDefs : List He.DefD := ([d_is_number, d_is_between, d_is_pair, d_is_word, d_need_kinds, d_number_in, d_word_of, d_all_words, d_power_of, d_common_divisor, d_RingQ_initQ, d_RingQ_eqQ, d_width_of, d_RuleQ_initQ, d_RuleQ_eqQ, d_need_rule] : List He.DefD) ++ ([d_nodes_of, d_need_size, d_told, d_step_word, d_ring_step, d_is_gauge, d_need_gauge, d_gauge_led, d_widened, d_less, d_change_gauge, d_lowest, d_nodes_in, d_SumsQ_initQ, d_Sums_ways, d_Sums_greatest_fraction] : List He.DefD) ++ ([d_Sums_longer, d_Sums_raised, d_Sums_shortest, d_Sums_least_round, d_need_few, d_best_ring, d_greatest_mean, d_led_for, d_greatest_after, d_gain, d_law_begun, d_law_mixed, d_law_take, d_law_pick, d_law_power, d_law_words] : List He.DefD) ++ ([d_law_number, d_law_table, d_law_model, d_law_known, d_law_any_model, d_law_made, d_law_told, d_law_step, d_law_round, d_law_gauge, d_law_sum, d_law_low, d_law_later, d_law_extremes, d_law_after_right, d_law_led_weights] : List He.DefD) ++ ([d_law_sums, d_law_far_right, d_law] : List He.DefD)
abbrev N_is_number : List Str := ["thing"]
abbrev p_is_number : List Str := ["thing"]
theorem sc_is_number : FnScope N_is_number p_is_number (defScope s_is_number) := ⟨rfl, rfl, rfl, by decide +kernel, rfl, by decide +kernel, by decide +kernel⟩
abbrev N_is_between : List Str := ["thing", "least", "most"]
abbrev p_is_between : List Str := ["thing", "least", "most"]
theorem sc_is_between : FnScope N_is_between p_is_between (defScope s_is_between) := ⟨rfl, rfl, rfl, by decide +kernel, rfl, by decide +kernel, by decide +kernel⟩
abbrev N_is_pair : List Str := ["thing"]
abbrev p_is_pair : List Str := ["thing"]
theorem sc_is_pair : FnScope N_is_pair p_is_pair (defScope s_is_pair) := ⟨rfl, rfl, rfl, by decide +kernel, rfl, by decide +kernel, by decide +kernel⟩
abbrev N_is_word : List Str := ["many", "thing", "kind"]
abbrev p_is_word : List Str := ["many", "thing"]
theorem sc_is_word : FnScope N_is_word p_is_word (defScope s_is_word) := ⟨rfl, rfl, rfl, by decide +kernel, rfl, by decide +kernel, by decide +kernel⟩
abbrev N_need_kinds : List Str := ["many"]
abbrev p_need_kinds : List Str := ["many"]
theorem sc_need_kinds : FnScope N_need_kinds p_need_kinds (defScope s_need_kinds) := ⟨rfl, rfl, rfl, by decide +kernel, rfl, by decide +kernel, by decide +kernel⟩
abbrev N_number_in : List Str := ["many", "word", "found", "kind"]
abbrev p_number_in : List Str := ["many", "word"]
theorem sc_number_in : FnScope N_number_in p_number_in (defScope s_number_in) := ⟨rfl, rfl, rfl, by decide +kernel, rfl, by decide +kernel, by decide +kernel⟩
abbrev N_word_of : List Str := ["many", "length", "number", "found", "turn"]
abbrev p_word_of : List Str := ["many", "length", "number"]
theorem sc_word_of : FnScope N_word_of p_word_of (defScope s_word_of) := ⟨rfl, rfl, rfl, by decide +kernel, rfl, by decide +kernel, by decide +kernel⟩
abbrev N_all_words : List Str := ["many", "length", "number"]
abbrev p_all_words : List Str := ["many", "length"]
theorem sc_all_words : FnScope N_all_words p_all_words (defScope s_all_words) := ⟨rfl, rfl, rfl, by decide +kernel, rfl, by decide +kernel, by decide +kernel⟩
abbrev N_power_of : List Str := ["many", "times", "found", "turn"]
abbrev p_power_of : List Str := ["many", "times"]
theorem sc_power_of : FnScope N_power_of p_power_of (defScope s_power_of) := ⟨rfl, rfl, rfl, by decide +kernel, rfl, by decide +kernel, by decide +kernel⟩
abbrev N_common_divisor : List Str := ["one", "other"]
abbrev p_common_divisor : List Str := ["one", "other"]
theorem sc_common_divisor : FnScope N_common_divisor p_common_divisor (defScope s_common_divisor) := ⟨rfl, rfl, rfl, by decide +kernel, rfl, by decide +kernel, by decide +kernel⟩
abbrev N_RingQ_initQ : List Str := ["self", "many", "cells"]
abbrev p_RingQ_initQ : List Str := ["self", "many", "cells"]
theorem sc_RingQ_initQ : FnScope N_RingQ_initQ p_RingQ_initQ (defScope s_RingQ_initQ) := ⟨rfl, rfl, rfl, by decide +kernel, rfl, by decide +kernel, by decide +kernel⟩
abbrev N_Ring_many : List Str := ["self"]
abbrev p_Ring_many : List Str := ["self"]
theorem sc_Ring_many : FnScope N_Ring_many p_Ring_many (defScope s_Ring_many) := ⟨rfl, rfl, rfl, by decide +kernel, rfl, by decide +kernel, by decide +kernel⟩
abbrev N_Ring_cells : List Str := ["self"]
abbrev p_Ring_cells : List Str := ["self"]
theorem sc_Ring_cells : FnScope N_Ring_cells p_Ring_cells (defScope s_Ring_cells) := ⟨rfl, rfl, rfl, by decide +kernel, rfl, by decide +kernel, by decide +kernel⟩
abbrev N_RingQ_eqQ : List Str := ["self", "other"]
abbrev p_RingQ_eqQ : List Str := ["self", "other"]
theorem sc_RingQ_eqQ : FnScope N_RingQ_eqQ p_RingQ_eqQ (defScope s_RingQ_eqQ) := ⟨rfl, rfl, rfl, by decide +kernel, rfl, by decide +kernel, by decide +kernel⟩
abbrev N_width_of : List Str := ["many", "table", "width", "size"]
abbrev p_width_of : List Str := ["many", "table"]
theorem sc_width_of : FnScope N_width_of p_width_of (defScope s_width_of) := ⟨rfl, rfl, rfl, by decide +kernel, rfl, by decide +kernel, by decide +kernel⟩
abbrev N_RuleQ_initQ : List Str := ["self", "many", "first", "table"]
abbrev p_RuleQ_initQ : List Str := ["self", "many", "first", "table"]
theorem sc_RuleQ_initQ : FnScope N_RuleQ_initQ p_RuleQ_initQ (defScope s_RuleQ_initQ) := ⟨rfl, rfl, rfl, by decide +kernel, rfl, by decide +kernel, by decide +kernel⟩
abbrev N_Rule_many : List Str := ["self"]
abbrev p_Rule_many : List Str := ["self"]
theorem sc_Rule_many : FnScope N_Rule_many p_Rule_many (defScope s_Rule_many) := ⟨rfl, rfl, rfl, by decide +kernel, rfl, by decide +kernel, by decide +kernel⟩
abbrev N_Rule_first : List Str := ["self"]
abbrev p_Rule_first : List Str := ["self"]
theorem sc_Rule_first : FnScope N_Rule_first p_Rule_first (defScope s_Rule_first) := ⟨rfl, rfl, rfl, by decide +kernel, rfl, by decide +kernel, by decide +kernel⟩
abbrev N_Rule_table : List Str := ["self"]
abbrev p_Rule_table : List Str := ["self"]
theorem sc_Rule_table : FnScope N_Rule_table p_Rule_table (defScope s_Rule_table) := ⟨rfl, rfl, rfl, by decide +kernel, rfl, by decide +kernel, by decide +kernel⟩
abbrev N_Rule_width : List Str := ["self"]
abbrev p_Rule_width : List Str := ["self"]
theorem sc_Rule_width : FnScope N_Rule_width p_Rule_width (defScope s_Rule_width) := ⟨rfl, rfl, rfl, by decide +kernel, rfl, by decide +kernel, by decide +kernel⟩
abbrev N_RuleQ_eqQ : List Str := ["self", "other"]
abbrev p_RuleQ_eqQ : List Str := ["self", "other"]
theorem sc_RuleQ_eqQ : FnScope N_RuleQ_eqQ p_RuleQ_eqQ (defScope s_RuleQ_eqQ) := ⟨rfl, rfl, rfl, by decide +kernel, rfl, by decide +kernel, by decide +kernel⟩
abbrev N_need_rule : List Str := ["rule"]
abbrev p_need_rule : List Str := ["rule"]
theorem sc_need_rule : FnScope N_need_rule p_need_rule (defScope s_need_rule) := ⟨rfl, rfl, rfl, by decide +kernel, rfl, by decide +kernel, by decide +kernel⟩
abbrev N_nodes_of : List Str := ["rule"]
abbrev p_nodes_of : List Str := ["rule"]
theorem sc_nodes_of : FnScope N_nodes_of p_nodes_of (defScope s_nodes_of) := ⟨rfl, rfl, rfl, by decide +kernel, rfl, by decide +kernel, by decide +kernel⟩
abbrev N_need_size : List Str := ["rule"]
abbrev p_need_size : List Str := ["rule"]
theorem sc_need_size : FnScope N_need_size p_need_size (defScope s_need_size) := ⟨rfl, rfl, rfl, by decide +kernel, rfl, by decide +kernel, by decide +kernel⟩
abbrev N_told : List Str := ["rule", "word"]
abbrev p_told : List Str := ["rule", "word"]
theorem sc_told : FnScope N_told p_told (defScope s_told) := ⟨rfl, rfl, rfl, by decide +kernel, rfl, by decide +kernel, by decide +kernel⟩
abbrev N_step_word : List Str := ["rule", "word", "width", "at"]
abbrev p_step_word : List Str := ["rule", "word"]
theorem sc_step_word : FnScope N_step_word p_step_word (defScope s_step_word) := ⟨rfl, rfl, rfl, by decide +kernel, rfl, by decide +kernel, by decide +kernel⟩
abbrev N_ring_step : List Str := ["rule", "cells", "many", "width", "begin", "round_about"]
abbrev p_ring_step : List Str := ["rule", "cells"]
theorem sc_ring_step : FnScope N_ring_step p_ring_step (defScope s_ring_step) := ⟨rfl, rfl, rfl, by decide +kernel, rfl, by decide +kernel, by decide +kernel⟩
abbrev N_is_gauge : List Str := ["many", "thing", "size", "weight"]
abbrev p_is_gauge : List Str := ["many", "thing"]
theorem sc_is_gauge : FnScope N_is_gauge p_is_gauge (defScope s_is_gauge) := ⟨rfl, rfl, rfl, by decide +kernel, rfl, by decide +kernel, by decide +kernel⟩
abbrev N_need_gauge : List Str := ["many", "gauge"]
abbrev p_need_gauge : List Str := ["many", "gauge"]
theorem sc_need_gauge : FnScope N_need_gauge p_need_gauge (defScope s_need_gauge) := ⟨rfl, rfl, rfl, by decide +kernel, rfl, by decide +kernel, by decide +kernel⟩
abbrev N_gauge_led : List Str := ["rule", "gauge", "length", "weights", "words", "word"]
abbrev p_gauge_led : List Str := ["rule", "gauge"]
theorem sc_gauge_led : FnScope N_gauge_led p_gauge_led (defScope s_gauge_led) := ⟨rfl, rfl, rfl, by decide +kernel, rfl, by decide +kernel, by decide +kernel⟩
abbrev N_widened : List Str := ["many", "gauge", "length", "part", "weight", "turn"]
abbrev p_widened : List Str := ["many", "gauge", "length"]
theorem sc_widened : FnScope N_widened p_widened (defScope s_widened) := ⟨rfl, rfl, rfl, by decide +kernel, rfl, by decide +kernel, by decide +kernel⟩
abbrev N_less : List Str := ["one", "other", "mine", "yours"]
abbrev p_less : List Str := ["one", "other"]
theorem sc_less : FnScope N_less p_less (defScope s_less) := ⟨rfl, rfl, rfl, by decide +kernel, rfl, by decide +kernel, by decide +kernel⟩
abbrev N_change_gauge : List Str := ["rule", "gauge", "led"]
abbrev p_change_gauge : List Str := ["rule", "gauge"]
theorem sc_change_gauge : FnScope N_change_gauge p_change_gauge (defScope s_change_gauge) := ⟨rfl, rfl, rfl, by decide +kernel, rfl, by decide +kernel, by decide +kernel⟩
abbrev N_lowest : List Str := ["number", "below", "by"]
abbrev p_lowest : List Str := ["number", "below"]
theorem sc_lowest : FnScope N_lowest p_lowest (defScope s_lowest) := ⟨rfl, rfl, rfl, by decide +kernel, rfl, by decide +kernel, by decide +kernel⟩
abbrev N_nodes_in : List Str := ["many", "gauge"]
abbrev p_nodes_in : List Str := ["many", "gauge"]
theorem sc_nodes_in : FnScope N_nodes_in p_nodes_in (defScope s_nodes_in) := ⟨rfl, rfl, rfl, by decide +kernel, rfl, by decide +kernel, by decide +kernel⟩
abbrev N_SumsQ_initQ : List Str := ["self", "many", "gauge"]
abbrev p_SumsQ_initQ : List Str := ["self", "many", "gauge"]
theorem sc_SumsQ_initQ : FnScope N_SumsQ_initQ p_SumsQ_initQ (defScope s_SumsQ_initQ) := ⟨rfl, rfl, rfl, by decide +kernel, rfl, by decide +kernel, by decide +kernel⟩
abbrev N_Sums_ways : List Str := ["self", "node", "found", "kind", "word"]
abbrev p_Sums_ways : List Str := ["self", "node"]
theorem sc_Sums_ways : FnScope N_Sums_ways p_Sums_ways (defScope s_Sums_ways) := ⟨rfl, rfl, rfl, by decide +kernel, rfl, by decide +kernel, by decide +kernel⟩
abbrev N_Sums_greatest_fraction : List Str := ["self", "rows", "turn", "last", "found", "node", "least", "row", "mean"]
abbrev p_Sums_greatest_fraction : List Str := ["self"]
theorem sc_Sums_greatest_fraction : FnScope N_Sums_greatest_fraction p_Sums_greatest_fraction (defScope s_Sums_greatest_fraction) := ⟨rfl, rfl, rfl, by decide +kernel, rfl, by decide +kernel, by decide +kernel⟩
abbrev N_Sums_longer : List Str := ["self", "row", "found", "node", "total", "weight", "later"]
abbrev p_Sums_longer : List Str := ["self", "row"]
theorem sc_Sums_longer : FnScope N_Sums_longer p_Sums_longer (defScope s_Sums_longer) := ⟨rfl, rfl, rfl, by decide +kernel, rfl, by decide +kernel, by decide +kernel⟩
abbrev N_Sums_raised : List Str := ["self", "bound", "above", "below", "numbers", "turn", "is_still", "node", "weight", "later", "wanted"]
abbrev p_Sums_raised : List Str := ["self", "bound"]
theorem sc_Sums_raised : FnScope N_Sums_raised p_Sums_raised (defScope s_Sums_raised) := ⟨rfl, rfl, rfl, by decide +kernel, rfl, by decide +kernel, by decide +kernel⟩
abbrev N_Sums_shortest : List Str := ["self", "bound", "above", "below", "numbers", "tight", "node", "kind", "weight", "later", "size", "found", "some", "cells"]
abbrev p_Sums_shortest : List Str := ["self", "bound"]
theorem sc_Sums_shortest : FnScope N_Sums_shortest p_Sums_shortest (defScope s_Sums_shortest) := ⟨rfl, rfl, rfl, by decide +kernel, rfl, by decide +kernel, by decide +kernel⟩
abbrev N_Sums_least_round : List Str := ["self", "tight", "goal", "size", "ends", "turn", "node", "later", "here", "found", "left", "kind"]
abbrev p_Sums_least_round : List Str := ["self", "tight", "goal", "size"]
theorem sc_Sums_least_round : FnScope N_Sums_least_round p_Sums_least_round (defScope s_Sums_least_round) := ⟨rfl, rfl, rfl, by decide +kernel, rfl, by decide +kernel, by decide +kernel⟩
abbrev N_need_few : List Str := ["nodes"]
abbrev p_need_few : List Str := ["nodes"]
theorem sc_need_few : FnScope N_need_few p_need_few (defScope s_need_few) := ⟨rfl, rfl, rfl, by decide +kernel, rfl, by decide +kernel, by decide +kernel⟩
abbrev N_best_ring : List Str := ["many", "gauge", "sums", "bound"]
abbrev p_best_ring : List Str := ["many", "gauge"]
theorem sc_best_ring : FnScope N_best_ring p_best_ring (defScope s_best_ring) := ⟨rfl, rfl, rfl, by decide +kernel, rfl, by decide +kernel, by decide +kernel⟩
abbrev N_greatest_mean : List Str := ["many", "gauge", "bound", "cells"]
abbrev p_greatest_mean : List Str := ["many", "gauge"]
theorem sc_greatest_mean : FnScope N_greatest_mean p_greatest_mean (defScope s_greatest_mean) := ⟨rfl, rfl, rfl, by decide +kernel, rfl, by decide +kernel, by decide +kernel⟩
abbrev N_led_for : List Str := ["rule", "gauge", "hours", "turn"]
abbrev p_led_for : List Str := ["rule", "gauge", "hours"]
theorem sc_led_for : FnScope N_led_for p_led_for (defScope s_led_for) := ⟨rfl, rfl, rfl, by decide +kernel, rfl, by decide +kernel, by decide +kernel⟩
abbrev N_greatest_after : List Str := ["rule", "gauge", "hours", "bound", "cells", "later", "turn"]
abbrev p_greatest_after : List Str := ["rule", "gauge", "hours"]
theorem sc_greatest_after : FnScope N_greatest_after p_greatest_after (defScope s_greatest_after) := ⟨rfl, rfl, rfl, by decide +kernel, rfl, by decide +kernel, by decide +kernel⟩
abbrev N_gain : List Str := ["rule", "gauge", "length", "weights", "greatest", "least", "weight"]
abbrev p_gain : List Str := ["rule", "gauge"]
theorem sc_gain : FnScope N_gain p_gain (defScope s_gain) := ⟨rfl, rfl, rfl, by decide +kernel, rfl, by decide +kernel, by decide +kernel⟩
abbrev N_law_begun : List Str := ["_law_script", "_law_large", "_law_grain"]
abbrev p_law_begun : List Str := ["_law_script"]
theorem sc_law_begun : FnScope N_law_begun p_law_begun (defScope s_law_begun) := ⟨rfl, rfl, rfl, by decide +kernel, rfl, by decide +kernel, by decide +kernel⟩
abbrev N_law_mixed : List Str := ["_law_draw", "_law_turn", "_law_found", "_law_great", "_law_blend", "_law_grain"]
abbrev p_law_mixed : List Str := ["_law_draw"]
theorem sc_law_mixed : FnScope N_law_mixed p_law_mixed (defScope s_law_mixed) := ⟨rfl, rfl, rfl, by decide +kernel, rfl, by decide +kernel, by decide +kernel⟩
abbrev N_law_take : List Str := ["_law_draw", "_law_amount", "_law_found"]
abbrev p_law_take : List Str := ["_law_draw", "_law_amount"]
theorem sc_law_take : FnScope N_law_take p_law_take (defScope s_law_take) := ⟨rfl, rfl, rfl, by decide +kernel, rfl, by decide +kernel, by decide +kernel⟩
abbrev N_law_pick : List Str := ["_law_draw", "_law_some"]
abbrev p_law_pick : List Str := ["_law_draw", "_law_some"]
theorem sc_law_pick : FnScope N_law_pick p_law_pick (defScope s_law_pick) := ⟨rfl, rfl, rfl, by decide +kernel, rfl, by decide +kernel, by decide +kernel⟩
abbrev N_law_power : List Str := ["_law_one", "_law_times", "_law_found", "_law_turn"]
abbrev p_law_power : List Str := ["_law_one", "_law_times"]
theorem sc_law_power : FnScope N_law_power p_law_power (defScope s_law_power) := ⟨rfl, rfl, rfl, by decide +kernel, rfl, by decide +kernel, by decide +kernel⟩
abbrev N_law_words : List Str := ["_law_many", "_law_size", "_law_found", "_law_turn", "_law_longer", "_law_word_here", "_law_kind_here"]
abbrev p_law_words : List Str := ["_law_many", "_law_size"]
theorem sc_law_words : FnScope N_law_words p_law_words (defScope s_law_words) := ⟨rfl, rfl, rfl, by decide +kernel, rfl, by decide +kernel, by decide +kernel⟩
abbrev N_law_number : List Str := ["_law_many", "_law_word_here", "_law_found", "_law_kind_here"]
abbrev p_law_number : List Str := ["_law_many", "_law_word_here"]
theorem sc_law_number : FnScope N_law_number p_law_number (defScope s_law_number) := ⟨rfl, rfl, rfl, by decide +kernel, rfl, by decide +kernel, by decide +kernel⟩
abbrev N_law_table : List Str := ["_law_draw", "_law_many", "_law_wide", "_law_size", "_law_way", "_law_some", "_law_word_here", "_law_spot", "_law_added", "_law_last_here", "_law_k"]
abbrev p_law_table : List Str := ["_law_draw", "_law_many", "_law_wide"]
theorem sc_law_table : FnScope N_law_table p_law_table (defScope s_law_table) := ⟨rfl, rfl, rfl, by decide +kernel, rfl, by decide +kernel, by decide +kernel⟩
abbrev N_law_model : List Str := ["_law_draw", "_law_widest", "_law_many", "_law_wide"]
abbrev p_law_model : List Str := ["_law_draw", "_law_widest"]
theorem sc_law_model : FnScope N_law_model p_law_model (defScope s_law_model) := ⟨rfl, rfl, rfl, by decide +kernel, rfl, by decide +kernel, by decide +kernel⟩
abbrev N_law_known : List Str := ["_law_draw", "_law_some"]
abbrev p_law_known : List Str := ["_law_draw"]
theorem sc_law_known : FnScope N_law_known p_law_known (defScope s_law_known) := ⟨rfl, rfl, rfl, by decide +kernel, rfl, by decide +kernel, by decide +kernel⟩
abbrev N_law_any_model : List Str := ["_law_draw", "_law_widest", "_law_found"]
abbrev p_law_any_model : List Str := ["_law_draw", "_law_widest"]
theorem sc_law_any_model : FnScope N_law_any_model p_law_any_model (defScope s_law_any_model) := ⟨rfl, rfl, rfl, by decide +kernel, rfl, by decide +kernel, by decide +kernel⟩
abbrev N_law_made : List Str := ["_law_model_here"]
abbrev p_law_made : List Str := ["_law_model_here"]
theorem sc_law_made : FnScope N_law_made p_law_made (defScope s_law_made) := ⟨rfl, rfl, rfl, by decide +kernel, rfl, by decide +kernel, by decide +kernel⟩
abbrev N_law_told : List Str := ["_law_model_here", "_law_word_here"]
abbrev p_law_told : List Str := ["_law_model_here", "_law_word_here"]
theorem sc_law_told : FnScope N_law_told p_law_told (defScope s_law_told) := ⟨rfl, rfl, rfl, by decide +kernel, rfl, by decide +kernel, by decide +kernel⟩
abbrev N_law_step : List Str := ["_law_model_here", "_law_word_here", "_law_wide", "_law_k"]
abbrev p_law_step : List Str := ["_law_model_here", "_law_word_here"]
theorem sc_law_step : FnScope N_law_step p_law_step (defScope s_law_step) := ⟨rfl, rfl, rfl, by decide +kernel, rfl, by decide +kernel, by decide +kernel⟩
abbrev N_law_round : List Str := ["_law_model_here", "_law_cells_here", "_law_many", "_law_found", "_law_k", "_law_j"]
abbrev p_law_round : List Str := ["_law_model_here", "_law_cells_here"]
theorem sc_law_round : FnScope N_law_round p_law_round (defScope s_law_round) := ⟨rfl, rfl, rfl, by decide +kernel, rfl, by decide +kernel, by decide +kernel⟩
abbrev N_law_gauge : List Str := ["_law_draw", "_law_many", "_law_most", "_law_size", "_law_way", "_law_wide", "_law_k"]
abbrev p_law_gauge : List Str := ["_law_draw", "_law_many", "_law_most"]
theorem sc_law_gauge : FnScope N_law_gauge p_law_gauge (defScope s_law_gauge) := ⟨rfl, rfl, rfl, by decide +kernel, rfl, by decide +kernel, by decide +kernel⟩
abbrev N_law_sum : List Str := ["_law_many", "_law_gauge_here", "_law_cells_here", "_law_found", "_law_size", "_law_k", "_law_j"]
abbrev p_law_sum : List Str := ["_law_many", "_law_gauge_here", "_law_cells_here"]
theorem sc_law_sum : FnScope N_law_sum p_law_sum (defScope s_law_sum) := ⟨rfl, rfl, rfl, by decide +kernel, rfl, by decide +kernel, by decide +kernel⟩
abbrev N_law_low : List Str := ["_law_up", "_law_down", "_law_one", "_law_other"]
abbrev p_law_low : List Str := ["_law_up", "_law_down"]
theorem sc_law_low : FnScope N_law_low p_law_low (defScope s_law_low) := ⟨rfl, rfl, rfl, by decide +kernel, rfl, by decide +kernel, by decide +kernel⟩
abbrev N_law_later : List Str := ["_law_model_here", "_law_cells_here", "_law_hours_here", "_law_turn"]
abbrev p_law_later : List Str := ["_law_model_here", "_law_cells_here", "_law_hours_here"]
theorem sc_law_later : FnScope N_law_later p_law_later (defScope s_law_later) := ⟨rfl, rfl, rfl, by decide +kernel, rfl, by decide +kernel, by decide +kernel⟩
abbrev N_law_extremes : List Str := ["_law_model_here", "_law_gauge_here", "_law_hours_here", "_law_longest_here", "_law_is_change", "_law_least_here", "_law_most_here", "_law_size", "_law_cells_here", "_law_up"]
abbrev p_law_extremes : List Str := ["_law_model_here", "_law_gauge_here", "_law_hours_here", "_law_longest_here", "_law_is_change"]
theorem sc_law_extremes : FnScope N_law_extremes p_law_extremes (defScope s_law_extremes) := ⟨rfl, rfl, rfl, by decide +kernel, rfl, by decide +kernel, by decide +kernel⟩
abbrev N_law_after_right : List Str := ["_law_model_here", "_law_gauge_here", "_law_hours_here", "_law_wide", "_law_low_here", "_law_most_here", "_law_cells_here", "_law_later_here", "_law_due", "_law_rule_here", "_law_told_here", "_law_ahead"]
abbrev p_law_after_right : List Str := ["_law_model_here", "_law_gauge_here", "_law_hours_here"]
theorem sc_law_after_right : FnScope N_law_after_right p_law_after_right (defScope s_law_after_right) := ⟨rfl, rfl, rfl, by decide +kernel, rfl, by decide +kernel, by decide +kernel⟩
abbrev N_law_led_weights : List Str := ["_law_model_here", "_law_gauge_here", "_law_hours_here", "_law_wide", "_law_found", "_law_word_here", "_law_turn"]
abbrev p_law_led_weights : List Str := ["_law_model_here", "_law_gauge_here", "_law_hours_here"]
theorem sc_law_led_weights : FnScope N_law_led_weights p_law_led_weights (defScope s_law_led_weights) := ⟨rfl, rfl, rfl, by decide +kernel, rfl, by decide +kernel, by decide +kernel⟩
abbrev N_law_sums : List Str := ["_law_many", "_law_gauge_here", "_law_most", "_law_size", "_law_found", "_law_rows_here", "_law_j", "_law_k", "_law_turn", "_law_later_here", "_law_start", "_law_number_here", "_law_part", "_law_goal", "_law_total", "_law_held"]
abbrev p_law_sums : List Str := ["_law_many", "_law_gauge_here", "_law_most"]
theorem sc_law_sums : FnScope N_law_sums p_law_sums (defScope s_law_sums) := ⟨rfl, rfl, rfl, by decide +kernel, rfl, by decide +kernel, by decide +kernel⟩
abbrev N_law_far_right : List Str := ["_law_model_here", "_law_gauge_here", "_law_hours_here", "_law_many", "_law_wide", "_law_size", "_law_sums_here", "_law_most_here", "_law_k", "_law_up", "_law_bound", "_law_ring", "_law_later_here"]
abbrev p_law_far_right : List Str := ["_law_model_here", "_law_gauge_here", "_law_hours_here"]
theorem sc_law_far_right : FnScope N_law_far_right p_law_far_right (defScope s_law_far_right) := ⟨rfl, rfl, rfl, by decide +kernel, rfl, by decide +kernel, by decide +kernel⟩
abbrev N_law : List Str := ["_law_script", "_law_draw", "_law_turn", "_law_model_here", "_law_gauge_here", "_law_most", "_law_hours_here", "_law_far", "_law_wide", "_law_rule_here", "_law_due"]
abbrev p_law : List Str := ["_law_script"]
theorem sc_law : FnScope N_law p_law (defScope s_law) := ⟨rfl, rfl, rfl, by decide +kernel, rfl, by decide +kernel, by decide +kernel⟩
def looseAll : List Str := (["_wall", "WeatherError", "BadKinds", "BadWord", "BadRule", "BadHours", "TooMany", "BadGauge", "is_number", "is_between", "is_pair", "is_word", "need_kinds", "number_in", "word_of", "all_words"] : List Str) ++ (["power_of", "common_divisor", "MOST_ROUND", "Ring", "MOST_FIRST", "MOST_NODES_rules", "SIZE", "width_of", "Rule", "need_rule", "nodes_of", "need_size", "told", "step_word", "ring_step", "MOST_WORDS"] : List Str) ++ (["MOST_LONG", "is_gauge", "need_gauge", "gauge_led", "widened", "less", "change_gauge", "MOST_NODES_means", "MOST_HOURS", "lowest", "nodes_in", "Sums", "need_few", "best_ring", "greatest_mean", "led_for"] : List Str) ++ (["greatest_after", "gain", "_law_begun", "_law_mixed", "_law_take", "_law_pick", "_law_shuffled", "_law_power", "_law_words", "_law_number", "_law_table", "_law_model", "_law_known", "_law_any_model", "_law_made", "_law_told"] : List Str) ++ (["_law_step", "_law_round", "_law_gauge", "_law_sum", "_law_low", "_law_later", "_law_extremes", "_law_after_right", "_law_led_weights", "_law_sums", "_law_far_right"] : List Str)
abbrev lawAt : Nat := 82
end WL
/-! printed by wip/gen_head.py: the facts of the program's top, the hook, the run -/
namespace WL
open PySem PySem.Spec PyProof.Rows L2
/-- a property of a class: where its getter stands -/
structure PropD where
  cls : Str
  name : Str
  qual : Str
  params : Arguments
  body : List Stmt
  scope : Scope
def pAd (K : PySem.W.Frag) (c f : Str) : Addr := He.ma K (He.ga K c) f
def gAd (K : PySem.W.Frag) (c f : Str) : Addr := match PySem.W.recIn K (pAd K c f) "property" with
  | some (.ref g :: _) => g
  | _ => 0
def recB (K : PySem.W.Frag) (c f : Str) : Bool := match PySem.W.recIn K (pAd K c f) "property" with
  | some (.ref _ :: _) => true
  | _ => false
theorem recB_ok {K : PySem.W.Frag} {c f : Str} (h : recB K c f = true) : ∃ rest, PySem.W.recIn K (pAd K c f) "property" = some (.ref (gAd K c f) :: rest) := by
  unfold recB at h
  unfold gAd
  split at h
  · rename_i g r e
    rw [e]
    exact ⟨r, rfl⟩
  · cases h
def fnG (K : PySem.W.Frag) (d : PropD) : He.FnW := match K.lookup (gAd K d.cls d.name) with
  | some ⟨_, _, .func fd, _⟩ => some (fd.name, fd.qualname, fd.params, fd.body, fd.scope, fd.globals, fd.closure, fd.builtins)
  | _ => none
def PropD.val (d : PropD) : He.FnW := some (d.name, d.qual, d.params, .stmts d.body, d.scope, mainGlobals, [], builtinsNs)
def PropD.ok (K : PySem.W.Frag) (d : PropD) : Bool := (He.eqO (PySem.W.findIn K (.ref (He.ga K d.cls)) d.name) (some (some (.ref (pAd K d.cls d.name)))) && (He.eqO (PySem.W.specialIn K (.ref (pAd K d.cls d.name)) "__get__") (some (some (.builtin "property.__get__"))) &&
  (decide (PySem.W.takesIn K (.ref (pAd K d.cls d.name)) = some true) && recB K d.cls d.name))) && (PySem.W.keepIn K (.ref (gAd K d.cls d.name)) && (match K.lookup (gAd K d.cls d.name) with
  | some ⟨_, _, .func fd, _⟩ => PySem.W.codeIn K fd.code d.qual && (He.dflB K fd.defaults [] && He.kwdB K fd.kwdefaults [])
  | _ => false))
theorem PropD.prop {K : PySem.W.Frag} {d : PropD} (c : d.ok K = true) : PropOf K (He.ga K d.cls) d.name (pAd K d.cls d.name) (gAd K d.cls d.name) := by
  obtain ⟨c1, _⟩ := He.ba c
  obtain ⟨a1, c1⟩ := He.ba c1
  obtain ⟨a2, c1⟩ := He.ba c1
  obtain ⟨a3, a4⟩ := He.ba c1
  exact ⟨He.eqO_ok a1, He.eqO_ok a2, of_decide_eq_true a3, recB_ok a4⟩
theorem PropD.funD {K : PySem.W.Frag} {d : PropD} (e : fnG K d = d.val) (c : d.ok K = true) : ∃ fd, FunD K d.name d.qual d.params d.body d.scope [] [] (gAd K d.cls d.name) fd := by
  obtain ⟨_, c2⟩ := He.ba c
  obtain ⟨kp, c2⟩ := He.ba c2
  unfold fnG at e
  cases q : K.lookup (gAd K d.cls d.name) with
  | none =>
    rw [q] at c2
    cases c2
  | some o =>
    obtain ⟨oc, od, dt, osl⟩ := o
    rw [q] at c2 e
    cases dt with
    | func fd =>
      obtain ⟨n1, n2, n3, n4, n5, n6, n7, n8, n9, n10, n11, n12, n13, n14, n15⟩ := fd
      have e2 : (some (n1, n2, n3, n4, n5, n6, n7, n15) : He.FnW) = some (d.name, d.qual, d.params, .stmts d.body, d.scope, mainGlobals, [], builtinsNs) := e
      simp only [Option.some.injEq, Prod.mk.injEq] at e2
      obtain ⟨h1, h2, h3, h4, h5, h6, h7, h8⟩ := e2
      subst h1 h2 h3 h4 h5 h6 h7 h8
      have c3 : (PySem.W.codeIn K n13 d.qual && (He.dflB K n8 [] && He.kwdB K n9 [])) = true := c2
      obtain ⟨k1, k2⟩ := He.ba c3
      obtain ⟨k3, k4⟩ := He.ba k2
      exact ⟨_, ⟨oc, od, n8, n9, n10, n11, n12, n13, n14, osl, rfl, q, k1, He.dflB_ok k3, He.kwdB_ok k4⟩, kp⟩
    | _ => cases c2
/-- what isinstance asks of an own class -/
def isB (K : PySem.W.Frag) (c : Str) : Bool := He.eqO (PySem.W.findIn K (.ref (He.ga K c)) "__class__") (some (some (.builtin "object.__class__"))) && (He.eqO (PySem.W.specialIn K (.builtin "object.__class__") "__get__") (some (some (.builtin "getset_descriptor.__get__"))) &&
  (decide (PySem.W.takesIn K (.builtin "object.__class__") = some true) && decide (PySem.W.mroIn K (He.ga K c) (.type "object") = some true)))
structure IsC (K : PySem.W.Frag) (C : Addr) : Prop where
  cl : Cls K C
  ha : PySem.W.findIn K (.ref C) "__class__" = some (some (.builtin "object.__class__"))
  hn : PySem.W.specialIn K (.builtin "object.__class__") "__get__" = some (some (.builtin "getset_descriptor.__get__"))
  htk : PySem.W.takesIn K (.builtin "object.__class__") = some true
  hm : PySem.W.mroIn K C (.type "object") = some true
theorem isB_ok {K : PySem.W.Frag} {c : Str} (cl : Cls K (He.ga K c)) (h : isB K c = true) : IsC K (He.ga K c) := by
  obtain ⟨a1, h⟩ := He.ba h
  obtain ⟨a2, h⟩ := He.ba h
  obtain ⟨a3, a4⟩ := He.ba h
  exact ⟨cl, He.eqO_ok a1, He.eqO_ok a2, of_decide_eq_true a3, of_decide_eq_true a4⟩
/-- a def of the top as it stands behind it -/
abbrev FnE (K : PySem.W.Frag) (d : He.DefD) : Prop := ∃ fd, FunD K d.name d.qual d.params d.body d.scope (d.dvs K) (d.kws K) (He.fAd K d.at_) fd
def pd_Ring_cells : PropD := ⟨"Ring", "cells", "Ring.cells", defArgs s_Ring_cells, defBody s_Ring_cells, defScope s_Ring_cells⟩
def pd_Rule_many : PropD := ⟨"Rule", "many", "Rule.many", defArgs s_Rule_many, defBody s_Rule_many, defScope s_Rule_many⟩
def pd_Rule_width : PropD := ⟨"Rule", "width", "Rule.width", defArgs s_Rule_width, defBody s_Rule_width, defScope s_Rule_width⟩
def props : List PropD := [pd_Ring_cells, pd_Rule_many, pd_Rule_width]
def isCs : List Str := ["Ring", "Rule", "Sums"]
def facts : List He.Fa := ([.glo "is_number", .glo "is_between", .glo "is_pair", .glo "is_word", .glo "need_kinds", .glo "number_in", .glo "word_of", .glo "all_words", .glo "power_of", .glo "common_divisor", .glo "width_of", .glo "need_rule", .glo "nodes_of", .glo "need_size", .glo "told", .glo "step_word"] : List He.Fa) ++ ([.glo "ring_step", .glo "is_gauge", .glo "need_gauge", .glo "gauge_led", .glo "widened", .glo "less", .glo "change_gauge", .glo "lowest", .glo "nodes_in", .glo "need_few", .glo "best_ring", .glo "greatest_mean", .glo "led_for", .glo "greatest_after", .glo "gain", .glo "_law_begun"] : List He.Fa) ++ ([.glo "_law_mixed", .glo "_law_take", .glo "_law_pick", .glo "_law_power", .glo "_law_words", .glo "_law_number", .glo "_law_table", .glo "_law_model", .glo "_law_known", .glo "_law_any_model", .glo "_law_made", .glo "_law_told", .glo "_law_step", .glo "_law_round", .glo "_law_gauge", .glo "_law_sum"] : List He.Fa) ++ ([.glo "_law_low", .glo "_law_later", .glo "_law_extremes", .glo "_law_after_right", .glo "_law_led_weights", .glo "_law_sums", .glo "_law_far_right", .glo "Ring", .glo "Rule", .glo "Sums", .glo "law", .free "isinstance", .free "int", .free "bool", .free "tuple", .free "len"] : List He.Fa) ++ ([.free "all", .free "any", .free "range", .free "abs", .free "zip", .free "enumerate", .free "sorted", .free "min", .free "max", .free "sum", .free "repr", .int "MOST_ROUND" 100, .int "MOST_FIRST" 40, .int "MOST_NODES_rules" 729, .int "SIZE" 9, .int "MOST_WORDS" 729] : List He.Fa) ++ ([.int "MOST_LONG" 9, .int "MOST_NODES_means" 60, .int "MOST_HOURS" 4, .cls "Ring", .mkr "Ring", .noat "Ring" "own_many", .noat "Ring" "own_cells", .cls "Rule", .mkr "Rule", .noat "Rule" "own_many", .noat "Rule" "own_first", .noat "Rule" "own_table", .noat "Rule" "own_width", .cls "Sums", .mkr "Sums", .noat "Sums" "s_many"] : List He.Fa) ++ ([.noat "Sums" "s_size", .noat "Sums" "s_weights", .meth "Ring" "__eq__", .meth "Sums" "ways", .meth "Sums" "greatest_fraction", .meth "Sums" "longer", .meth "Sums" "raised", .meth "Sums" "shortest", .meth "Sums" "least_round"] : List He.Fa)
/-- what the walk knows of the program's top -/
structure Txt (K : PySem.W.Frag) (mg : Str → Option Value) : Prop where
  g_is_number : mg "is_number" = some (.ref (He.ga K "is_number"))
  g_is_between : mg "is_between" = some (.ref (He.ga K "is_between"))
  g_is_pair : mg "is_pair" = some (.ref (He.ga K "is_pair"))
  g_is_word : mg "is_word" = some (.ref (He.ga K "is_word"))
  g_need_kinds : mg "need_kinds" = some (.ref (He.ga K "need_kinds"))
  g_number_in : mg "number_in" = some (.ref (He.ga K "number_in"))
  g_word_of : mg "word_of" = some (.ref (He.ga K "word_of"))
  g_all_words : mg "all_words" = some (.ref (He.ga K "all_words"))
  g_power_of : mg "power_of" = some (.ref (He.ga K "power_of"))
  g_common_divisor : mg "common_divisor" = some (.ref (He.ga K "common_divisor"))
  g_width_of : mg "width_of" = some (.ref (He.ga K "width_of"))
  g_need_rule : mg "need_rule" = some (.ref (He.ga K "need_rule"))
  g_nodes_of : mg "nodes_of" = some (.ref (He.ga K "nodes_of"))
  g_need_size : mg "need_size" = some (.ref (He.ga K "need_size"))
  g_told : mg "told" = some (.ref (He.ga K "told"))
  g_step_word : mg "step_word" = some (.ref (He.ga K "step_word"))
  g_ring_step : mg "ring_step" = some (.ref (He.ga K "ring_step"))
  g_is_gauge : mg "is_gauge" = some (.ref (He.ga K "is_gauge"))
  g_need_gauge : mg "need_gauge" = some (.ref (He.ga K "need_gauge"))
  g_gauge_led : mg "gauge_led" = some (.ref (He.ga K "gauge_led"))
  g_widened : mg "widened" = some (.ref (He.ga K "widened"))
  g_less : mg "less" = some (.ref (He.ga K "less"))
  g_change_gauge : mg "change_gauge" = some (.ref (He.ga K "change_gauge"))
  g_lowest : mg "lowest" = some (.ref (He.ga K "lowest"))
  g_nodes_in : mg "nodes_in" = some (.ref (He.ga K "nodes_in"))
  g_need_few : mg "need_few" = some (.ref (He.ga K "need_few"))
  g_best_ring : mg "best_ring" = some (.ref (He.ga K "best_ring"))
  g_greatest_mean : mg "greatest_mean" = some (.ref (He.ga K "greatest_mean"))
  g_led_for : mg "led_for" = some (.ref (He.ga K "led_for"))
  g_greatest_after : mg "greatest_after" = some (.ref (He.ga K "greatest_after"))
  g_gain : mg "gain" = some (.ref (He.ga K "gain"))
  g_law_begun : mg "_law_begun" = some (.ref (He.ga K "_law_begun"))
  g_law_mixed : mg "_law_mixed" = some (.ref (He.ga K "_law_mixed"))
  g_law_take : mg "_law_take" = some (.ref (He.ga K "_law_take"))
  g_law_pick : mg "_law_pick" = some (.ref (He.ga K "_law_pick"))
  g_law_power : mg "_law_power" = some (.ref (He.ga K "_law_power"))
  g_law_words : mg "_law_words" = some (.ref (He.ga K "_law_words"))
  g_law_number : mg "_law_number" = some (.ref (He.ga K "_law_number"))
  g_law_table : mg "_law_table" = some (.ref (He.ga K "_law_table"))
  g_law_model : mg "_law_model" = some (.ref (He.ga K "_law_model"))
  g_law_known : mg "_law_known" = some (.ref (He.ga K "_law_known"))
  g_law_any_model : mg "_law_any_model" = some (.ref (He.ga K "_law_any_model"))
  g_law_made : mg "_law_made" = some (.ref (He.ga K "_law_made"))
  g_law_told : mg "_law_told" = some (.ref (He.ga K "_law_told"))
  g_law_step : mg "_law_step" = some (.ref (He.ga K "_law_step"))
  g_law_round : mg "_law_round" = some (.ref (He.ga K "_law_round"))
  g_law_gauge : mg "_law_gauge" = some (.ref (He.ga K "_law_gauge"))
  g_law_sum : mg "_law_sum" = some (.ref (He.ga K "_law_sum"))
  g_law_low : mg "_law_low" = some (.ref (He.ga K "_law_low"))
  g_law_later : mg "_law_later" = some (.ref (He.ga K "_law_later"))
  g_law_extremes : mg "_law_extremes" = some (.ref (He.ga K "_law_extremes"))
  g_law_after_right : mg "_law_after_right" = some (.ref (He.ga K "_law_after_right"))
  g_law_led_weights : mg "_law_led_weights" = some (.ref (He.ga K "_law_led_weights"))
  g_law_sums : mg "_law_sums" = some (.ref (He.ga K "_law_sums"))
  g_law_far_right : mg "_law_far_right" = some (.ref (He.ga K "_law_far_right"))
  g_Ring : mg "Ring" = some (.ref (He.ga K "Ring"))
  g_Rule : mg "Rule" = some (.ref (He.ga K "Rule"))
  g_Sums : mg "Sums" = some (.ref (He.ga K "Sums"))
  g_law : mg "law" = some (.ref (He.ga K "law"))
  b_isinstance : mg "isinstance" = none
  b_int : mg "int" = none
  b_bool : mg "bool" = none
  b_tuple : mg "tuple" = none
  b_len : mg "len" = none
  b_all : mg "all" = none
  b_any : mg "any" = none
  b_range : mg "range" = none
  b_abs : mg "abs" = none
  b_zip : mg "zip" = none
  b_enumerate : mg "enumerate" = none
  b_sorted : mg "sorted" = none
  b_min : mg "min" = none
  b_max : mg "max" = none
  b_sum : mg "sum" = none
  b_repr : mg "repr" = none
  i_MOST_ROUND : ∃ t, mg "MOST_ROUND" = some (.int 100 t)
  i_MOST_FIRST : ∃ t, mg "MOST_FIRST" = some (.int 40 t)
  i_MOST_NODES_rules : ∃ t, mg "MOST_NODES_rules" = some (.int 729 t)
  i_SIZE : ∃ t, mg "SIZE" = some (.int 9 t)
  i_MOST_WORDS : ∃ t, mg "MOST_WORDS" = some (.int 729 t)
  i_MOST_LONG : ∃ t, mg "MOST_LONG" = some (.int 9 t)
  i_MOST_NODES_means : ∃ t, mg "MOST_NODES_means" = some (.int 60 t)
  i_MOST_HOURS : ∃ t, mg "MOST_HOURS" = some (.int 4 t)
  cl_Ring : Cls K (He.ga K "Ring")
  mk_Ring : Mk K (He.ga K "Ring") (He.ma K (He.ga K "Ring") "__init__")
  n_Ring_own_many : NoAttr K (He.ga K "Ring") "own_many"
  n_Ring_own_cells : NoAttr K (He.ga K "Ring") "own_cells"
  cl_Rule : Cls K (He.ga K "Rule")
  mk_Rule : Mk K (He.ga K "Rule") (He.ma K (He.ga K "Rule") "__init__")
  n_Rule_own_many : NoAttr K (He.ga K "Rule") "own_many"
  n_Rule_own_first : NoAttr K (He.ga K "Rule") "own_first"
  n_Rule_own_table : NoAttr K (He.ga K "Rule") "own_table"
  n_Rule_own_width : NoAttr K (He.ga K "Rule") "own_width"
  cl_Sums : Cls K (He.ga K "Sums")
  mk_Sums : Mk K (He.ga K "Sums") (He.ma K (He.ga K "Sums") "__init__")
  n_Sums_s_many : NoAttr K (He.ga K "Sums") "s_many"
  n_Sums_s_size : NoAttr K (He.ga K "Sums") "s_size"
  n_Sums_s_weights : NoAttr K (He.ga K "Sums") "s_weights"
  m_Ring_QeqQ : Meth K (He.ga K "Ring") "__eq__" (He.ma K (He.ga K "Ring") "__eq__")
  m_Sums_ways : Meth K (He.ga K "Sums") "ways" (He.ma K (He.ga K "Sums") "ways")
  m_Sums_greatest_fraction : Meth K (He.ga K "Sums") "greatest_fraction" (He.ma K (He.ga K "Sums") "greatest_fraction")
  m_Sums_longer : Meth K (He.ga K "Sums") "longer" (He.ma K (He.ga K "Sums") "longer")
  m_Sums_raised : Meth K (He.ga K "Sums") "raised" (He.ma K (He.ga K "Sums") "raised")
  m_Sums_shortest : Meth K (He.ga K "Sums") "shortest" (He.ma K (He.ga K "Sums") "shortest")
  m_Sums_least_round : Meth K (He.ga K "Sums") "least_round" (He.ma K (He.ga K "Sums") "least_round")
  is_Ring : IsC K (He.ga K "Ring")
  is_Rule : IsC K (He.ga K "Rule")
  is_Sums : IsC K (He.ga K "Sums")
  pr_Ring_cells : PropOf K (He.ga K "Ring") "cells" (pAd K "Ring" "cells") (gAd K "Ring" "cells")
  gt_Ring_cells : ∃ fd, FunD K pd_Ring_cells.name pd_Ring_cells.qual pd_Ring_cells.params pd_Ring_cells.body pd_Ring_cells.scope [] [] (gAd K "Ring" "cells") fd
  pr_Rule_many : PropOf K (He.ga K "Rule") "many" (pAd K "Rule" "many") (gAd K "Rule" "many")
  gt_Rule_many : ∃ fd, FunD K pd_Rule_many.name pd_Rule_many.qual pd_Rule_many.params pd_Rule_many.body pd_Rule_many.scope [] [] (gAd K "Rule" "many") fd
  pr_Rule_width : PropOf K (He.ga K "Rule") "width" (pAd K "Rule" "width") (gAd K "Rule" "width")
  gt_Rule_width : ∃ fd, FunD K pd_Rule_width.name pd_Rule_width.qual pd_Rule_width.params pd_Rule_width.body pd_Rule_width.scope [] [] (gAd K "Rule" "width") fd
  f_is_number : FnE K d_is_number
  f_is_between : FnE K d_is_between
  f_is_pair : FnE K d_is_pair
  f_is_word : FnE K d_is_word
  f_need_kinds : FnE K d_need_kinds
  f_number_in : FnE K d_number_in
  f_word_of : FnE K d_word_of
  f_all_words : FnE K d_all_words
  f_power_of : FnE K d_power_of
  f_common_divisor : FnE K d_common_divisor
  f_RingQ_initQ : FnE K d_RingQ_initQ
  f_RingQ_eqQ : FnE K d_RingQ_eqQ
  f_width_of : FnE K d_width_of
  f_RuleQ_initQ : FnE K d_RuleQ_initQ
  f_RuleQ_eqQ : FnE K d_RuleQ_eqQ
  f_need_rule : FnE K d_need_rule
  f_nodes_of : FnE K d_nodes_of
  f_need_size : FnE K d_need_size
  f_told : FnE K d_told
  f_step_word : FnE K d_step_word
  f_ring_step : FnE K d_ring_step
  f_is_gauge : FnE K d_is_gauge
  f_need_gauge : FnE K d_need_gauge
  f_gauge_led : FnE K d_gauge_led
  f_widened : FnE K d_widened
  f_less : FnE K d_less
  f_change_gauge : FnE K d_change_gauge
  f_lowest : FnE K d_lowest
  f_nodes_in : FnE K d_nodes_in
  f_SumsQ_initQ : FnE K d_SumsQ_initQ
  f_Sums_ways : FnE K d_Sums_ways
  f_Sums_greatest_fraction : FnE K d_Sums_greatest_fraction
  f_Sums_longer : FnE K d_Sums_longer
  f_Sums_raised : FnE K d_Sums_raised
  f_Sums_shortest : FnE K d_Sums_shortest
  f_Sums_least_round : FnE K d_Sums_least_round
  f_need_few : FnE K d_need_few
  f_best_ring : FnE K d_best_ring
  f_greatest_mean : FnE K d_greatest_mean
  f_led_for : FnE K d_led_for
  f_greatest_after : FnE K d_greatest_after
  f_gain : FnE K d_gain
  f_law_begun : FnE K d_law_begun
  f_law_mixed : FnE K d_law_mixed
  f_law_take : FnE K d_law_take
  f_law_pick : FnE K d_law_pick
  f_law_power : FnE K d_law_power
  f_law_words : FnE K d_law_words
  f_law_number : FnE K d_law_number
  f_law_table : FnE K d_law_table
  f_law_model : FnE K d_law_model
  f_law_known : FnE K d_law_known
  f_law_any_model : FnE K d_law_any_model
  f_law_made : FnE K d_law_made
  f_law_told : FnE K d_law_told
  f_law_step : FnE K d_law_step
  f_law_round : FnE K d_law_round
  f_law_gauge : FnE K d_law_gauge
  f_law_sum : FnE K d_law_sum
  f_law_low : FnE K d_law_low
  f_law_later : FnE K d_law_later
  f_law_extremes : FnE K d_law_extremes
  f_law_after_right : FnE K d_law_after_right
  f_law_led_weights : FnE K d_law_led_weights
  f_law_sums : FnE K d_law_sums
  f_law_far_right : FnE K d_law_far_right
  f_law : FnE K d_law
/-! ### the hook -/
abbrev AlP : Type := He.AlD × (Bool × List He.FnW)
def obsP (K : PySem.W.Frag) : AlP := (He.obsD facts allDefs K, ((isCs.all fun c => isB K c) && props.all fun d => d.ok K, props.map fun d => fnG K d))
def valP : AlP := (He.valD allDefs, (true, props.map PropD.val))
def SaysP (K : PySem.W.Frag) : Prop := obsP K = valP
def obG (g : Addr → Option Obj) : AlP := obsP (He.frG g (He.asD g 5))
def hk : PySem.W.Hook where
  α := AlP
  obs := fun s => obG s.heap.get?
  val := fun _ => valP
  says := fun _ h => ∃ K : PySem.W.Frag, K.In h ∧ SaysP K
  of := fun _ _ e => ⟨_, He.frG_in, e⟩
  keeps := fun _ _ _ ⟨K, hK, c⟩ k => ⟨K, PySem.W.Frag.In.keeps hK k, c⟩
theorem obG_eq {g : Addr → Option Obj} {s : Shared} (h : ∀ a, g a = s.heap.get? a) : obG g = hk.obs s := by
  have e : g = s.heap.get? := funext h
  rw [e] <;> rfl
def ob (s : PySem.W.SharedT) : AlP := obG (HandSHeadRun.getT s)
theorem ob_eq (s : PySem.W.SharedT) : ob s = hk.obs s.abs := obG_eq (HandSHeadRun.getT_eq s)
theorem txt_of {K : PySem.W.Frag} {h : Heap} {mg : Str → Option Value} (X : K.In h) (G : h.Ns mainGlobals mg) (c : SaysP K) : Txt K mg := by
  have c1 : He.SaysD facts allDefs K := congrArg (fun z : AlP => z.1) c
  have c2 : ((isCs.all fun c => isB K c) && props.all fun d => d.ok K) = true := congrArg (fun z : AlP => z.2.1) c
  have c3 : (props.map fun d => fnG K d) = props.map PropD.val := congrArg (fun z : AlP => z.2.2) c
  obtain ⟨c4, c5⟩ := He.ba c2
  have is_ : ∀ x, x ∈ isCs → isB K x = true := fun x m => List.all_eq_true.mp c4 x m
  have pr_ : ∀ d, d ∈ props → d.ok K = true := fun d m => List.all_eq_true.mp c5 d m
  have pf_ : ∀ (i : Nat) (d : PropD), props[i]? = some d → fnG K d = d.val := fun i d e => by
    have q : (props.map fun d => fnG K d)[i]? = (props.map PropD.val)[i]? := by rw [c3]
    rw [List.getElem?_map, List.getElem?_map, e] at q
    exact Option.some.inj q
  have pm_ : ∀ (i : Nat) (d : PropD), props[i]? = some d → d ∈ props := fun i d e => List.mem_of_getElem? e
  exact ⟨(He.glo_ok X G (c1.fact 0 (f := .glo "is_number") rfl)),
    (He.glo_ok X G (c1.fact 1 (f := .glo "is_between") rfl)),
    (He.glo_ok X G (c1.fact 2 (f := .glo "is_pair") rfl)),
    (He.glo_ok X G (c1.fact 3 (f := .glo "is_word") rfl)),
    (He.glo_ok X G (c1.fact 4 (f := .glo "need_kinds") rfl)),
    (He.glo_ok X G (c1.fact 5 (f := .glo "number_in") rfl)),
    (He.glo_ok X G (c1.fact 6 (f := .glo "word_of") rfl)),
    (He.glo_ok X G (c1.fact 7 (f := .glo "all_words") rfl)),
    (He.glo_ok X G (c1.fact 8 (f := .glo "power_of") rfl)),
    (He.glo_ok X G (c1.fact 9 (f := .glo "common_divisor") rfl)),
    (He.glo_ok X G (c1.fact 10 (f := .glo "width_of") rfl)),
    (He.glo_ok X G (c1.fact 11 (f := .glo "need_rule") rfl)),
    (He.glo_ok X G (c1.fact 12 (f := .glo "nodes_of") rfl)),
    (He.glo_ok X G (c1.fact 13 (f := .glo "need_size") rfl)),
    (He.glo_ok X G (c1.fact 14 (f := .glo "told") rfl)),
    (He.glo_ok X G (c1.fact 15 (f := .glo "step_word") rfl)),
    (He.glo_ok X G (c1.fact 16 (f := .glo "ring_step") rfl)),
    (He.glo_ok X G (c1.fact 17 (f := .glo "is_gauge") rfl)),
    (He.glo_ok X G (c1.fact 18 (f := .glo "need_gauge") rfl)),
    (He.glo_ok X G (c1.fact 19 (f := .glo "gauge_led") rfl)),
    (He.glo_ok X G (c1.fact 20 (f := .glo "widened") rfl)),
    (He.glo_ok X G (c1.fact 21 (f := .glo "less") rfl)),
    (He.glo_ok X G (c1.fact 22 (f := .glo "change_gauge") rfl)),
    (He.glo_ok X G (c1.fact 23 (f := .glo "lowest") rfl)),
    (He.glo_ok X G (c1.fact 24 (f := .glo "nodes_in") rfl)),
    (He.glo_ok X G (c1.fact 25 (f := .glo "need_few") rfl)),
    (He.glo_ok X G (c1.fact 26 (f := .glo "best_ring") rfl)),
    (He.glo_ok X G (c1.fact 27 (f := .glo "greatest_mean") rfl)),
    (He.glo_ok X G (c1.fact 28 (f := .glo "led_for") rfl)),
    (He.glo_ok X G (c1.fact 29 (f := .glo "greatest_after") rfl)),
    (He.glo_ok X G (c1.fact 30 (f := .glo "gain") rfl)),
    (He.glo_ok X G (c1.fact 31 (f := .glo "_law_begun") rfl)),
    (He.glo_ok X G (c1.fact 32 (f := .glo "_law_mixed") rfl)),
    (He.glo_ok X G (c1.fact 33 (f := .glo "_law_take") rfl)),
    (He.glo_ok X G (c1.fact 34 (f := .glo "_law_pick") rfl)),
    (He.glo_ok X G (c1.fact 35 (f := .glo "_law_power") rfl)),
    (He.glo_ok X G (c1.fact 36 (f := .glo "_law_words") rfl)),
    (He.glo_ok X G (c1.fact 37 (f := .glo "_law_number") rfl)),
    (He.glo_ok X G (c1.fact 38 (f := .glo "_law_table") rfl)),
    (He.glo_ok X G (c1.fact 39 (f := .glo "_law_model") rfl)),
    (He.glo_ok X G (c1.fact 40 (f := .glo "_law_known") rfl)),
    (He.glo_ok X G (c1.fact 41 (f := .glo "_law_any_model") rfl)),
    (He.glo_ok X G (c1.fact 42 (f := .glo "_law_made") rfl)),
    (He.glo_ok X G (c1.fact 43 (f := .glo "_law_told") rfl)),
    (He.glo_ok X G (c1.fact 44 (f := .glo "_law_step") rfl)),
    (He.glo_ok X G (c1.fact 45 (f := .glo "_law_round") rfl)),
    (He.glo_ok X G (c1.fact 46 (f := .glo "_law_gauge") rfl)),
    (He.glo_ok X G (c1.fact 47 (f := .glo "_law_sum") rfl)),
    (He.glo_ok X G (c1.fact 48 (f := .glo "_law_low") rfl)),
    (He.glo_ok X G (c1.fact 49 (f := .glo "_law_later") rfl)),
    (He.glo_ok X G (c1.fact 50 (f := .glo "_law_extremes") rfl)),
    (He.glo_ok X G (c1.fact 51 (f := .glo "_law_after_right") rfl)),
    (He.glo_ok X G (c1.fact 52 (f := .glo "_law_led_weights") rfl)),
    (He.glo_ok X G (c1.fact 53 (f := .glo "_law_sums") rfl)),
    (He.glo_ok X G (c1.fact 54 (f := .glo "_law_far_right") rfl)),
    (He.glo_ok X G (c1.fact 55 (f := .glo "Ring") rfl)),
    (He.glo_ok X G (c1.fact 56 (f := .glo "Rule") rfl)),
    (He.glo_ok X G (c1.fact 57 (f := .glo "Sums") rfl)),
    (He.glo_ok X G (c1.fact 58 (f := .glo "law") rfl)),
    (He.free_ok X G (c1.fact 59 (f := .free "isinstance") rfl)),
    (He.free_ok X G (c1.fact 60 (f := .free "int") rfl)),
    (He.free_ok X G (c1.fact 61 (f := .free "bool") rfl)),
    (He.free_ok X G (c1.fact 62 (f := .free "tuple") rfl)),
    (He.free_ok X G (c1.fact 63 (f := .free "len") rfl)),
    (He.free_ok X G (c1.fact 64 (f := .free "all") rfl)),
    (He.free_ok X G (c1.fact 65 (f := .free "any") rfl)),
    (He.free_ok X G (c1.fact 66 (f := .free "range") rfl)),
    (He.free_ok X G (c1.fact 67 (f := .free "abs") rfl)),
    (He.free_ok X G (c1.fact 68 (f := .free "zip") rfl)),
    (He.free_ok X G (c1.fact 69 (f := .free "enumerate") rfl)),
    (He.free_ok X G (c1.fact 70 (f := .free "sorted") rfl)),
    (He.free_ok X G (c1.fact 71 (f := .free "min") rfl)),
    (He.free_ok X G (c1.fact 72 (f := .free "max") rfl)),
    (He.free_ok X G (c1.fact 73 (f := .free "sum") rfl)),
    (He.free_ok X G (c1.fact 74 (f := .free "repr") rfl)),
    (He.int_ok X G (c1.fact 75 (f := .int "MOST_ROUND" 100) rfl)),
    (He.int_ok X G (c1.fact 76 (f := .int "MOST_FIRST" 40) rfl)),
    (He.int_ok X G (c1.fact 77 (f := .int "MOST_NODES_rules" 729) rfl)),
    (He.int_ok X G (c1.fact 78 (f := .int "SIZE" 9) rfl)),
    (He.int_ok X G (c1.fact 79 (f := .int "MOST_WORDS" 729) rfl)),
    (He.int_ok X G (c1.fact 80 (f := .int "MOST_LONG" 9) rfl)),
    (He.int_ok X G (c1.fact 81 (f := .int "MOST_NODES_means" 60) rfl)),
    (He.int_ok X G (c1.fact 82 (f := .int "MOST_HOURS" 4) rfl)),
    (He.cls_ok (c1.fact 83 (f := .cls "Ring") rfl)),
    (He.mkr_ok (c1.fact 84 (f := .mkr "Ring") rfl)),
    (He.noat_ok (c1.fact 85 (f := .noat "Ring" "own_many") rfl)),
    (He.noat_ok (c1.fact 86 (f := .noat "Ring" "own_cells") rfl)),
    (He.cls_ok (c1.fact 87 (f := .cls "Rule") rfl)),
    (He.mkr_ok (c1.fact 88 (f := .mkr "Rule") rfl)),
    (He.noat_ok (c1.fact 89 (f := .noat "Rule" "own_many") rfl)),
    (He.noat_ok (c1.fact 90 (f := .noat "Rule" "own_first") rfl)),
    (He.noat_ok (c1.fact 91 (f := .noat "Rule" "own_table") rfl)),
    (He.noat_ok (c1.fact 92 (f := .noat "Rule" "own_width") rfl)),
    (He.cls_ok (c1.fact 93 (f := .cls "Sums") rfl)),
    (He.mkr_ok (c1.fact 94 (f := .mkr "Sums") rfl)),
    (He.noat_ok (c1.fact 95 (f := .noat "Sums" "s_many") rfl)),
    (He.noat_ok (c1.fact 96 (f := .noat "Sums" "s_size") rfl)),
    (He.noat_ok (c1.fact 97 (f := .noat "Sums" "s_weights") rfl)),
    (He.meth_ok (c1.fact 98 (f := .meth "Ring" "__eq__") rfl)),
    (He.meth_ok (c1.fact 99 (f := .meth "Sums" "ways") rfl)),
    (He.meth_ok (c1.fact 100 (f := .meth "Sums" "greatest_fraction") rfl)),
    (He.meth_ok (c1.fact 101 (f := .meth "Sums" "longer") rfl)),
    (He.meth_ok (c1.fact 102 (f := .meth "Sums" "raised") rfl)),
    (He.meth_ok (c1.fact 103 (f := .meth "Sums" "shortest") rfl)),
    (He.meth_ok (c1.fact 104 (f := .meth "Sums" "least_round") rfl)),
    (isB_ok (He.cls_ok (c1.fact 83 (f := .cls "Ring") rfl)) (is_ _ (List.mem_of_getElem? (i := 0) rfl))),
    (isB_ok (He.cls_ok (c1.fact 87 (f := .cls "Rule") rfl)) (is_ _ (List.mem_of_getElem? (i := 1) rfl))),
    (isB_ok (He.cls_ok (c1.fact 93 (f := .cls "Sums") rfl)) (is_ _ (List.mem_of_getElem? (i := 2) rfl))),
    (PropD.prop (d := pd_Ring_cells) (pr_ _ (pm_ 0 _ rfl))),
    (PropD.funD (d := pd_Ring_cells) (pf_ 0 _ rfl) (pr_ _ (pm_ 0 _ rfl))),
    (PropD.prop (d := pd_Rule_many) (pr_ _ (pm_ 1 _ rfl))),
    (PropD.funD (d := pd_Rule_many) (pf_ 1 _ rfl) (pr_ _ (pm_ 1 _ rfl))),
    (PropD.prop (d := pd_Rule_width) (pr_ _ (pm_ 2 _ rfl))),
    (PropD.funD (d := pd_Rule_width) (pf_ 2 _ rfl) (pr_ _ (pm_ 2 _ rfl))),
    (c1.def_ 0 (d := d_is_number) rfl),
    (c1.def_ 1 (d := d_is_between) rfl),
    (c1.def_ 2 (d := d_is_pair) rfl),
    (c1.def_ 3 (d := d_is_word) rfl),
    (c1.def_ 4 (d := d_need_kinds) rfl),
    (c1.def_ 5 (d := d_number_in) rfl),
    (c1.def_ 6 (d := d_word_of) rfl),
    (c1.def_ 7 (d := d_all_words) rfl),
    (c1.def_ 8 (d := d_power_of) rfl),
    (c1.def_ 9 (d := d_common_divisor) rfl),
    (c1.def_ 10 (d := d_RingQ_initQ) rfl),
    (c1.def_ 11 (d := d_RingQ_eqQ) rfl),
    (c1.def_ 12 (d := d_width_of) rfl),
    (c1.def_ 13 (d := d_RuleQ_initQ) rfl),
    (c1.def_ 14 (d := d_RuleQ_eqQ) rfl),
    (c1.def_ 15 (d := d_need_rule) rfl),
    (c1.def_ 16 (d := d_nodes_of) rfl),
    (c1.def_ 17 (d := d_need_size) rfl),
    (c1.def_ 18 (d := d_told) rfl),
    (c1.def_ 19 (d := d_step_word) rfl),
    (c1.def_ 20 (d := d_ring_step) rfl),
    (c1.def_ 21 (d := d_is_gauge) rfl),
    (c1.def_ 22 (d := d_need_gauge) rfl),
    (c1.def_ 23 (d := d_gauge_led) rfl),
    (c1.def_ 24 (d := d_widened) rfl),
    (c1.def_ 25 (d := d_less) rfl),
    (c1.def_ 26 (d := d_change_gauge) rfl),
    (c1.def_ 27 (d := d_lowest) rfl),
    (c1.def_ 28 (d := d_nodes_in) rfl),
    (c1.def_ 29 (d := d_SumsQ_initQ) rfl),
    (c1.def_ 30 (d := d_Sums_ways) rfl),
    (c1.def_ 31 (d := d_Sums_greatest_fraction) rfl),
    (c1.def_ 32 (d := d_Sums_longer) rfl),
    (c1.def_ 33 (d := d_Sums_raised) rfl),
    (c1.def_ 34 (d := d_Sums_shortest) rfl),
    (c1.def_ 35 (d := d_Sums_least_round) rfl),
    (c1.def_ 36 (d := d_need_few) rfl),
    (c1.def_ 37 (d := d_best_ring) rfl),
    (c1.def_ 38 (d := d_greatest_mean) rfl),
    (c1.def_ 39 (d := d_led_for) rfl),
    (c1.def_ 40 (d := d_greatest_after) rfl),
    (c1.def_ 41 (d := d_gain) rfl),
    (c1.def_ 42 (d := d_law_begun) rfl),
    (c1.def_ 43 (d := d_law_mixed) rfl),
    (c1.def_ 44 (d := d_law_take) rfl),
    (c1.def_ 45 (d := d_law_pick) rfl),
    (c1.def_ 46 (d := d_law_power) rfl),
    (c1.def_ 47 (d := d_law_words) rfl),
    (c1.def_ 48 (d := d_law_number) rfl),
    (c1.def_ 49 (d := d_law_table) rfl),
    (c1.def_ 50 (d := d_law_model) rfl),
    (c1.def_ 51 (d := d_law_known) rfl),
    (c1.def_ 52 (d := d_law_any_model) rfl),
    (c1.def_ 53 (d := d_law_made) rfl),
    (c1.def_ 54 (d := d_law_told) rfl),
    (c1.def_ 55 (d := d_law_step) rfl),
    (c1.def_ 56 (d := d_law_round) rfl),
    (c1.def_ 57 (d := d_law_gauge) rfl),
    (c1.def_ 58 (d := d_law_sum) rfl),
    (c1.def_ 59 (d := d_law_low) rfl),
    (c1.def_ 60 (d := d_law_later) rfl),
    (c1.def_ 61 (d := d_law_extremes) rfl),
    (c1.def_ 62 (d := d_law_after_right) rfl),
    (c1.def_ 63 (d := d_law_led_weights) rfl),
    (c1.def_ 64 (d := d_law_sums) rfl),
    (c1.def_ 65 (d := d_law_far_right) rfl),
    (c1.def_ 66 (d := d_law) rfl)⟩
end WL
namespace WL
open PySem PySem.Spec PyProof.Rows L2
abbrev R : PySem.W.OpenRow := PySem.W.OpenLaw.row PySem.Challenge.rw_weatherline_k42_whole_means_after_hours
theorem run (w : World) : HandSHeadRun.RunEq R (PySem.W.view R.prog [lawAt]) hk ob 6000 looseAll w := by
  intro os
  kernel_rfl
end WL
/-! relations between values in the heap and plain data; a comprehension by its items; defs as data -/
namespace WL
open PySem PySem.Spec PyProof.Rows L2
open C8 (Cal Met Mak pe_c pe_mk pe_mt pe_mt0 pe_gc)
/-! ### relations -/
abbrev Rl (δ : Type) := Hp → V → δ → Prop
def Mono {δ : Type} (r : Rl δ) : Prop := ∀ H H' v d, Same H H' → r H v d → r H' v d
/-- it leans on no list's content -/
def Firm {δ : Type} (r : Rl δ) : Prop := ∀ (H : Hp) (D : Addr) (xs zs : List V) v d, H D = some (.lst xs) → r H v d → r (upd H D (.lst zs)) v d
def RInt : Rl Int := fun _ v i => v = .int i
def RNat : Rl Nat := fun _ v n => v = .int (n : Int)
def RBool : Rl Bool := fun _ v b => v = .bl b
def ROpt {δ : Type} (r : Rl δ) : Rl (Option δ) := fun H v o => match o with
  | none => v = .non
  | some d => r H v d ∧ v ≠ .non
def All2 {α β : Type} (r : α → β → Prop) (xs : List α) (ds : List β) : Prop := xs.length = ds.length ∧ ∀ (i : Nat) x d, xs[i]? = some x → ds[i]? = some d → r x d
def RTup {δ : Type} (r : Rl δ) : Rl (List δ) := fun H v ds => ∃ a xs, v = .ref a ∧ H a = some (.tup xs) ∧ All2 (r H) xs ds
def RLst {δ : Type} (r : Rl δ) : Rl (List δ) := fun H v ds => ∃ a xs, v = .ref a ∧ H a = some (.lst xs) ∧ All2 (r H) xs ds
def RP {α β : Type} (r : Rl α) (s : Rl β) : Rl (α × β) := fun H v d => ∃ a x y, v = .ref a ∧ H a = some (.tup [x, y]) ∧ r H x d.1 ∧ s H y d.2
abbrev RW : Rl (List Nat) := RTup RNat
abbrev RI : Rl (List Int) := RTup RInt
section
variable {α β δ : Type} {r : Rl δ} {H H' : Hp}
theorem All2.nil {r : α → β → Prop} : All2 r [] [] := ⟨rfl, fun i x d h => by simp at h⟩
theorem All2.snoc {r : α → β → Prop} {xs : List α} {ds : List β} {x : α} {d : β} (h : All2 r xs ds) (hx : r x d) : All2 r (xs ++ [x]) (ds ++ [d]) := by
  refine ⟨by rw [List.length_append, List.length_append, h.1] <;> rfl, fun i y e h1 h2 => ?_⟩
  by_cases hi : i < xs.length
  · rw [List.getElem?_append_left hi] at h1
    rw [List.getElem?_append_left (by rw [← h.1]; exact hi)] at h2
    exact h.2 i y e h1 h2
  · have h3 : i - xs.length = 0 := by
      rw [List.getElem?_append_right (by omega)] at h1
      have := (List.getElem?_eq_some_iff.mp h1).1
      simp at this
      omega
    rw [List.getElem?_append_right (by omega), h3] at h1
    rw [List.getElem?_append_right (by rw [← h.1]; omega), ← h.1, h3] at h2
    have e1 : x = y := by simpa using h1
    have e2 : d = e := by simpa using h2
    rw [← e1, ← e2]
    exact hx
theorem All2.cons {r : α → β → Prop} {xs : List α} {ds : List β} {x : α} {d : β} (hx : r x d) (h : All2 r xs ds) : All2 r (x :: xs) (d :: ds) := by
  refine ⟨by rw [List.length_cons, List.length_cons, h.1], fun i y e h1 h2 => ?_⟩
  cases i with
  | zero =>
    have e1 : x = y := by simpa using h1
    have e2 : d = e := by simpa using h2
    rw [← e1, ← e2]
    exact hx
  | succ i => exact h.2 i y e (by simpa using h1) (by simpa using h2)
theorem All2.imp {r s : α → β → Prop} {xs : List α} {ds : List β} (h : All2 r xs ds) (f : ∀ x d, r x d → s x d) : All2 s xs ds := ⟨h.1, fun i x d a b => f x d (h.2 i x d a b)⟩
/-- the i-th datum is held -/
theorem All2.at {r : α → β → Prop} {xs : List α} {ds : List β} (h : All2 r xs ds) {i : Nat} {d : β} (e : ds[i]? = some d) : ∃ x, xs[i]? = some x ∧ r x d := by
  have hi : i < xs.length := by
    rw [h.1]
    exact (List.getElem?_eq_some_iff.mp e).1
  exact ⟨xs[i], List.getElem?_eq_getElem hi, h.2 i _ d (List.getElem?_eq_getElem hi) e⟩
theorem All2.at' {r : α → β → Prop} {xs : List α} {ds : List β} (h : All2 r xs ds) {i : Nat} {x : α} (e : xs[i]? = some x) : ∃ d, ds[i]? = some d ∧ r x d := by
  have hi : i < ds.length := by
    rw [← h.1]
    exact (List.getElem?_eq_some_iff.mp e).1
  exact ⟨ds[i], List.getElem?_eq_getElem hi, h.2 i x _ e (List.getElem?_eq_getElem hi)⟩
theorem All2.set {r : α → β → Prop} {xs : List α} {ds : List β} {x : α} {d : β} (h : All2 r xs ds) (j : Nat) (hx : r x d) : All2 r (xs.set j x) (ds.set j d) := by
  refine ⟨by rw [List.length_set, List.length_set, h.1], fun i y e h1 h2 => ?_⟩
  have h1' := (List.getElem?_eq_some_iff.mp h1).1
  rw [List.length_set] at h1'
  by_cases hj : j = i
  · subst hj
    rw [List.getElem?_set_self h1'] at h1
    rw [List.getElem?_set_self (by rw [← h.1]; exact h1')] at h2
    cases h1
    cases h2
    exact hx
  · rw [List.getElem?_set_ne hj] at h1 h2
    exact h.2 i y e h1 h2
theorem All2.take {r : α → β → Prop} {xs : List α} {ds : List β} (h : All2 r xs ds) (n : Nat) : All2 r (xs.take n) (ds.take n) := by
  refine ⟨by rw [List.length_take, List.length_take, h.1], fun i x d h1 h2 => ?_⟩
  rw [List.getElem?_take] at h1 h2
  by_cases hi : i < n
  · rw [if_pos hi] at h1 h2
    exact h.2 i x d h1 h2
  · rw [if_neg hi] at h1
    cases h1
theorem All2.drop {r : α → β → Prop} {xs : List α} {ds : List β} (h : All2 r xs ds) (n : Nat) : All2 r (xs.drop n) (ds.drop n) := by
  refine ⟨by rw [List.length_drop, List.length_drop, h.1], fun i x d h1 h2 => ?_⟩
  rw [List.getElem?_drop] at h1 h2
  exact h.2 _ x d h1 h2
theorem All2.append {r : α → β → Prop} {xs ys : List α} {ds es : List β} (h : All2 r xs ds) (h' : All2 r ys es) : All2 r (xs ++ ys) (ds ++ es) := by
  refine ⟨by rw [List.length_append, List.length_append, h.1, h'.1], fun i x d h1 h2 => ?_⟩
  rw [List.getElem?_append] at h1 h2
  rw [← h.1] at h2
  split at h1
  · rename_i hi
    rw [if_pos hi] at h2
    exact h.2 i x d h1 h2
  · rename_i hi
    rw [if_neg hi] at h2
    exact h'.2 _ x d h1 h2
theorem All2.reverse {r : α → β → Prop} {xs : List α} {ds : List β} (h : All2 r xs ds) : All2 r xs.reverse ds.reverse := by
  refine ⟨by rw [List.length_reverse, List.length_reverse, h.1], fun i x d h1 h2 => ?_⟩
  have hi := (List.getElem?_eq_some_iff.mp h1).1
  rw [List.length_reverse] at hi
  rw [List.getElem?_reverse hi] at h1
  rw [List.getElem?_reverse (by rw [← h.1]; exact hi), ← h.1] at h2
  exact h.2 _ x d h1 h2
theorem nat_items {xs : List V} {ds : List Nat} (h : All2 (RNat H) xs ds) : xs = ds.map fun (n : Nat) => V.int (n : Int) := by
  refine List.ext_getElem? fun i => ?_
  rw [List.getElem?_map]
  cases e : ds[i]? with
  | none =>
    rw [List.getElem?_eq_none_iff] at e
    rw [List.getElem?_eq_none_iff.mpr (by rw [h.1]; exact e)] <;> rfl
  | some d =>
    obtain ⟨x, hx, rx⟩ := h.at e
    rw [hx, rx] <;> rfl
theorem int_items {xs : List V} {ds : List Int} (h : All2 (RInt H) xs ds) : xs = ds.map V.int := by
  refine List.ext_getElem? fun i => ?_
  rw [List.getElem?_map]
  cases e : ds[i]? with
  | none =>
    rw [List.getElem?_eq_none_iff] at e
    rw [List.getElem?_eq_none_iff.mpr (by rw [h.1]; exact e)] <;> rfl
  | some d =>
    obtain ⟨x, hx, rx⟩ := h.at e
    rw [hx, rx] <;> rfl
theorem bool_items {xs : List V} {ds : List Bool} (h : All2 (RBool H) xs ds) : xs = ds.map V.bl := by
  refine List.ext_getElem? fun i => ?_
  rw [List.getElem?_map]
  cases e : ds[i]? with
  | none =>
    rw [List.getElem?_eq_none_iff] at e
    rw [List.getElem?_eq_none_iff.mpr (by rw [h.1]; exact e)] <;> rfl
  | some d =>
    obtain ⟨x, hx, rx⟩ := h.at e
    rw [hx, rx] <;> rfl
theorem all2_map {γ : Type} {r : α → β → Prop} {f : γ → α} {g : γ → β} (l : List γ) (h : ∀ c ∈ l, r (f c) (g c)) : All2 r (l.map f) (l.map g) := by
  refine ⟨by rw [List.length_map, List.length_map], fun i x d h1 h2 => ?_⟩
  rw [List.getElem?_map] at h1 h2
  cases e : l[i]? with
  | none =>
    rw [e] at h1
    cases h1
  | some c =>
    rw [e] at h1 h2
    cases h1
    cases h2
    exact h c (List.mem_of_getElem? e)
theorem all2_nat (l : List Nat) : All2 (RNat H) (l.map fun (n : Nat) => V.int (n : Int)) l := by
  have h := all2_map (r := RNat H) (f := fun (n : Nat) => V.int (n : Int)) (g := id) l fun _ _ => rfl
  rwa [List.map_id] at h
theorem all2_int (l : List Int) : All2 (RInt H) (l.map V.int) l := by
  have h := all2_map (r := RInt H) (f := V.int) (g := id) l fun _ _ => rfl
  rwa [List.map_id] at h
/-! ### they stay -/
theorem mono_int : Mono RInt := fun _ _ _ _ _ h => h
theorem mono_nat : Mono RNat := fun _ _ _ _ _ h => h
theorem mono_bool : Mono RBool := fun _ _ _ _ _ h => h
theorem mono_opt (h : Mono r) : Mono (ROpt r) := fun H H' v d s x => by
  cases d with
  | none => exact x
  | some d => exact ⟨h H H' v d s x.1, x.2⟩
theorem mono_tup (h : Mono r) : Mono (RTup r) := fun H H' v d s ⟨a, xs, e, ha, l⟩ => ⟨a, xs, e, s _ _ ha, l.imp fun x d => h H H' x d s⟩
theorem mono_lst (h : Mono r) : Mono (RLst r) := fun H H' v d s ⟨a, xs, e, ha, l⟩ => ⟨a, xs, e, s _ _ ha, l.imp fun x d => h H H' x d s⟩
theorem mono_p {r : Rl α} {s : Rl β} (h : Mono r) (k : Mono s) : Mono (RP r s) := fun H H' v d e ⟨a, x, y, ev, ha, h1, h2⟩ => ⟨a, x, y, ev, e _ _ ha, h H H' x _ e h1, k H H' y _ e h2⟩
theorem mono_w : Mono RW := mono_tup mono_nat
theorem mono_i : Mono RI := mono_tup mono_int
theorem firm_int : Firm RInt := fun _ _ _ _ _ _ _ h => h
theorem firm_nat : Firm RNat := fun _ _ _ _ _ _ _ h => h
theorem firm_bool : Firm RBool := fun _ _ _ _ _ _ _ h => h
theorem firm_opt (h : Firm r) : Firm (ROpt r) := fun H D xs zs v d e x => by
  cases d with
  | none => exact x
  | some d => exact ⟨h H D xs zs v d e x.1, x.2⟩
theorem firm_at {D a : Addr} {xs zs ys : List V} (e : H D = some (.lst xs)) (h : H a = some (.tup ys)) : upd H D (.lst zs) a = some (.tup ys) := by
  rw [upd_ne (ne_of h e (by intro z; cases z))]
  exact h
theorem firm_tup (h : Firm r) : Firm (RTup r) := fun H D xs zs v d e ⟨a, ys, ev, ha, l⟩ => ⟨a, ys, ev, firm_at e ha, l.imp fun x d => h H D xs zs x d e⟩
theorem firm_p {r : Rl α} {s : Rl β} (h : Firm r) (k : Firm s) : Firm (RP r s) := fun H D xs zs v d e ⟨a, x, y, ev, ha, h1, h2⟩ => ⟨a, x, y, ev, firm_at e ha, h H D xs zs x _ e h1, k H D xs zs y _ e h2⟩
theorem firm_w : Firm RW := firm_tup firm_nat
theorem firm_i : Firm RI := firm_tup firm_int
end
/-! ### heaps -/
theorem same_upd {H : Hp} {p : Addr} {o : HO} (h : H p = none) : Same H (upd H p o) := fun b x e => by
  rw [upd_ne (ne_of_none e h)]
  exact e
/-- an object unknown to H changes -/
theorem Same.mut {H H' : Hp} {p : Addr} {o : HO} (s : Same H H') (h : H p = none) : Same H (upd H' p o) := fun b x e => by
  rw [upd_ne (ne_of_none e h)]
  exact s b x e
theorem sz {n : Nat} (h : n ≤ 100000) : n ≤ sizeLine := Nat.le_trans h (by decide)
theorem szl {n : Nat} (h : n < 100000) : n < sizeLine := Nat.lt_of_lt_of_le h (by decide)
theorem sqT {K : PySem.W.Frag} {H : Hp} {a : Addr} {xs : List V} (h : H a = some (.tup xs)) : SqT K H a xs := .inl (.inl h)
theorem sqL {K : PySem.W.Frag} {H : Hp} {a : Addr} {xs : List V} (h : H a = some (.lst xs)) : SqL K H a xs := .inl (.inl h)
/-! ### a comprehension by its items -/
theorem lcR {J : It} {n : Nat} {G : Hp → Prop} {Y : Nat → Hp → V → Hp → Prop} (wk : Walk J n G Y) {g : TG} {tt : TT} {te : TE} {vs : List Nat} {σ : L2.St} {H1 : Hp} {β : Type} (R : Rl β) (hR : Mono R) (hF : Firm R) (p : Nat → Bool) (f : Nat → β)
    {D : Addr} {Qd : Hp → Prop} (hD : H1 D = none) (hn : n < 100000) (hG : ∀ H', Same H1 H' → G H')
    (turn : ∀ (i : Nat) (x : V) (H2 H3 : Hp), i < n → Same H1 H2 → Y i H2 x H3 → ∀ (A : V → Hp → Prop) (B : Hp → Prop), (∀ y H6, p i = true → Same H2 H6 → R H6 y (f i) → A y H6) → (∀ H6, p i = false → Same H2 H6 → B H6) →
      g x (wipe σ vs) H3 fun σ2 H4 => wipe σ2 vs = wipe σ vs ∧ tt σ2 H4 fun b H5 => if b = true then te σ2 H5 A else B H5)
    (done : ∀ xs H', Same H1 H' → H' D = some (.lst xs) → All2 (R H') xs (((List.range n).filter p).map f) → Qd H') :
    ∃ W : Nat → Nat → Hp → Prop, (∃ m, W 0 m (upd H1 D (.lst []))) ∧ ∀ i m H, W i m H →
      (J.stop i H ∧ Qd H) ∨ (J.go i H ∧ ∃ Nx : Hp → Prop, (∀ H', Nx H' → ∃ m', m' < m ∧ W (i + 1) m' H') ∧ ∀ x H', J.yld i H x H' → g x (wipe σ vs) H' fun σ2 H2 => wipe σ2 vs = wipe σ vs ∧ tt σ2 H2 fun b H3 =>
        if b = true then te σ2 H3 fun y H4 => ∃ acc, H4 D = some (.lst acc) ∧ acc.length < sizeLine ∧ Nx (upd H4 D (.lst (acc ++ [y]))) else Nx H3) := by
  have lenle : ∀ i : Nat, (((List.range i).filter p).map f).length ≤ i := fun i => by
    rw [List.length_map]
    have h := List.length_filter_le p (List.range i)
    rw [List.length_range] at h
    exact h
  refine lc_it wk (fun i H' => Same H1 H' ∧ ∃ xs, H' D = some (.lst xs) ∧ All2 (R H') xs (((List.range i).filter p).map f)) ⟨same_upd hD, [], upd_same, All2.nil⟩ (fun i H' _ q => hG H' q.1) (fun i x H2 H3 hi q y => ?_) fun H' ⟨s, xs, e, a⟩ => done xs H' s e a
  obtain ⟨s, xs, hd, a⟩ := q
  refine turn i x H2 H3 hi s y _ _ (fun y H6 hp s6 ry => ?_) fun H6 hp s6 => ?_
  · have e6 := s6 _ _ hd
    refine ⟨xs, e6, szl (by have h1 := a.1; have h2 := lenle i; omega), Same.mut (s.trans s6) hD, xs ++ [y], upd_same, ?_⟩
    rw [List.range_succ, List.filter_append, List.map_append, List.filter_cons, if_pos hp]
    refine All2.snoc (a.imp fun x d h => ?_) ?_
    · exact hF H6 D xs _ x d e6 (hR H2 H6 x d s6 h)
    · exact hF H6 D xs _ y _ e6 ry
  · refine ⟨s.trans s6, xs, s6 _ _ hd, ?_⟩
    rw [List.range_succ, List.filter_append, List.map_append, List.filter_cons, if_neg (by rw [hp]; decide)]
    show All2 (R H6) xs (((List.range i).filter p).map f ++ [])
    rw [List.append_nil]
    exact a.imp fun x d h => hR H2 H6 x d s6 h
theorem filter_all (n : Nat) : (List.range n).filter (fun _ => true) = List.range n := List.filter_eq_self.mpr fun _ _ => rfl
/-! ### defs -/
section
variable {P : Program} {w : World} {K : PySem.W.Frag} {mg : Str → Option Value} {base : Heap}
theorem cal_of {d : He.DefD} {N ps : List Str} {k : Nat} {sp : Sp} {x : Str} (F0 : FnE K d) (hm : mg x = some (.ref (He.fAd K d.at_))) (hd : d.dfl = []) (hkw : d.kwd = []) (S : FnScope N ps d.scope)
    (hb : ∀ (kV doc pm : Value) (an : Option Addr) (cdv ct : Value) (us : List Value), us.length = ps.length → bindArgs (PySem.W.fnOf d.name d.qual d.params d.body d.scope .none kV doc pm an cdv ct) ⟨us, []⟩ = pure (ps.zip us))
    (len : ∀ vs H Q E, sp vs H Q E → vs.length = ps.length)
    (hbody : ∀ (cdv : Value) (A : Around) (outer : List Env) (s : Shared) (H : Hp) (vs : List V) (Q : VK) (E : XK), Room k (A.deeper (envOfC d.qual d.scope s.heap.objs.size (He.fAd K d.at_) cdv)) → sp vs H Q E →
      ∃ t, PSs (cxOf CX0 P w K mg base N d.qual d.scope (He.fAd K d.at_) cdv A outer s H E).nox d.body t ∧ t { nx := fun _ H' => Q .non H', rt := Q } (start N vs) H) : Cal P w K mg base (k + 1) x sp [] := by
  obtain ⟨fd, F⟩ := F0
  have e1 : d.dvs K = [] := by unfold He.DefD.dvs; rw [hd]; rfl
  have e2 : d.kws K = [] := by unfold He.DefD.kws; rw [hkw]; rfl
  rw [e1, e2] at F
  refine ⟨_, fd, ps, [], FunD.ok F S len fun cdv A outer s H vs Q E hr h => ?_, hm, F.kp, FunD.bindsN F hb, .nil⟩
  obtain ⟨t, h1, h2⟩ := hbody cdv A outer s H vs Q E hr h
  exact ⟨t, h1.nox, h2⟩
theorem fnok_of {d : He.DefD} {N ps : List Str} {k : Nat} {sp : Sp} (F0 : FnE K d) (hd : d.dfl = []) (hkw : d.kwd = []) (S : FnScope N ps d.scope)
    (hb : ∀ (kV doc pm : Value) (an : Option Addr) (cdv ct : Value) (us : List Value), us.length = ps.length → bindArgs (PySem.W.fnOf d.name d.qual d.params d.body d.scope .none kV doc pm an cdv ct) ⟨us, []⟩ = pure (ps.zip us))
    (len : ∀ vs H Q E, sp vs H Q E → vs.length = ps.length)
    (hbody : ∀ (cdv : Value) (A : Around) (outer : List Env) (s : Shared) (H : Hp) (vs : List V) (Q : VK) (E : XK), Room k (A.deeper (envOfC d.qual d.scope s.heap.objs.size (He.fAd K d.at_) cdv)) → sp vs H Q E →
      ∃ t, PSs (cxOf CX0 P w K mg base N d.qual d.scope (He.fAd K d.at_) cdv A outer s H E).nox d.body t ∧ t { nx := fun _ H' => Q .non H', rt := Q } (start N vs) H) : ∃ fd, FnOk P w K mg base CX0 (k + 1) (He.fAd K d.at_) fd ps sp ∧ Binds K fd ps [] := by
  obtain ⟨fd, F⟩ := F0
  have e1 : d.dvs K = [] := by unfold He.DefD.dvs; rw [hd]; rfl
  have e2 : d.kws K = [] := by unfold He.DefD.kws; rw [hkw]; rfl
  rw [e1, e2] at F
  refine ⟨fd, FunD.ok F S len fun cdv A outer s H vs Q E hr h => ?_, FunD.bindsN F hb⟩
  obtain ⟨t, h1, h2⟩ := hbody cdv A outer s H vs Q E hr h
  exact ⟨t, h1.nox, h2⟩
theorem met_of {d : He.DefD} {ps : List Str} {k : Nat} {sp : Sp} {C : Addr} {m : Str} (h : ∃ fd, FnOk P w K mg base CX0 k (He.fAd K d.at_) fd ps sp ∧ Binds K fd ps []) (c : Cls K C) (hm : Meth K C m (He.fAd K d.at_)) : Met P w K mg base k C m sp [] := by
  obtain ⟨fd, F, b⟩ := h
  exact ⟨_, fd, ps, [], c, hm, F, b, .nil⟩
theorem mak_of {d : He.DefD} {ps : List Str} {k : Nat} {sp : Sp} {C : Addr} {x : Str} (h : ∃ fd, FnOk P w K mg base CX0 k (He.fAd K d.at_) fd ps sp ∧ Binds K fd ps []) (hm : Mk K C (He.fAd K d.at_)) (hg : mg x = some (.ref C)) : Mak P w K mg base k x C sp [] := by
  obtain ⟨fd, F, b⟩ := h
  exact ⟨_, fd, ps, [], hm, F, hg, b, .nil⟩
/-- a def with its data and its promise -/
def FND (P : Program) (w : World) (K : PySem.W.Frag) (mg : Str → Option Value) (base : Heap) (k : Nat) (d : He.DefD) (ps : List Str) (sp : Sp) : Prop := ∃ fd, FunD K d.name d.qual d.params d.body d.scope [] [] (He.fAd K d.at_) fd ∧ FnOk P w K mg base CX0 k (He.fAd K d.at_) fd ps sp
theorem fnd_of {d : He.DefD} {N ps : List Str} {k : Nat} {sp : Sp} (F0 : FnE K d) (hd : d.dfl = []) (hkw : d.kwd = []) (S : FnScope N ps d.scope) (len : ∀ vs H Q E, sp vs H Q E → vs.length = ps.length)
    (hbody : ∀ (cdv : Value) (A : Around) (outer : List Env) (s : Shared) (H : Hp) (vs : List V) (Q : VK) (E : XK), Room k (A.deeper (envOfC d.qual d.scope s.heap.objs.size (He.fAd K d.at_) cdv)) → sp vs H Q E →
      ∃ t, PSs (cxOf CX0 P w K mg base N d.qual d.scope (He.fAd K d.at_) cdv A outer s H E).nox d.body t ∧ t { nx := fun _ H' => Q .non H', rt := Q } (start N vs) H) : FND P w K mg base (k + 1) d ps sp := by
  obtain ⟨fd, F⟩ := F0
  have e1 : d.dvs K = [] := by unfold He.DefD.dvs; rw [hd]; rfl
  have e2 : d.kws K = [] := by unfold He.DefD.kws; rw [hkw]; rfl
  rw [e1, e2] at F
  refine ⟨fd, F, FunD.ok F S len fun cdv A outer s H vs Q E hr h => ?_⟩
  obtain ⟨t, h1, h2⟩ := hbody cdv A outer s H vs Q E hr h
  exact ⟨t, h1.nox, h2⟩
theorem cal_fnd {d : He.DefD} {ps : List Str} {k : Nat} {sp : Sp} {x : Str} (h : FND P w K mg base k d ps sp) (hm : mg x = some (.ref (He.fAd K d.at_)))
    (hb : ∀ (kV doc pm : Value) (an : Option Addr) (cdv ct : Value) (us : List Value), us.length = ps.length → bindArgs (PySem.W.fnOf d.name d.qual d.params d.body d.scope .none kV doc pm an cdv ct) ⟨us, []⟩ = pure (ps.zip us)) : Cal P w K mg base k x sp [] := by
  obtain ⟨fd, F, ok⟩ := h
  exact ⟨_, fd, ps, [], ok, hm, F.kp, FunD.bindsN F hb, .nil⟩
theorem gci {X : Cx} {x : Str} {n : Int} (h : ∃ t, X.mg x = some (.int n t)) : ∃ u, X.mg x = some u ∧ RelV (.int n) u := by
  obtain ⟨t, e⟩ := h
  exact ⟨_, e, t, rfl⟩
end
end WL
/-! rules that the layer lacks: enumerate of a tuple, a call by keywords alone, min of tuples, sum of a tuple, != of tuples with an own ==, repr of nested data; named readings of some built-ins -/
namespace WL
open PySem PySem.Spec PyProof.Rows L2
open C8 (Cal Met Mak pe_c pe_mk pe_mt pe_mt0 pe_gc)
/-! ### enumerate(tuple) -/
theorem meets_enumT (t : Addr) (items : Array Value) (n : Nat) (dct : Option Addr) (sl : Array (Option Value)) :
    Meets (Builtin.«enumerate.__new__» ⟨[.type "enumerate", .ref t], []⟩) (fun _ R s => s.heap.get? t = some { cls := .type "tuple", dict := dct, data := .seq items n, slots := sl } ∧
      R (.ok (.ret (.ref (s.heap.push { cls := .type "tuple_iterator", data := .fields #[.ref t, .int 0 0] }).objs.size)))
        { s with heap := (s.heap.push { cls := .type "tuple_iterator", data := .fields #[.ref t, .int 0 0] }).push { cls := .type "enumerate", data := .fields #[.none, .bool false, .ref s.heap.objs.size, rawInt 0, .none, .none] } }) :=
  .of_wp fun prog w A R s h => by
    obtain ⟨hp, g, d, tk, os⟩ := s
    obtain ⟨hl, h⟩ := h
    have hsub := sub_enumerate
    have hT : Heap.IsTuple (Shared.heap ⟨hp, g, d, tk, os⟩) t items := ⟨_, hl, rfl, n, rfl⟩
    have q1 : ∀ {A' : Around} {E : Value → Shared → Prop} {Q : Value → Shared → Prop}, Q (.ref hp.objs.size) ⟨hp.push { cls := .type "tuple_iterator", data := .fields #[.ref t, .int 0 0] }, g, d, tk, os⟩ →
        wpAny (model prog w) A' (pyIter (.ref t)) Q E ⟨hp, g, d, tk, os⟩ := fun q => wpAny_pyIter_tuple hT q
    wp_walk using AutoSeq1.wpAny_loadPart' hl, q1
    refine wpAny_stack_any fun st => wpAny_pure ?_
    split
    · rename_i c _ _ _ _ _
      cases (c == Value.type "enumerate")
      · wp_walk using AutoSeq1.wpAny_loadPart' hl, q1
        exact ⟨_, rfl, h⟩
      · wp_walk using AutoSeq1.wpAny_loadPart' hl, q1
        exact ⟨_, rfl, h⟩
    · wp_walk using AutoSeq1.wpAny_loadPart' hl, q1
      exact ⟨_, rfl, h⟩
theorem call_enumT {prog : Program} {w : World} {A : Around} {E : Value → Shared → Prop} {s : Shared} {t : Addr} {items : Array Value} {Q : Value → Shared → Prop} (hT : s.heap.IsTuple t items)
    (h : ∀ h', IsEnum h' (s.heap.objs.size + 1) s.heap.objs.size 0 .none → h'.IsTupleIter s.heap.objs.size t 0 → (∀ b o, s.heap.get? b = some o → h'.get? b = some o) → Q (.ref (s.heap.objs.size + 1)) { s with heap := h' }) :
    wpAny (model prog w) A (call (.type "enumerate") [.ref t]) Q E s := by
  obtain ⟨⟨c, dct, dt, sl⟩, hl, hc, n, hd⟩ := hT
  obtain rfl : c = .type "tuple" := hc
  obtain rfl : dt = .seq items n := hd
  refine callType_new F.called_enumerate (by decide) (F.typeCall_enumerate_1 _) (F.newCall_enumerate_1 _) (fun obj => F.args_object_init_2 obj _) F.entry_enumerate_new (meets_enumT t items n dct sl) ⟨hl, ?_⟩
  have hz : (s.heap.push { cls := .type "tuple_iterator", data := .fields #[.ref t, .int 0 0] }).objs.size = s.heap.objs.size + 1 := Heap.size_push ..
  show _ ∧ _
  rw [hz]
  have he : IsEnum ((s.heap.push { cls := .type "tuple_iterator", data := .fields #[.ref t, .int 0 0] }).push
      { cls := .type "enumerate", data := .fields #[.none, .bool false, .ref s.heap.objs.size, rawInt 0, .none, .none] }) (s.heap.objs.size + 1) s.heap.objs.size 0 .none := by
    have q := Heap.get?_push_size (s.heap.push { cls := .type "tuple_iterator", data := .fields #[.ref t, .int 0 0] })
      (o := { cls := .type "enumerate", data := .fields #[.none, .bool false, .ref s.heap.objs.size, rawInt 0, .none, .none] }) rfl
    rw [hz] at q
    exact q
  exact ⟨⟨_, he, rfl⟩, h _ he ⟨_, Heap.get?_push_of_some _ (Heap.get?_push_size _ rfl), rfl, rfl⟩ fun b o x => Heap.get?_push_of_some _ (Heap.get?_push_of_some _ x)⟩
/-- the tuple at a, each item in a new pair -/
def IteT (K : PySem.W.Frag) (a : Addr) : It :=
  ⟨fun i H => ∃ (xs : List V) (x : V), SqT K H a xs ∧ xs[i]? = some x, fun i H v H' => ∃ T x, v = .ref T ∧ H T = none ∧ H' = upd H T (.tup [.int (i : Nat), x]) ∧ ∀ xs, SqT K H a xs → xs[i]? = some x, fun i H => ∃ xs : List V, SqT K H a xs ∧ xs.length = i⟩
theorem turn_enumT {P : Program} {w : World} {K : PySem.W.Frag} {elts : List Expr} {kk : Nat} {tpos : Pos} (a e it : Addr) :
    Turn P w K (.Tuple elts kk tpos) (IteT K a) [e, it] e (fun i h => (∃ old, IsEnum h e it ((i : Nat) : Int) old) ∧ h.IsTupleIter it a i ∧ e ≠ it) where
  mem := by simp
  obj := fun i h st b hb => by
    obtain ⟨⟨old, he⟩, ⟨o, ho, hc, hd⟩, _⟩ := st
    have e' : b = e ∨ b = it := by simpa using hb
    rcases e' with z | z
    · rw [z]
      exact ⟨_, he, fun v q => nomatch q⟩
    · rw [z]
      exact ⟨o, ho, fun v q => by rw [hd] at q; cases q⟩
  keep := fun i h h' st k => let ⟨⟨old, he⟩, hi, hne⟩ := st; ⟨⟨old, k e (by simp) _ he⟩, hi.at fun o q => k it (by simp) o q, hne⟩
  item := by
    intro X hP hw hK hc i pins s σ H E I hf st hg
    subst hP hw hK
    obtain ⟨⟨old, he⟩, hit, hne⟩ := st
    obtain ⟨xs, x, hq, hx⟩ := hg
    obtain ⟨its, rv, p, hz⟩ := I.tuple hq
    obtain ⟨u, hu, ru⟩ := rv.get hx
    have hel : e < s.heap.objs.size := Heap.lt_size he
    have hil : it < s.heap.objs.size := by obtain ⟨_, q, _⟩ := hit; exact Heap.lt_size q
    have hna : a ≠ it := by
      rintro rfl
      obtain ⟨o, ho, hco, _⟩ := hit
      obtain ⟨o2, ho2, hc2, _⟩ := p
      rw [ho] at ho2
      cases ho2
      rw [hco] at hc2
      injection hc2 with z
      exact absurd z (by decide)
    have hea : e ∉ [it, a] := by
      intro z
      have z' : e = it ∨ e = a := by simpa using z
      rcases z' with z | z
      · exact hne z
      · rw [z] at he
        obtain ⟨o2, ho2, hc2, _⟩ := p
        rw [he] at ho2
        cases ho2
        injection hc2 with z2
        exact absurd z2 (by decide)
    have hli : i < its.toArray.size := by
      have := (List.getElem?_eq_some_iff.mp hu).1
      simpa using this
    refine wpAny_pyNext_enum_itemC (c := ((i : Nat) : Int)) (Draws.tuple (A := X.A.in1) (I.ok.hd hc) it a hna its.toArray) he ⟨hit, p⟩ hli hne hea fun x' h' tk hx' ho hit' hT hsz hk => ?_
    have ex : x' = u := by
      have q : its[i]? = some x' := by simpa using hx'
      rw [hu] at q
      exact (Option.some.inj q).symm
    subst ex
    refine ⟨_, rfl, wpAny_letOwnedTupleGo_enum (s := { s with heap := h', toks := tk + 1 }) ho fun h'' he' sb => ?_⟩
    have hT2 : h''.get? s.heap.objs.size = some { cls := .type "tuple", data := .seq #[.int i tk, x'] } := (sb.2 _ (Nat.ne_of_gt hel)).trans hT
    have new : ObjOk X.prog X.w (upd H s.heap.objs.size (.tup [.int (i : Nat), x])) h'' s.heap.objs.size (.tup [.int (i : Nat), x]) :=
      ⟨by show 2 ≤ sizeLine; decide, [.int i tk, x'], .cons ⟨_, rfl⟩ (.cons ru .nil), ⟨_, hT2, rfl, _, rfl⟩⟩
    have I1 : Inv X pins σ (upd H s.heap.objs.size (.tup [.int (i : Nat), x])) { s with heap := h'', toks := tk + 1 } :=
      I.turnedNew (ch := [e, it]) (fun b ob hb q => (sb.2 b (fun z => hb (by simp [z]))).trans (hk b ob (fun z => hb (by simp [z])) (fun z => hb (by simp [z])) q)) hf (Nat.le_refl _) new
    refine ⟨.ref s.heap.objs.size, _, I1, rfl, ⟨_, x, rfl, I.hok.fresh (Nat.le_refl _), rfl, fun ys hy => ?_⟩, ⟨⟨x', ?_⟩, hit'.1.at fun o q => (sb.2 it (Ne.symm hne)).trans q, hne⟩, fun b hb => ?_⟩
    · rw [I.tuple_inj hy hq]
      exact hx
    · have e1 : ((i + 1 : Nat) : Int) = (i : Int) + 1 := by omega
      rw [e1]
      exact he'
    · have hb' : b < s.heap.objs.size := by
        have e' : b = e ∨ b = it := by simpa using hb
        rcases e' with z | z
        · rw [z]; exact hel
        · rw [z]; exact hil
      rw [upd_ne (Nat.ne_of_lt hb')]
      exact (hf b hb).1
  done := by
    intro X hP hw hK hc i pins s σ H E I hf st hg
    subst hP hw hK
    obtain ⟨⟨old, he⟩, hit, hne⟩ := st
    obtain ⟨xs, hq, hx⟩ := hg
    obtain ⟨its, rv, p, hz⟩ := I.tuple hq
    obtain ⟨f0, f1, f2, f3, f4, f5⟩ := hf it (by simp)
    have hna : a ≠ it := by
      rintro rfl
      obtain ⟨o, ho, hco, _⟩ := hit
      obtain ⟨o2, ho2, hc2, _⟩ := p
      rw [ho] at ho2
      cases ho2
      rw [hco] at hc2
      injection hc2 with z
      exact absurd z (by decide)
    have hl := rv.length
    have hn : i = its.toArray.size := by
      rw [List.size_toArray]
      omega
    exact wpAny_pyNext_enum_endD (Draws.tuple (A := X.A.in1) (I.ok.hd hc) it a hna its.toArray) he ⟨by rw [← hn]; exact hit, p⟩ fun h' eb => ⟨rfl, I.turned (t' := s.toks) (fun b o hb q => eb b o hb q) f0 f1 f3 f4 f5⟩
  self := fun A i s Q E st h => let ⟨⟨_, he⟩, _⟩ := st; wpAny_pyIter_enum he h
def iEnumT (K : PySem.W.Frag) (ta : TA) : TI := fun σ H R => ta σ H fun vs H1 => ∃ a xs, vs = [.ref a] ∧ SqT K H1 a xs ∧ R (IteT K a) H1
theorem pi_enumT {X : Cx} {e : Expr} {ta : TA} {p pos tpos : Pos} {elts : List Expr} {kk : Nat} (hg : Gl X "enumerate") (hm : X.mg "enumerate" = none) (ha : PA X [e] ta) (hs : starEach [e] X.env = [(false, eval e X.env)] := by rfl) :
    PI X (.Tuple elts kk tpos) (.Call (.Name "enumerate" p) [e] [] pos) (iEnumT X.K ta) := by
  refine ⟨fun pins s σ H R I h => ?_⟩
  refine Call_ (ld_blt I hg hm boot_enumerate (PyProof.Rows.callWith_type1 (thn (ha.run pos pins s σ H _ I h) fun us s1 ⟨vs, H1, I1, r1, q1⟩ => ?_) hs rfl))
  obtain ⟨a, xs, rfl, hq, q⟩ := q1
  cases r1 with
  | cons r rr =>
    cases rr
    cases r
    obtain ⟨its, rv, p', hz⟩ := I1.tuple hq
    refine call_enumT p' fun h' he hit hk => wpAny_pyIter_enum he ?_
    have I2 : Inv X pins σ H1 { s1 with heap := h' } := I1.kept (t' := s1.toks) hk
    refine ⟨s1.heap.objs.size + 1, [s1.heap.objs.size + 1, s1.heap.objs.size], _, _, H1, rfl, I2, turn_enumT a (s1.heap.objs.size + 1) s1.heap.objs.size, ⟨⟨.none, he⟩, hit, Nat.succ_ne_self _⟩, fun b hb => ?_, q⟩
    have hle : s1.heap.objs.size ≤ b := by
      have e' : b = s1.heap.objs.size + 1 ∨ b = s1.heap.objs.size := by simpa using hb
      rcases e' with z | z
      · rw [z]; exact Nat.le_add_right _ _
      · rw [z]; exact Nat.le_refl _
    exact I1.fpOk hle (I1.hok.fresh hle)
theorem walk_enumT {K : PySem.W.Frag} {a : Addr} {xs : List V} : Walk (IteT K a) xs.length (fun H => SqT K H a xs) (YPair (fun i => some (.int (i : Nat))) (fun i => xs[i]?)) := by
  refine ⟨fun i H hi q => ⟨xs, xs[i], q, List.getElem?_eq_getElem hi⟩, fun H q => ⟨xs, q, rfl⟩, fun i H x H' hi q y => ?_⟩
  obtain ⟨T, z, e1, e2, e3, e4⟩ := y
  exact ⟨T, _, z, e1, e2, e3, rfl, e4 xs q⟩
/-! ### a call by keywords alone -/
def KCal (P : Program) (w : World) (K : PySem.W.Frag) (mg : Str → Option Value) (base : Heap) (k : Nat) (x : Str) (ks : List Str) (gV : List V → List V → List V) (sp : Sp) : Prop :=
  ∃ (f : Addr) (fd : FuncData) (ps : List Str) (g : List Value → List Value → List Value), FnOk P w K mg base CX0 k f fd ps sp ∧ mg x = some (.ref f) ∧ PySem.W.keepIn K (.ref f) = true ∧ KBinds K fd ps ks g gV
def tCallW (sp : Sp) (gV : List V → List V → List V) (tk : TA) : TE := fun σ H Q => tk σ H fun zs H2 => sp (gV [] zs) H2 Q E0
theorem pe_ck {X : Cx} {x : Str} {k j : Nat} {p pos : Pos} {kws : List Keyword} {ks : List Str} {tk : TA} {sp : Sp} {gV : List V → List V → List V} (c : KCal X.prog X.w X.K X.mg X.base k x ks gV sp) (hr : Room j X.A) (hkj : k ≤ j) (hg : Gl X x) (hkw : PK X kws tk)
    (hall : (backToKw pos (keywordEach kws X.env)).all (·.1.isSome) = true := by rfl) (hks : (backToKw pos (keywordEach kws X.env)).filterMap (·.1) = ks := by rfl) (hdb : (x == ("__debug__" : Str)) = false := by decide)
    (hpl : ((backTo pos (starEach [] X.env)).any (·.1) || (backToKw pos (keywordEach kws X.env)).any (·.1.isNone)) = false := by rfl) : PE X (.Call (.Name x p) [] kws pos) (tCallW sp gV tk) := by
  obtain ⟨f, fd, ps, g, F, hm, kp, hb⟩ := c
  refine ⟨fun pins s σ H Q I h => ?_⟩
  refine wpAny_Call_Name_kw (ld_glob I hg hm ?_ hdb)
  refine PySem.W.callWith_KW0 (h₀ := X.base) I.ok.mod.kin kp hall (thn (hkw.run pos pins s σ H _ I h) fun ws s2 ⟨zs, H2, I2, rz, q2⟩ => ⟨I2.kIn, ?_⟩) hpl
  rw [hks]
  exact run_fnk (us := []) (vs := []) F (hr.mono hkj) hb pass0 I2 .nil rz q2
def rev3 {α : Type} : List α → List α → List α
  | [], [a, b, c] => [c, b, a]
  | _, _ => []
def rev2 {α : Type} : List α → List α → List α
  | [], [a, b] => [b, a]
  | _, _ => []
theorem rel3 {vs : List V} {us : List Value} {zs : List V} {ws : List Value} (h1 : Vals vs us) (h2 : Vals zs ws) : Vals (rev3 vs zs) (rev3 us ws) := by
  cases h1 with
  | cons _ _ => exact .nil
  | nil =>
    cases h2 with
    | nil => exact .nil
    | cons a h2 => cases h2 with
      | nil => exact .nil
      | cons b h2 => cases h2 with
        | nil => exact .nil
        | cons c h2 => cases h2 with
          | nil => exact .cons c (.cons b (.cons a .nil))
          | cons _ _ => exact .nil
theorem rel2 {vs : List V} {us : List Value} {zs : List V} {ws : List Value} (h1 : Vals vs us) (h2 : Vals zs ws) : Vals (rev2 vs zs) (rev2 us ws) := by
  cases h1 with
  | cons _ _ => exact .nil
  | nil =>
    cases h2 with
    | nil => exact .nil
    | cons a h2 => cases h2 with
      | nil => exact .nil
      | cons b h2 => cases h2 with
        | nil => exact .cons b (.cons a .nil)
        | cons _ _ => exact .nil
theorem kcal3 {P : Program} {w : World} {K : PySem.W.Frag} {mg : Str → Option Value} {base : Heap} {d : He.DefD} {p1 p2 p3 : Str} {k : Nat} {sp : Sp} {x : Str} (h : FND P w K mg base k d [p1, p2, p3] sp) (hm : mg x = some (.ref (He.fAd K d.at_)))
    (hb : ∀ (kV doc pm : Value) (an : Option Addr) (cdv ct a b c : Value), bindArgs (PySem.W.fnOf d.name d.qual d.params d.body d.scope .none kV doc pm an cdv ct) ⟨[], [(p3, a), (p2, b), (p1, c)]⟩ = pure [(p1, c), (p2, b), (p3, a)]) : KCal P w K mg base k x [p3, p2, p1] rev3 sp := by
  obtain ⟨fd, F, ok⟩ := h
  refine ⟨_, fd, [p1, p2, p3], rev3, ok, hm, F.kp, fun s us ws X hl => ?_, rel3⟩
  obtain ⟨oc, od, dV, kV, doc, pm, an, cdv, ct, osl, rfl, lk, hcd, hD, hK⟩ := F.ex
  rcases hD with ⟨_, rfl⟩ | ⟨e, _⟩
  · match us, ws, hl with
    | [], [a, b, c], _ => exact .of_eq (hb kV doc pm an cdv ct a b c)
  · exact absurd rfl e
theorem kcal2 {P : Program} {w : World} {K : PySem.W.Frag} {mg : Str → Option Value} {base : Heap} {d : He.DefD} {p1 p2 : Str} {k : Nat} {sp : Sp} {x : Str} (h : FND P w K mg base k d [p1, p2] sp) (hm : mg x = some (.ref (He.fAd K d.at_)))
    (hb : ∀ (kV doc pm : Value) (an : Option Addr) (cdv ct a b : Value), bindArgs (PySem.W.fnOf d.name d.qual d.params d.body d.scope .none kV doc pm an cdv ct) ⟨[], [(p2, a), (p1, b)]⟩ = pure [(p1, b), (p2, a)]) : KCal P w K mg base k x [p2, p1] rev2 sp := by
  obtain ⟨fd, F, ok⟩ := h
  refine ⟨_, fd, [p1, p2], rev2, ok, hm, F.kp, fun s us ws X hl => ?_, rel2⟩
  obtain ⟨oc, od, dV, kV, doc, pm, an, cdv, ct, osl, rfl, lk, hcd, hD, hK⟩ := F.ex
  rcases hD with ⟨_, rfl⟩ | ⟨e, _⟩
  · match us, ws, hl with
    | [], [a, b], _ => exact .of_eq (hb kV doc pm an cdv ct a b)
  · exact absurd rfl e
theorem w_callW {sp : Sp} {gV : List V → List V → List V} {tk : TA} {σ : L2.St} {H : Hp} {Q : VK} (k : tk σ H fun zs H2 => sp (gV [] zs) H2 Q C8.E0) : tCallW sp gV tk σ H Q := k
/-! ### sum of a tuple -/
def rSumT (K : PySem.W.Frag) : List V → Hp → VK → Prop := fun vs H Q => ∃ (a : Addr) (ns : List Int), vs = [V.ref a] ∧ SqT K H a (ns.map V.int) ∧ Q (.int ns.sum) H
theorem cr_sumT {X : Cx} (hc : X.calm = true := by rfl) : CallR X (.builtin "sum") (rSumT X.K) := by
  intro pins s σ H vs us Q I r h
  obtain ⟨a, ns, rfl, hs, q⟩ := h
  obtain ⟨its, rv, hl, _⟩ := I.tuple hs
  rw [Vals.ref1 r]
  have hi := rv.ints
  obtain ⟨xs, e⟩ := hi.allInts.items
  have hn : numsOf (intItems xs).toList = ns := by rw [← e]; exact hi.numsOf
  rw [nums_intItems] at hn
  rw [e] at hl
  refine PySem.W.ktm_sumG (I.ok.hd hc) hl fun h' tk t' hk => ⟨.int ns.sum, H, I.kept hk, ⟨t', ?_⟩, q⟩
  rw [preSum_eq, List.take_of_length_le (by simp), hn]
/-! ### min of tuples of whole numbers -/
def rMinT : List V → Hp → VK → Prop := fun vs H Q => ∃ (a : Addr) (xs : List V) (wss : List (List Int)), vs = [V.ref a] ∧ H a = some (.lst xs) ∧ All2 (RI H) xs wss ∧ wss ≠ [] ∧
  ∀ (i : Nat) (x : V) (m : List Int), xs[i]? = some x → wss[i]? = some m → (∀ y ∈ wss, HT.lexLt y m = false) → Q x H
theorem lexLt_irr : ∀ xs : List Int, HT.lexLt xs xs = false
  | [] => rfl
  | x :: xs => by
    rw [HT.lexLt_cons, if_pos rfl]
    exact lexLt_irr xs
theorem lexLt_trans : ∀ {xs ys zs : List Int}, HT.lexLt xs ys = true → HT.lexLt ys zs = true → HT.lexLt xs zs = true
  | [], [], zs, h, _ => by cases h
  | [], y :: ys, [], _, h => by cases h
  | [], y :: ys, z :: zs, _, _ => rfl
  | x :: xs, [], _, h, _ => by cases h
  | x :: xs, y :: ys, [], _, h => by cases h
  | x :: xs, y :: ys, z :: zs, h1, h2 => by
    rw [HT.lexLt_cons] at h1 h2 ⊢
    by_cases e1 : x = y
    · subst e1
      rw [if_pos rfl] at h1
      by_cases e2 : x = z
      · subst e2
        rw [if_pos rfl] at h2 ⊢
        exact lexLt_trans h1 h2
      · rw [if_neg e2] at h2 ⊢
        exact h2
    · rw [if_neg e1] at h1
      have l1 := of_decide_eq_true h1
      by_cases e2 : y = z
      · subst e2
        rw [if_neg e1]
        exact h1
      · rw [if_neg e2] at h2
        have l2 := of_decide_eq_true h2
        rw [if_neg (by omega)]
        exact decide_eq_true (by omega)
theorem best_least (wss : List (List Int)) : ∀ k j, j ≤ k → HT.lexLt (wss.getD j []) (wss.getD (argBest (fun i j => HT.lexLt (wss.getD i []) (wss.getD j [])) k) []) = false
  | 0, j, h => by
    obtain rfl : j = 0 := by omega
    exact lexLt_irr _
  | k + 1, j, h => by
    have ih := best_least wss k
    unfold argBest
    cases hb : HT.lexLt (wss.getD (k + 1) []) (wss.getD (argBest (fun i j => HT.lexLt (wss.getD i []) (wss.getD j [])) k) []) with
    | true =>
      rw [if_pos rfl]
      by_cases e : j = k + 1
      · rw [e]
        exact lexLt_irr _
      · cases hc : HT.lexLt (wss.getD j []) (wss.getD (k + 1) []) with
        | false => rfl
        | true =>
          have q := lexLt_trans hc hb
          rw [ih j (by omega)] at q
          cases q
    | false =>
      rw [if_neg Bool.false_ne_true]
      by_cases e : j = k + 1
      · rw [e]
        exact hb
      · exact ih j (by omega)
theorem best_le (bt : Nat → Nat → Bool) : ∀ k, argBest bt k ≤ k
  | 0 => Nat.le_refl _
  | k + 1 => by
    unfold argBest
    split
    · exact Nat.le_refl _
    · exact Nat.le_succ_of_le (best_le bt k)
theorem cr_minT {X : Cx} {n : Nat} (hr : Room n X.A) (hc : X.calm = true) : CallR X (.builtin "min") rMinT := by
  intro pins s σ H vs us Q I r h
  obtain ⟨a, xs, wss, rfl, ha, al, hne, q⟩ := h
  obtain ⟨its, rv, hl, _⟩ := I.list (sqL ha)
  rw [Vals.ref1 r]
  have hlen := rv.length
  have hpos : 0 < wss.length := List.length_pos_iff.mpr hne
  refine call_min_walkH (PySem.W.iter_listW (A := X.A.in1) (I.ok.hd hc) hl.isList fun s₂ e W st hfp hw hk => ?_)
  have cmp : CmpIn X.prog X.w X.A.in1 .Lt s.heap (fun i v => its.toArray[i]? = some v) (fun i j => HT.lexLt (wss.getD i []) (wss.getD j [])) := fun i j vi vj s' Q' E' hk' hi hj hq => by
    have item : ∀ (i : Nat) v, its.toArray[i]? = some v → ∃ (t : Addr) (zs : List Value), v = .ref t ∧ IsTup s'.heap t zs.toArray ∧ PyProof.Rows.IntsAre zs (wss.getD i []) := fun i v hv => by
      have hv' : its[i]? = some v := by simpa using hv
      have hi' : i < xs.length := by
        rw [hlen]
        exact (List.getElem?_eq_some_iff.mp hv').1
      obtain ⟨u, hu, ru⟩ := rv.get (List.getElem?_eq_getElem hi')
      rw [hv'] at hu
      obtain rfl : v = u := Option.some.inj hu
      obtain ⟨d, hd, t, zs, ev, ht, al2⟩ := al.at' (List.getElem?_eq_getElem hi')
      rw [ev] at ru
      obtain rfl : v = Value.ref t := ru
      obtain ⟨its2, rv2, p2, _⟩ := I.tuple (sqT ht)
      rw [int_items al2] at rv2
      have e0 : wss.getD i [] = d := by rw [List.getD_eq_getElem?_getD, hd] <;> rfl
      obtain ⟨o2, ho2, hc2, n2, hd2⟩ := p2
      refine ⟨t, its2, rfl, ⟨o2, hk' _ _ ho2, hc2, n2, hd2⟩, ?_⟩
      rw [e0]
      exact rv2.ints
    obtain ⟨t1, z1, rfl, p1, i1⟩ := item i vi hi
    obtain ⟨t2, z2, rfl, p2, i2⟩ := item j vj hj
    exact HT.lt_tupInts p1 p2 i1 i2 (by have := hr.units; show X.A.units + 1 < _; omega) hq
  refine ⟨_, _, _, _, _, _, _, s.heap, _, rfl, W, st, hfp, ?_, hw, hk, cmp, fun v s' hP m => ?_⟩
  · show 0 < its.toArray.size
    rw [List.size_toArray, ← hlen, al.1]
    exact hpos
  obtain ⟨h', tk, rfl, hk'⟩ := PySem.W.moved_old e rfl m
  have hsz : its.toArray.size = wss.length := by rw [List.size_toArray, ← hlen, al.1]
  rw [hsz] at hP
  have hb := best_le (fun i j => HT.lexLt (wss.getD i []) (wss.getD j [])) (wss.length - 1)
  have hleast := best_least wss (wss.length - 1)
  generalize argBest (fun i j => HT.lexLt (wss.getD i []) (wss.getD j [])) (wss.length - 1) = b at hP hb hleast
  have hv' : its[b]? = some v := by simpa using hP
  have hb' : b < xs.length := by rw [al.1]; omega
  obtain ⟨u, hu, ru⟩ := rv.get (List.getElem?_eq_getElem hb')
  rw [hv'] at hu
  obtain rfl : v = u := Option.some.inj hu
  have hbw : b < wss.length := by omega
  refine ⟨xs[b], H, I.kept hk', ru, q b _ wss[b] (List.getElem?_eq_getElem hb') (List.getElem?_eq_getElem hbw) fun y hy => ?_⟩
  obtain ⟨j, hj, ej⟩ := List.mem_iff_getElem.mp hy
  have q2 := hleast j (by omega)
  rw [List.getD_eq_getElem?_getD, List.getD_eq_getElem?_getD, List.getElem?_eq_getElem hj, List.getElem?_eq_getElem hbw] at q2
  rw [← ej]
  exact q2
/-! ### != of tuples, item by item equal -/
section
open PySem.SeqAt GQ AutoSeq1 MeetsSeq MeetsSeq2 MeetsSeq3 SeqRoads2
variable {prog : Program} {w : World} {A : Around}
theorem tuple_neG {R : Result → Shared → Prop} (l b : Addr) (items items2 : Array Value) (n n2 : Nat) (dd dd2 : Option Addr) (sl sl2 : Array (Option Value)) (hsz : items.size = items2.size) (I : Nat → Shared → Prop)
    (turn : ∀ i (h1 : i < items.size) (h2 : i < items2.size) s, I i s → wpAny (model prog w) A.in1 (eqBool items[i] items2[i]) (fun r s' => r = true ∧ I (i + 1) s') (fun e s' => R (.error e) s') s)
    (fin : ∀ s, I items.size s → R (.ok (.ret (.bool false))) s) {s : Shared} (hl1 : s.heap.get? l = some { cls := .type "tuple", dict := dd, data := .seq items n, slots := sl }) (hb1 : s.heap.get? b = some { cls := .type "tuple", dict := dd2, data := .seq items2 n2, slots := sl2 }) (h : I 0 s) :
    wpAny (model prog w) A.in1 (Builtin.«tuple.__ne__» ⟨[.ref l, .ref b], []⟩) (FinOf prog w A R) (fun e s' => R (.error e) s') s := by
  have f2 := AutoSeq1.sub_tuple_tuple
  have hZ : (items.toList.zip items2.toList).length = items.size := by simp [hsz]
  have h0 := h
  obtain ⟨hp, g, d, tk, os⟩ := s
  wp_walk using wpAny_loadPart' hl1, wpAny_loadPart' hb1, wpAny_forIn_list _ (fun rest b s' => b.1 = none ∧ ∃ i, rest = (items.toList.zip items2.toList).drop i ∧ i ≤ items.size ∧ I i s') _
  case turn =>
    rintro ⟨y, x⟩ rest b s' ⟨hb', i, hz, hi, hI⟩
    have hlt : i < (items.toList.zip items2.toList).length := by
      rcases Nat.lt_or_ge i (items.toList.zip items2.toList).length with h' | h'
      · exact h'
      · rw [List.drop_of_length_le h'] at hz
        cases hz
    have h1 : i < items.size := hZ ▸ hlt
    have h2 : i < items2.size := hsz ▸ h1
    rw [List.drop_eq_getElem_cons hlt] at hz
    injection hz with hyx hrest
    have hy : y = items[i] := by simpa using congrArg Prod.fst hyx
    have hx : x = items2[i] := by simpa using congrArg Prod.snd hyx
    subst hy hx
    refine wpAny_bind (wpAny_mono (turn i h1 h2 s' hI) (fun r s2 q2 => ?_) fun _ _ x => x)
    obtain ⟨hr, q2⟩ := q2
    subst hr
    wp_walk
    exact ⟨rfl, i + 1, hrest, h1, q2⟩
  case fin =>
    rintro ⟨b1, b2⟩ s' ⟨hb', i, hz, hi, hI⟩
    simp only at hb'
    subst hb'
    have hge : items.size ≤ i := by
      rcases Nat.lt_or_ge i (items.toList.zip items2.toList).length with h' | h'
      · rw [List.drop_eq_getElem_cons h'] at hz
        cases hz
      · exact hZ ▸ h'
    have hi' : i = items.size := by omega
    have hR : R (.ok (.ret (.bool false))) s' := fin s' (hi' ▸ hI)
    wp_walk
    simpa [Builtin.Tuple.tupleCompareSizes, hsz] using hR
  case h => exact ⟨rfl, 0, rfl, Nat.zero_le _, h0⟩
theorem ne_tupG {E : Value → Shared → Prop} {s : Shared} {l b : Addr} {items items2 : Array Value} {Q : Value → Shared → Prop} (hsz : items.size = items2.size) (hu : A.units < cLine) (I : Nat → Shared → Prop)
    (hl : s.heap.IsTuple l items) (hb : s.heap.IsTuple b items2)
    (turn : ∀ i (h1 : i < items.size) (h2 : i < items2.size) s, I i s → wpAny (model prog w) A.in1 (eqBool items[i] items2[i]) (fun r s' => r = true ∧ I (i + 1) s') E s)
    (fin : ∀ s, I items.size s → Q (.bool false) s) (h : I 0 s) : wpAny (model prog w) A (richCompare .NotEq (.ref l) (.ref b)) Q E s := by
  obtain ⟨⟨cls, dd, data, sl⟩, ho, hc, n, hd⟩ := id hl
  obtain ⟨⟨cls2, dd2, data2, sl2⟩, ho2, hc2, n2, hd2⟩ := id hb
  simp only at hc hd hc2 hd2
  subst hc hd hc2 hd2
  refine wpAny_richCompare_same_room (op := .NotEq) ⟨_, ho, rfl⟩ ⟨_, ho2, rfl⟩ F.slot_tuple_ne (call_here F.slot_tuple_ne ⟨_, ho, rfl⟩ F.entry_tuple_ne (F.args_tuple_ne_2 _ _) ?_) hu
  exact tuple_neG (R := wants (fun v s' => v ≠ .notImplemented ∧ Q v s') E) l b items items2 n n2 dd dd2 sl sl2 hsz I turn (fun s' q => ⟨(fun x => nomatch x), fin s' q⟩) ho ho2 h
end
/-- x != y of tuples whose items are seen to be equal: False -/
def rNeG (D : Eqv) : R2 := fun x y H Q => D x y H ∧ ∀ H', Ext H H' → Q (.bl false) H'
theorem op_neG {X : Cx} {n : Nat} {D : Eqv} (hD : Mon D) (h : EqG X n D) (hr : Room (n + 1) X.A) : OpR X (compareOp .NotEq) (rNeG (DTup X.K D)) := by
  intro pins s σ H x y v u Q I rx ry hq
  obtain ⟨⟨a, b, xs, ys, rfl, rfl, ha, hb, p⟩, q⟩ := hq
  cases rx
  cases ry
  obtain ⟨its, r, e, z⟩ := I.tuple ha
  obtain ⟨its2, r2, e2, z2⟩ := I.tuple hb
  have hsz : its.toArray.size = its2.toArray.size := by rw [List.size_toArray, List.size_toArray, ← r.length, ← r2.length]; exact p.1
  show wpAny (model X.prog X.w) X.A (richCompare .NotEq (.ref a) (.ref b)) (EP X pins σ Q) X.xe s
  refine ne_tupG hsz hr.units0 (fun _ s' => LoopI X pins σ H s') e e2 (fun i h1 h2 s' q => turnG hD h ⟨hr, rfl⟩ p r r2 i h1 h2 s' q) (fun s' w => ?_) ⟨H, I, Ext.rfl'⟩
  obtain ⟨H', I', ex⟩ := w
  exact ⟨.bl false, H', I', rfl, q H' ex⟩
/-! ### repr of nested data -/
def rRepr (K : PySem.W.Frag) : List V → Hp → VK → Prop := fun vs H Q => ∃ (a : Addr) (ds : List PyData), vs = [V.ref a] ∧ Dp K H (.ref a) (.list ds) ∧ (PyData.list ds).showable = true ∧ (PyData.list ds).hasDict = false ∧ (PyData.list ds).depth ≤ 60 ∧ (PyData.list ds).shown.length ≤ sizeLine ∧ Q (.str (PyData.list ds).shown) H
theorem cr_reprG {X : Cx} {n : Nat} (hr : Room n X.A) (hg : X.A.guards = some []) : CallR X (.builtin "repr") (rRepr X.K) := by
  intro pins s σ H vs us Q I r h
  obtain ⟨a, ds, rfl, hd, hs, hnd, hdep, hsz, q⟩ := h
  rw [Vals.ref1 r]
  obtain ⟨as, rd⟩ := Dp.reads I _ _ _ hd rfl
  exact repr_of_reads' rd hs (PyData.noDict_hsm hnd) hg (by have := hr.units; omega) (fun _ _ e => e) (fun h' u tk hk => ⟨.str _, H, I.kept hk, ⟨u, rfl⟩, q⟩) hsz
end WL
/-! readings step by step: one lemma a form; named readings of built-ins -/
namespace WL
open PySem PySem.Spec PyProof.Rows L2
open C8 (Cal Met Mak pe_c pe_mk pe_mt pe_mt0 pe_gc)
section
variable {X : Cx}
def rLen (K : PySem.W.Frag) : List V → Hp → VK → Prop := fun xs H Q => ∃ p ys, xs = [.ref p] ∧ (SqL K H p ys ∨ SqT K H p ys) ∧ Q (.int ys.length) H
theorem cl_len : CallR X (.builtin "len") (rLen X.K) := call_len_seq
def rTupOf (K : PySem.W.Frag) : List V → Hp → VK → Prop := fun xs H Q => ∃ p ys, xs = [.ref p] ∧ ((SqL K H p ys ∧ ∀ l, H l = none → Q (.ref l) (upd H l (.tup ys))) ∨ (SqT K H p ys ∧ Q (.ref p) H))
theorem cl_tuple : CallR X (.type "tuple") (rTupOf X.K) := call_tuple_of
def rAbs : List V → Hp → VK → Prop := fun xs H Q => ∃ i, xs = [.int i] ∧ Q (.int (if i < 0 then -i else i)) H
theorem cl_abs : CallR X (.builtin "abs") rAbs := call_abs
def rInt1 : List V → Hp → VK → Prop := fun xs H Q => (∃ i, xs = [.int i] ∧ Q (.int i) H) ∨ ∃ k, xs = [.bl k] ∧ Q (.int (if k then 1 else 0)) H
theorem cl_int : CallR X (.type "int") rInt1 := call_int1
def rMax2 : List V → Hp → VK → Prop := fun xs H Q => ∃ i j, xs = [.int i, .int j] ∧ Q (.int (if j > i then j else i)) H
theorem cl_max2 (hc : X.calm = true) : CallR X (.builtin "max") rMax2 := call_max2 hc
def rMin2 : List V → Hp → VK → Prop := fun xs H Q => ∃ i j, xs = [.int i, .int j] ∧ Q (.int (if j < i then j else i)) H
theorem cl_min2 (hc : X.calm = true) : CallR X (.builtin "min") rMin2 := call_min2 hc
def rIsN : R2 := fun x y H Q => y = .non ∧ Q (.bl (decide (x = .non))) H
def rNotN : R2 := fun x y H Q => y = .non ∧ Q (.bl (!decide (x = .non))) H
theorem ol_isN : OpR X (compareOp .Is) rIsN := op_isN
theorem ol_notN : OpR X (compareOp .IsNot) rNotN := op_notN
end
def isBl (Q : Bool → Hp → Prop) : VK := fun x H' => ∃ k, x = .bl k ∧ Q k H'
def newT (xs : List V) (H : Hp) (Q : VK) : Prop := xs.length ≤ sizeLine ∧ ∀ p, H p = none → Q (.ref p) (upd H p (.tup xs))
def newL (xs : List V) (H : Hp) (Q : VK) : Prop := xs.length ≤ sizeLine ∧ ∀ p, H p = none → Q (.ref p) (upd H p (.lst xs))
theorem szn {n : Nat} (h : Nat.ble n 100000 = true) : n ≤ sizeLine := sz (Nat.le_of_ble_eq_true h)
section
variable {σ : L2.St} {H : Hp} {Q : VK} {ta tb tc te : TE} {v x y : V} {r r' : R2} {g : Int → Int → V} {i j : Int} {D : Ends} {t u : TS} {tt uu : TT} {QB : Bool → Hp → Prop} {tr : TA} {QA : List V → Hp → Prop} {K : PySem.W.Frag} {n : Nat} {QS : L2.St → Hp → Prop}
theorem w_var (h : σ[n]? = some (some v)) (k : Q v H) : tVar n σ H Q := ⟨v, h, k⟩
theorem w_c (k : Q v H) : tC v σ H Q := k
theorem w_op (k : ta σ H fun x H1 => tb σ H1 fun y H2 => r x y H2 Q) : tOp r ta tb σ H Q := k
theorem w_un {ru : V → Hp → VK → Prop} (k : ta σ H fun x H1 => ru x H1 Q) : tUn ru ta σ H Q := k
theorem w_I0 (k : Q (g i j) H) : rI0 g (.int i) (.int j) H Q := ⟨i, j, rfl, rfl, k⟩
theorem w_I {C : Int → Int → Prop} (c : C i j) (k : Q (g i j) H) : rI C g (.int i) (.int j) H Q := ⟨i, j, rfl, rfl, c, k⟩
theorem w_U {gu : Int → V} (k : Q (gu i) H) : rU gu (.int i) H Q := ⟨i, rfl, k⟩
theorem w_isN (k : Q (.bl (decide (x = .non))) H) : rIsN x .non H Q := ⟨rfl, k⟩
theorem w_notN (k : Q (.bl (!decide (x = .non))) H) : rNotN x .non H Q := ⟨rfl, k⟩
theorem w_eq (k : Q (.bl (decide (i = j))) H) : rEq (.int i) (.int j) H Q := ⟨rfl, by
  rw [dec_int, Bool.beq_eq_decide_eq]
  exact k⟩
theorem w_ne (k : Q (.bl (!decide (i = j))) H) : rNe (.int i) (.int j) H Q := ⟨rfl, by
  rw [dec_int, Bool.beq_eq_decide_eq]
  exact k⟩
theorem w_test (k : te σ H (isBl QB)) : tTest te σ H QB := k
theorem w_tB (k : te σ H (isBl QB)) : tB te σ H QB := k
theorem w_isBl {b : Bool} (k : QB b H) : isBl QB (.bl b) H := ⟨b, rfl, k⟩
theorem w_and (k : tt σ H fun c H1 => if c = true then uu σ H1 QB else QB false H1) : tAnd tt uu σ H QB := k
theorem w_or (k : tt σ H fun c H1 => if c = true then QB true H1 else uu σ H1 QB) : tOr tt uu σ H QB := k
theorem w_not (k : tt σ H fun c H1 => QB (!c) H1) : tNot tt σ H QB := k
theorem w_andV (k : ta σ H (isBl fun c H1 => if c = true then tb σ H1 Q else Q (.bl false) H1)) : tAndV ta tb σ H Q := k
theorem w_orV (k : ta σ H (isBl fun c H1 => if c = true then Q (.bl true) H1 else tb σ H1 Q)) : tOrV ta tb σ H Q := k
theorem w_notV (k : ta σ H (isBl fun c H1 => Q (.bl (!c)) H1)) : tNotV ta σ H Q := k
theorem w_if (k : tt σ H fun b H1 => if b = true then t D σ H1 else u D σ H1) : tIfS tt t u D σ H := k
theorem w_ifx (k : tt σ H fun c H1 => if c = true then ta σ H1 Q else tb σ H1 Q) : tIf tt ta tb σ H Q := k
theorem w_asg {gg : TG} (k : te σ H fun x H1 => gg x σ H1 D.nx) : tAsg te gg D σ H := k
theorem w_gname (k : QS (σ.set n (some v)) H) : gName n v σ H QS := k
theorem w_seq (k : t { D with nx := u D } σ H) : tSeq t u D σ H := k
theorem w_ret (k : te σ H D.rt) : tRet te D σ H := k
theorem w_drop (k : te σ H fun _ H1 => D.nx σ H1) : tDrop te D σ H := k
theorem w_next (k : D.nx σ H) : tNext D σ H := k
theorem w_nil (k : QA [] H) : tNil σ H QA := k
theorem w_cons (k : ta σ H fun x H1 => tr σ H1 fun xs H2 => QA (x :: xs) H2) : tCons ta tr σ H QA := k
theorem w_call {sp : Sp} {E : XK} (k : tr σ H fun vs H1 => sp (vs ++ []) H1 Q E) : tCall sp [] E tr σ H Q := k
theorem w_cb {rr : List V → Hp → VK → Prop} (k : tr σ H fun vs H1 => rr vs H1 Q) : tCB rr tr σ H Q := k
theorem w_tup (k : tr σ H fun xs H1 => newT xs H1 Q) : tTup tr σ H Q := k
theorem w_lst (k : tr σ H fun xs H1 => newL xs H1 Q) : tLst tr σ H Q := k
def parAt (a b : Nat) (D : Ends) (σ : L2.St) (vs : List V) (H1 : Hp) : Prop := ∃ v w, vs = [v, w] ∧ D.nx ((σ.set a (some v)).set b (some w)) H1
theorem w_par {a b : Nat} (k : tr σ H fun vs H1 => parAt a b D σ vs H1) : tPar a b tr D σ H := k
theorem w_parAt {a b : Nat} (k : D.nx ((σ.set a (some x)).set b (some y)) H) : parAt a b D σ [x, y] H := ⟨x, y, rfl, k⟩
def whB (Pv : Nat → L2.St → Hp → Prop) (m : Nat) (tb : TS) (D : Ends) (σ : L2.St) (H1 : Hp) : Prop := ∃ N : L2.St → Hp → Prop, (∀ σ' H', N σ' H' → ∃ m', m' < m ∧ Pv m' σ' H') ∧ tb { D with nx := N, ct := N, bk := D.nx } σ H1
theorem w_whB {Pv : Nat → L2.St → Hp → Prop} {m : Nat} {tb : TS} (k : tb { D with nx := fun σ' H' => ∃ m', m' < m ∧ Pv m' σ' H', ct := fun σ' H' => ∃ m', m' < m ∧ Pv m' σ' H', bk := D.nx } σ H) : whB Pv m tb D σ H := ⟨_, fun _ _ h => h, k⟩
theorem w_while {c : TT} {tb : TS} (Pv : Nat → L2.St → Hp → Prop) (h0 : ∃ m, Pv m σ H) (hs : ∀ m σ H, Pv m σ H → c σ H fun b H1 => if b = true then whB Pv m tb D σ H1 else D.nx σ H1) : tWhile c tb D σ H := ⟨Pv, h0, hs⟩
theorem abs_nat (i : Int) : (if i < 0 then -i else i) = (i.natAbs : Int) := by split <;> omega
theorem w_chain (k : ta σ H fun x H1 => tb σ H1 fun y H2 => r x y H2 (isBl fun c H3 => if c = true then tc σ H3 fun w' H4 => r' y w' H4 Q else Q (.bl false) H3)) : tChain r r' ta tb tc σ H Q := k
theorem w_sl {rs : V → Option Int → Option Int → Hp → VK → Prop} {tl th : TO} (k : te σ H fun x H1 => tl σ H1 fun l H2 => th σ H2 fun u H3 => rs x l u H3 Q) : tSl rs te tl th σ H Q := k
def partAt (QO : Option Int → Hp → Prop) (x : V) (H : Hp) : Prop := ∃ i, x = .int i ∧ QO (some i) H
theorem w_part {QO : Option Int → Hp → Prop} (k : te σ H fun x H1 => partAt QO x H1) : tPart te σ H QO := k
theorem w_noPart {QO : Option Int → Hp → Prop} (k : QO none H) : tNoPart σ H QO := k
theorem w_partI {QO : Option Int → Hp → Prop} (k : QO (some i) H) : partAt QO (.int i) H := ⟨i, rfl, k⟩
theorem w_yes (k : QB true H) : tYes σ H QB := k
theorem w_abs (k : Q (.int (if i < 0 then -i else i)) H) : rAbs [.int i] H Q := ⟨i, rfl, k⟩
theorem w_int (k : Q (.int i) H) : rInt1 [.int i] H Q := .inl ⟨i, rfl, k⟩
theorem w_max2 (k : Q (.int (if j > i then j else i)) H) : rMax2 [.int i, .int j] H Q := ⟨i, j, rfl, k⟩
theorem w_min2 (k : Q (.int (if j < i then j else i)) H) : rMin2 [.int i, .int j] H Q := ⟨i, j, rfl, k⟩
/-! ### with what the heap holds -/
def LcW (J : It) (g : TG) (tt : TT) (te : TE) (vs : List Nat) (σ : L2.St) (H1 : Hp) (Q : VK) : Prop := ∀ D, H1 D = none → ∃ W : Nat → Nat → Hp → Prop, (∃ m, W 0 m (upd H1 D (.lst []))) ∧ ∀ i m H, W i m H →
  (J.stop i H ∧ Q (.ref D) H) ∨ (J.go i H ∧ ∃ Nx : Hp → Prop, (∀ H', Nx H' → ∃ m', m' < m ∧ W (i + 1) m' H') ∧ ∀ x H', J.yld i H x H' → g x (wipe σ vs) H' fun σ2 H2 => wipe σ2 vs = wipe σ vs ∧ tt σ2 H2 fun b H3 =>
    if b = true then te σ2 H3 fun y H4 => ∃ acc, H4 D = some (.lst acc) ∧ acc.length < sizeLine ∧ Nx (upd H4 D (.lst (acc ++ [y]))) else Nx H3)
def ForW (J : It) (g : TG) (tb : TS) (D : Ends) (σ : L2.St) (H1 : Hp) : Prop := ∃ W : Nat → Nat → L2.St → Hp → Prop, (∃ m, W 0 m σ H1) ∧ ∀ i m σ H, W i m σ H →
  (J.stop i H ∧ D.nx σ H) ∨ (J.go i H ∧ ∃ N : L2.St → Hp → Prop, (∀ σ' H', N σ' H' → ∃ m', m' < m ∧ W (i + 1) m' σ' H') ∧ ∀ x H', J.yld i H x H' → g x σ H' fun σ2 H2 => tb { D with nx := N, ct := N, bk := D.nx } σ2 H2)
theorem w_lc {wi : TI} {gg : TG} {vs : List Nat} (k : wi σ H fun J H1 => LcW J gg tt te vs σ H1 Q) : tLc wi gg tt te vs σ H Q := k
theorem w_for {wi : TI} {gg : TG} {tb : TS} (k : wi σ H fun J H1 => ForW J gg tb D σ H1) : tFor wi gg tb D σ H := k
def iTupAt (K : PySem.W.Frag) (x : V) (H1 : Hp) (R : It → Hp → Prop) : Prop := ∃ a, x = .ref a ∧ (∃ xs, SqT K H1 a xs) ∧ R (Itt K a) H1
def iLstAt (K : PySem.W.Frag) (x : V) (H1 : Hp) (R : It → Hp → Prop) : Prop := ∃ a, x = .ref a ∧ (∃ xs, SqL K H1 a xs) ∧ R (Itl K a) H1
def rngAt (vs : List V) (H1 : Hp) (R : It → Hp → Prop) : Prop := ∃ j : Int, vs = [.int j] ∧ -(2 ^ 62) ≤ j ∧ j < 2 ^ 62 ∧ R (Itr 0 j.toNat) H1
def rng2At (vs : List V) (H1 : Hp) (R : It → Hp → Prop) : Prop := ∃ i j : Int, vs = [.int i, .int j] ∧ (-(2 ^ 62) ≤ i ∧ i < 2 ^ 62 ∧ -(2 ^ 62) ≤ j ∧ j < 2 ^ 62) ∧ R (Itr i (j - i).toNat) H1
theorem w_iTup {R : It → Hp → Prop} (k : te σ H fun x H1 => iTupAt K x H1 R) : iTup K te σ H R := k
theorem w_iLst {R : It → Hp → Prop} (k : te σ H fun x H1 => iLstAt K x H1 R) : iList K te σ H R := k
theorem w_rng1 {R : It → Hp → Prop} (k : tr σ H fun vs H1 => rngAt vs H1 R) : iRng1 tr σ H R := k
theorem w_rng2 {R : It → Hp → Prop} (k : tr σ H fun vs H1 => rng2At vs H1 R) : iRng2 tr σ H R := k
theorem w_iTupAt {R : It → Hp → Prop} {a : Addr} {xs : List V} (h : H a = some (.tup xs)) (k : R (Itt K a) H) : iTupAt K (.ref a) H R := ⟨a, rfl, ⟨xs, sqT h⟩, k⟩
theorem w_iLstAt {R : It → Hp → Prop} {a : Addr} {xs : List V} (h : H a = some (.lst xs)) (k : R (Itl K a) H) : iLstAt K (.ref a) H R := ⟨a, rfl, ⟨xs, sqL h⟩, k⟩
theorem w_rngAt {R : It → Hp → Prop} (n : Nat) (e : j = n) (h : n < 100000) (k : R (Itr 0 n) H) : rngAt [.int j] H R := by
  subst e
  exact ⟨_, rfl, by omega, by omega, k⟩
theorem w_rng2At {R : It → Hp → Prop} (lo n : Nat) (e : i = lo) (e2 : j = lo + n) (h : lo + n < 100000) (k : R (Itr lo n) H) : rng2At [.int i, .int j] H R := by
  subst e e2
  refine ⟨_, _, rfl, by omega, ?_⟩
  have e : ((lo : Int) + (n : Int) - (lo : Int)).toNat = n := by omega
  rw [e]
  exact k
theorem w_lenT {a : Addr} {xs : List V} (h : H a = some (.tup xs)) (k : Q (.int xs.length) H) : rLen K [.ref a] H Q := ⟨a, xs, rfl, .inr (sqT h), k⟩
theorem w_lenL {a : Addr} {xs : List V} (h : H a = some (.lst xs)) (k : Q (.int xs.length) H) : rLen K [.ref a] H Q := ⟨a, xs, rfl, .inl (sqL h), k⟩
theorem w_tupL {a : Addr} {xs : List V} (h : H a = some (.lst xs)) (k : ∀ l H', Same H H' → H' l = some (.tup xs) → Q (.ref l) H') : rTupOf K [.ref a] H Q := ⟨a, xs, rfl, .inl ⟨sqL h, fun l hl => k l _ (same_upd hl) upd_same⟩⟩
theorem w_ixT {a : Addr} {xs : List V} (m : Nat) (e0 : i = m) (h : H a = some (.tup xs)) (e : xs[m]? = some v) (k : Q v H) : rIxT K (.ref a) (.int i) H Q := by
  subst e0
  exact ⟨a, xs, _, v, rfl, rfl, sqT h, atI_nat e, k⟩
theorem w_ixL {a : Addr} {xs : List V} (m : Nat) (e0 : i = m) (h : H a = some (.lst xs)) (e : xs[m]? = some v) (k : Q v H) : rIxL K (.ref a) (.int i) H Q := by
  subst e0
  exact ⟨a, xs, _, v, rfl, rfl, sqL h, atI_nat e, k⟩
theorem w_setL {a : Addr} {xs : List V} {QH : Hp → Prop} (m : Nat) (e0 : i = m) (h : H a = some (.lst xs)) (hm : m < xs.length) (k : QH (upd H a (.lst (xs.set m v)))) : rSetL (.ref a) (.int i) v H QH := by
  subst e0
  refine ⟨a, xs, _, m, rfl, rfl, h, ?_, k⟩
  unfold ixN
  rw [if_pos (by omega), if_pos (by omega)] <;> simp
theorem w_gsub {to ti : TE} {ts : TSet} (k : to σ H fun o H1 => ti σ H1 fun i H2 => ts o i v H2 fun H3 => QS σ H3) : gSub to ti ts v σ H QS := k
theorem w_newT {xs : List V} (h : Nat.ble xs.length 100000 = true) (k : ∀ p H', Same H H' → H' p = some (.tup xs) → Q (.ref p) H') : newT xs H Q := ⟨szn h, fun p hp => k p _ (same_upd hp) upd_same⟩
theorem w_newL {xs : List V} (h : Nat.ble xs.length 100000 = true) (k : ∀ p H', H p = none → Same H H' → H' p = some (.lst xs) → Q (.ref p) H') : newL xs H Q := ⟨szn h, fun p hp => k p _ hp (same_upd hp) upd_same⟩
theorem w_app {a : Addr} {xs : List V} (h : H a = some (.lst xs)) (hl : xs.length < 100000) (k : Q .non (upd H a (.lst (xs ++ [v])))) : rAppend (.ref a) [v] H Q := ⟨a, xs, v, rfl, rfl, h, szl hl, k⟩
theorem w_bmL {rr : V → List V → Hp → VK → Prop} {a : Addr} {xs : List V} (hv : σ[n]? = some (some (.ref a))) (h : H a = some (.lst xs)) (k : tr σ H fun vs H2 => rr (.ref a) vs H2 Q) : tBM K "list" rr (tVar n) tr σ H Q := ⟨.ref a, hv, .inl ⟨rfl, xs, sqL h⟩, k⟩
theorem w_cat {a b : Addr} {xs zs : List V} (h : H a = some (.lst xs)) (h2 : H b = some (.lst zs)) (hz : xs.length + zs.length ≤ 100000) (k : ∀ p H', H p = none → Same H H' → H' p = some (.lst (xs ++ zs)) → Q (.ref p) H') : rCat (.ref a) (.ref b) H Q := ⟨a, b, xs, zs, rfl, rfl, h, h2, sz hz, fun p hp => k p _ hp (same_upd hp) upd_same⟩
theorem w_rep {a : Addr} {xs : List V} (m : Nat) (e : j = m) (h : H a = some (.lst xs)) (hm : m < 100000) (hz : xs.length * m ≤ 100000) (k : ∀ p H', H p = none → Same H H' → H' p = some (.lst (List.replicate m xs).flatten) → Q (.ref p) H') : rRep (.ref a) (.int j) H Q := by
  subst e
  refine ⟨a, _, xs, rfl, rfl, h, by omega, by omega, sz (by simpa using hz), fun p hp => ?_⟩
  exact k p _ hp (same_upd hp) (by rw [upd_same]; simp)
theorem w_repT {a : Addr} {xs : List V} (m : Nat) (e : j = m) (h : H a = some (.tup xs)) (h0 : xs ≠ []) (h2 : 2 ≤ m) (hm : m ≤ 1000) (hx : xs.length ≤ 1000) (k : ∀ p H', Same H H' → H' p = some (.tup (List.replicate m xs).flatten) → Q (.ref p) H') : rRepT K (.ref a) (.int j) H Q := by
  subst e
  exact ⟨a, _, xs, rfl, rfl, sqT h, h0, by omega, by omega, hx, fun p hp => k p _ (same_upd hp) (by rw [upd_same]; simp)⟩
theorem w_catA {a b : Addr} {xs ys : List V} (h : H a = some (.tup xs)) (h2 : H b = some (.tup ys)) (hz : xs.length + ys.length ≤ 100000) (k : ∀ p H', Same H H' → H' p = some (.tup (xs ++ ys)) → Q (.ref p) H') : rCatA K (.ref a) (.ref b) H Q := by
  refine ⟨a, b, xs, ys, rfl, rfl, sqT h, sqT h2, sz hz, fun e => ?_, fun _ e => ?_, fun _ _ p hp => k p _ (same_upd hp) upd_same⟩
  · subst e
    exact k b H (fun _ _ h => h) h2
  · subst e
    rw [List.append_nil] at k
    exact k a H (fun _ _ h => h) h
theorem cutV_nn (xs : List V) (l u : Nat) : cutV xs (some (l : Int)) (some (u : Int)) = (xs.drop l).take (u - l) := by
  unfold cutV
  rw [HT.sIx_nat, HT.sIx_nat]
  have d : xs.drop (min l xs.length) = xs.drop l := by
    by_cases h : l ≤ xs.length
    · rw [Nat.min_eq_left h]
    · rw [Nat.min_eq_right (by omega), List.drop_of_length_le (Nat.le_refl _), List.drop_of_length_le (by omega)]
  rw [d, List.take_eq_take_iff, List.length_drop]
  omega
/-- a part of a tuple, both ends told -/
theorem w_slA {a : Addr} {xs : List V} (l u : Nat) (e1 : i = l) (e2 : j = u) (h : H a = some (.tup xs)) (k : ∀ p H', Same H H' → H' p = some (.tup ((xs.drop l).take (u - l))) → Q (.ref p) H') : rSlA K (.ref a) (some i) (some j) H Q := by
  subst e1 e2
  have e := cutV_nn xs l u
  refine ⟨a, xs, rfl, sqT h, fun w => ?_, fun _ p hp => k p _ (same_upd hp) (by rw [upd_same, e])⟩
  refine k a H (fun _ _ h => h) ?_
  rw [← e]
  unfold cutV
  rw [w.1, w.2]
  simpa using h
/-- a part of a tuple to a told end -/
theorem w_slTo {a : Addr} {xs : List V} (u : Nat) (e2 : j = u) (h : H a = some (.tup xs)) (k : ∀ p H', Same H H' → H' p = some (.tup (xs.take u)) → Q (.ref p) H') : rSlA K (.ref a) none (some j) H Q := by
  subst e2
  have e : cutV xs none (some (u : Int)) = xs.take u := cutV_nn xs 0 u
  refine ⟨a, xs, rfl, sqT h, fun w => ?_, fun _ p hp => k p _ (same_upd hp) (by rw [upd_same, e])⟩
  refine k a H (fun _ _ h => h) ?_
  rw [← e]
  unfold cutV
  rw [w.1, w.2]
  simpa using h
/-- a part of a tuple from a told begin -/
theorem w_slFrom {a : Addr} {xs : List V} (l : Nat) (e1 : i = l) (h : H a = some (.tup xs)) (k : ∀ p H', Same H H' → H' p = some (.tup (xs.drop l)) → Q (.ref p) H') : rSlA K (.ref a) (some i) none H Q := by
  subst e1
  have e : cutV xs (some (l : Int)) none = xs.drop l := by
    have e := cutV_nn xs l xs.length
    rw [List.take_of_length_le (by rw [List.length_drop]; omega)] at e
    rw [← e]
    unfold cutV
    rw [HT.sIx_nat xs.length xs.length xs.length, Nat.min_self, HT.sIx_none]
  refine ⟨a, xs, rfl, sqT h, fun w => ?_, fun _ p hp => k p _ (same_upd hp) (by rw [upd_same, e])⟩
  refine k a H (fun _ _ h => h) ?_
  rw [← e]
  unfold cutV
  rw [w.1, w.2]
  simpa using h
theorem w_revL {a : Addr} {xs : List V} (h : H a = some (.lst xs)) (hv : σ[n]? = some (some (.ref a))) (k : ∀ p H', Same H H' → H' p = some (.lst xs.reverse) → Q (.ref p) H') : tRevL K (tVar n) σ H Q := ⟨.ref a, hv, a, xs, rfl, sqL h, fun p hp => k p _ (same_upd hp) upd_same⟩
/-! ### isinstance -/
theorem w_isiI (k : Q (.bl true) H) : rIsi K [.int i, .ty "int"] H Q := ⟨_, _, .type "int", .type "int", true, rfl, .ty _, .base (.int i), rfl, k⟩
theorem w_isiB (k : Q (.bl false) H) : rIsi K [.int i, .ty "bool"] H Q := ⟨_, _, .type "int", .type "bool", false, rfl, .ty _, .base (.int i), rfl, k⟩
theorem w_isiT {a : Addr} {xs : List V} (h : H a = some (.tup xs)) (k : Q (.bl true) H) : rIsi K [.ref a, .ty "tuple"] H Q := ⟨_, _, .type "tuple", .type "tuple", true, rfl, .ty _, .base (.tup h), rfl, k⟩
theorem w_isiC {a C dx : Addr} {fs : List (Str × V)} (h : H a = some (.ins C dx fs)) (c : IsC K C) (k : Q (.bl true) H) : rIsi K [.ref a, .ref C] H Q := ⟨_, _, .ref C, .ref C, true, rfl, .own _, .base (.ins h c.cl c.ha c.hn c.htk c.hm), if_pos (beq_self_eq_true _), k⟩
/-! ### fields -/
def fldAt (K : PySem.W.Frag) (f : Str) (x : V) (H1 : Hp) (Q : VK) : Prop := ∃ a C dx fs v, x = .ref a ∧ H1 a = some (.ins C dx fs) ∧ Cls K C ∧ NoAttr K C f ∧ fs.lookup f = some v ∧ Q v H1
theorem w_fld {f : Str} (k : te σ H fun x H1 => fldAt K f x H1 Q) : tFld K te f σ H Q := k
theorem w_fldAt {f : Str} {a C dx : Addr} {fs : List (Str × V)} (h : H a = some (.ins C dx fs)) (c : Cls K C) (hn : NoAttr K C f) (l : fs.lookup f = some v) (k : Q v H) : fldAt K f (.ref a) H Q := ⟨a, C, dx, fs, v, rfl, h, c, hn, l, k⟩
def sFldAt (K : PySem.W.Frag) (f : Str) (y x : V) (H2 : Hp) (Q : Hp → Prop) : Prop := ∃ a C dx fs, x = .ref a ∧ H2 a = some (.ins C dx fs) ∧ Cls K C ∧ NoAttr K C f ∧ fs.length < 1000 ∧ Q (upd H2 a (.ins C dx (putF f y fs)))
theorem w_sfld {tv : TE} {f : Str} (k : tv σ H fun y H1 => te σ H1 fun x H2 => sFldAt K f y x H2 (D.nx σ)) : sFld K te tv f D σ H := k
theorem w_sfldAt {f : Str} {a C dx : Addr} {fs : List (Str × V)} {QH : Hp → Prop} (h : H a = some (.ins C dx fs)) (c : Cls K C) (hn : NoAttr K C f) (l : fs.length < 1000) (k : QH (upd H a (.ins C dx (putF f y fs)))) : sFldAt K f y (.ref a) H QH := ⟨a, C, dx, fs, rfl, h, c, hn, l, k⟩
def propAt (C : Addr) (f : Str) (x : V) (H1 : Hp) (Q : VK) : Prop := ∃ a dx fs, x = .ref a ∧ H1 a = some (.ins C dx fs) ∧ getSp C f [.ref a] H1 Q C8.E0
theorem w_prop {C : Addr} {f : Str} (k : te σ H fun x H1 => propAt C f x H1 Q) : tProp C (getSp C f) [] C8.E0 te σ H Q := k
theorem w_propAt {C : Addr} {f : Str} {a dx : Addr} {fs : List (Str × V)} (h : H a = some (.ins C dx fs)) (l : fs.lookup f = some v) (k : Q v H) : propAt C f (.ref a) H Q := ⟨a, dx, fs, rfl, h, a, dx, fs, v, rfl, h, l, k⟩
theorem w_gtup {m : Nat} {gs : TGs} {a : Addr} {xs : List V} (h : H a = some (.tup xs)) (e : xs.length = m) (k : gs xs σ H QS) : gTup K m gs (.ref a) σ H QS := ⟨a, xs, rfl, sqT h, e, k⟩
theorem w_gcons {gg : TG} {gs : TGs} {xs : List V} (k : gg x σ H fun σ' H' => gs xs σ' H' QS) : gCons gg gs (x :: xs) σ H QS := ⟨x, xs, rfl, k⟩
theorem w_gnil (k : QS σ H) : gNil [] σ H QS := ⟨rfl, k⟩
def methAt (C : Addr) (m : Str) (sp : Sp) (tr : TA) (σ : L2.St) (x : V) (H1 : Hp) (Q : VK) : Prop := ∃ a dx fs, x = .ref a ∧ H1 a = some (.ins C dx fs) ∧ fs.lookup m = none ∧ tr σ H1 fun vs H2 => sp (x :: (vs ++ [])) H2 Q C8.E0
theorem w_meth {C : Addr} {m : Str} {sp : Sp} (k : te σ H fun x H1 => methAt C m sp tr σ x H1 Q) : tMeth C m sp [] C8.E0 te tr σ H Q := k
theorem w_methAt {C : Addr} {m : Str} {sp : Sp} {a dx : Addr} {fs : List (Str × V)} (h : H a = some (.ins C dx fs)) (l : fs.lookup m = none) (k : tr σ H fun vs H2 => sp (.ref a :: (vs ++ [])) H2 Q C8.E0) : methAt C m sp tr σ (.ref a) H Q := ⟨a, dx, fs, rfl, h, l, k⟩
def mkAt (C : Addr) (sp : Sp) (vs : List V) (H1 : Hp) (Q : VK) : Prop := ∀ x dx, H1 x = none → H1 dx = none → dx ≠ x → sp (.ref x :: (vs ++ [])) (upd (upd H1 dx (.own x)) x (.ins C dx [])) (fun v H2 => v = .non ∧ Q (.ref x) H2) C8.E0
theorem w_make {C : Addr} {sp : Sp} (k : tr σ H fun vs H1 => mkAt C sp vs H1 Q) : tMake C sp [] C8.E0 tr σ H Q := k
def enumAt (K : PySem.W.Frag) (vs : List V) (H1 : Hp) (R : It → Hp → Prop) : Prop := ∃ a xs, vs = [.ref a] ∧ SqL K H1 a xs ∧ R (Ite K a) H1
def enumTAt (K : PySem.W.Frag) (vs : List V) (H1 : Hp) (R : It → Hp → Prop) : Prop := ∃ a xs, vs = [.ref a] ∧ SqT K H1 a xs ∧ R (IteT K a) H1
theorem w_enum {R : It → Hp → Prop} (k : tr σ H fun vs H1 => enumAt K vs H1 R) : iEnum K tr σ H R := k
theorem w_enumT {R : It → Hp → Prop} (k : tr σ H fun vs H1 => enumTAt K vs H1 R) : iEnumT K tr σ H R := k
theorem w_enumAt {R : It → Hp → Prop} {a : Addr} {xs : List V} (h : H a = some (.lst xs)) (k : R (Ite K a) H) : enumAt K [.ref a] H R := ⟨a, xs, rfl, sqL h, k⟩
theorem w_enumTAt {R : It → Hp → Prop} {a : Addr} {xs : List V} (h : H a = some (.tup xs)) (k : R (IteT K a) H) : enumTAt K [.ref a] H R := ⟨a, xs, rfl, sqT h, k⟩
/-! ### comprehensions -/
section
variable {gg : TG} {vs : List Nat} {δ : Type} {R : Rl δ} {H1 : Hp}
theorem lc_rng {nn : Nat} (R : Rl δ) (hR : Mono R) (hF : Firm R) (f : Nat → δ) (hn : nn < 100000) (hw : ∀ x, wipe ((wipe σ vs).set n (some x)) vs = wipe σ vs)
    (turn : ∀ (i : Nat) (H2 : Hp), i < nn → Same H1 H2 → ∀ A : VK, (∀ y H6, Same H2 H6 → R H6 y (f i) → A y H6) → te ((wipe σ vs).set n (some (.int (i : Nat)))) H2 A)
    (done : ∀ a xs H', H1 a = none → Same H1 H' → H' a = some (.lst xs) → All2 (R H') xs ((List.range nn).map f) → Q (.ref a) H') : LcW (Itr 0 nn) (gName n) tYes te vs σ H1 Q := fun D hD =>
  lcR walk_range R hR hF (fun _ => true) f hD hn (fun _ _ => trivial) (fun i x H2 H3 hi s y A B hA _ => by
    obtain ⟨e1, e2⟩ := y
    have e3 : x = V.int (i : Nat) := by
      rw [e2]
      show V.int (0 + (i : Int)) = _
      rw [Int.zero_add]
    subst e1 e3
    exact ⟨hw _, turn i H3 hi s A fun y H6 s6 r => hA y H6 rfl s6 r⟩) fun xs H' s hd al => done D xs H' hD s hd (by rw [filter_all] at al; exact al)
theorem lc_tup {a : Addr} {xs : List V} (R : Rl δ) (hR : Mono R) (hF : Firm R) (f : Nat → δ) (ha : H1 a = some (.tup xs)) (hn : xs.length < 100000) (hw : ∀ x, wipe ((wipe σ vs).set n (some x)) vs = wipe σ vs)
    (turn : ∀ (i : Nat) (x : V) (H2 : Hp), i < xs.length → xs[i]? = some x → Same H1 H2 → ∀ A : VK, (∀ y H6, Same H2 H6 → R H6 y (f i) → A y H6) → te ((wipe σ vs).set n (some x)) H2 A)
    (done : ∀ a ys H', H1 a = none → Same H1 H' → H' a = some (.lst ys) → All2 (R H') ys ((List.range xs.length).map f) → Q (.ref a) H') : LcW (Itt K a) (gName n) tYes te vs σ H1 Q := fun D hD =>
  lcR (walk_tup (K := K) (a := a) (xs := xs)) R hR hF (fun _ => true) f hD hn (fun H' s => sqT (s _ _ ha)) (fun i x H2 H3 hi s y A B hA _ => by
    obtain ⟨rfl, hx⟩ := y
    exact ⟨hw _, turn i x H3 hi hx s A fun y H6 s6 r => hA y H6 rfl s6 r⟩) fun xs H' s hd al => done D xs H' hD s hd (by rw [filter_all] at al; exact al)
theorem lc_lst {a : Addr} {xs : List V} (R : Rl δ) (hR : Mono R) (hF : Firm R) (f : Nat → δ) (ha : H1 a = some (.lst xs)) (hn : xs.length < 100000) (hw : ∀ x, wipe ((wipe σ vs).set n (some x)) vs = wipe σ vs)
    (turn : ∀ (i : Nat) (x : V) (H2 : Hp), i < xs.length → xs[i]? = some x → Same H1 H2 → ∀ A : VK, (∀ y H6, Same H2 H6 → R H6 y (f i) → A y H6) → te ((wipe σ vs).set n (some x)) H2 A)
    (done : ∀ a ys H', H1 a = none → Same H1 H' → H' a = some (.lst ys) → All2 (R H') ys ((List.range xs.length).map f) → Q (.ref a) H') : LcW (Itl K a) (gName n) tYes te vs σ H1 Q := fun D hD =>
  lcR (walk_list (K := K) (a := a) (xs := xs)) R hR hF (fun _ => true) f hD hn (fun H' s => sqL (s _ _ ha)) (fun i x H2 H3 hi s y A B hA _ => by
    obtain ⟨rfl, hx⟩ := y
    exact ⟨hw _, turn i x H3 hi hx s A fun y H6 s6 r => hA y H6 rfl s6 r⟩) fun xs H' s hd al => done D xs H' hD s hd (by rw [filter_all] at al; exact al)
end
theorem w_iteT' {p q : Prop} (k : p) : if true = true then p else q := k
theorem walk_zipT {K : PySem.W.Frag} {a b : Addr} {xs ys : List V} (hl : xs.length = ys.length) : Walk (RZ.ItzT K a b) xs.length (fun H => SqT K H a xs ∧ SqT K H b ys) (YPair (fun i => xs[i]?) (fun i => ys[i]?)) := by
  refine ⟨fun i H hi q => ⟨xs, ys, xs[i], ys[i]'(hl ▸ hi), q.1, q.2, List.getElem?_eq_getElem hi, List.getElem?_eq_getElem (hl ▸ hi)⟩, fun H q => ⟨xs, ys, q.1, q.2, .inl (Nat.le_refl _)⟩, fun i H v H' hi q y => ?_⟩
  obtain ⟨T, x, z, h1, h2, h3, h4, h5⟩ := y
  exact ⟨T, x, z, h1, h2, h3, h4 xs q.1, h5 ys q.2⟩
def zipAt (K : PySem.W.Frag) (vs : List V) (H1 : Hp) (R : It → Hp → Prop) : Prop := ∃ a b xs ys, vs = [.ref a, .ref b] ∧ ((SqL K H1 a xs ∧ SqL K H1 b ys ∧ R (Itz K a b) H1) ∨ (SqT K H1 a xs ∧ SqT K H1 b ys ∧ R (RZ.ItzT K a b) H1))
theorem w_zip {K : PySem.W.Frag} {tr : TA} {σ : L2.St} {H : Hp} {R : It → Hp → Prop} (k : tr σ H fun vs H1 => zipAt K vs H1 R) : RZ.iZipA K tr σ H R := k
theorem w_zipT {K : PySem.W.Frag} {a b : Addr} {xs ys : List V} {H : Hp} {R : It → Hp → Prop} (ha : H a = some (.tup xs)) (hb : H b = some (.tup ys)) (k : R (RZ.ItzT K a b) H) : zipAt K [.ref a, .ref b] H R := ⟨a, b, xs, ys, rfl, .inr ⟨sqT ha, sqT hb, k⟩⟩
theorem lc_zip {n n2 : Nat} {te : TE} {σ : L2.St} {Q : VK} {K : PySem.W.Frag} {vs : List Nat} {δ : Type} {H1 : Hp} {a b : Addr} {xs ys : List V} (R : Rl δ) (hR : Mono R) (hF : Firm R) (f : Nat → δ) (ha : H1 a = some (.tup xs)) (hb : H1 b = some (.tup ys)) (hl : xs.length = ys.length) (hn : xs.length < 100000)
    (hw : ∀ x y, wipe (((wipe σ vs).set n (some x)).set n2 (some y)) vs = wipe σ vs)
    (turn : ∀ (i : Nat) (x y : V) (H2 : Hp), i < xs.length → xs[i]? = some x → ys[i]? = some y → Same H1 H2 → ∀ A : VK, (∀ y H6, Same H2 H6 → R H6 y (f i) → A y H6) → te (((wipe σ vs).set n (some x)).set n2 (some y)) H2 A)
    (done : ∀ a ys H', H1 a = none → Same H1 H' → H' a = some (.lst ys) → All2 (R H') ys ((List.range xs.length).map f) → Q (.ref a) H') : LcW (RZ.ItzT K a b) (gTup K 2 (gCons (gName n) (gCons (gName n2) gNil))) tYes te vs σ H1 Q := fun D hD =>
  lcR (walk_zipT (K := K) (a := a) (b := b) hl) R hR hF (fun _ => true) f hD hn (fun H' s => ⟨sqT (s _ _ ha), sqT (s _ _ hb)⟩) (fun i v H2 H3 hi s y A B hA _ => by
    obtain ⟨T, x, z, rfl, hT, rfl, hx, hz⟩ := y
    refine w_gtup upd_same rfl (w_gcons (w_gname (w_gcons (w_gname (w_gnil ?_)))))
    exact ⟨hw _ _, w_yes (w_iteT' (turn i x z _ hi hx hz (s.trans (same_upd hT)) A fun y H6 s6 r => hA y H6 rfl ((same_upd hT).trans s6) r))⟩) fun xs H' s hd al => done D xs H' hD s hd (by rw [filter_all] at al; exact al)
def LcW2 (J : It) (g : TG) (tt : TT) (wi1 : TI) (g1 : TG) (tt1 : TT) (te : TE) (vs vs1 : List Nat) (σ : L2.St) (H1 : Hp) (Q : VK) : Prop := tLc2 (fun _ _ S => S J H1) g tt wi1 g1 tt1 te vs vs1 σ H1 Q
theorem w_lc2 {σ : L2.St} {H : Hp} {Q : VK} {tt tt1 : TT} {te : TE} {wi wi1 : TI} {gg g1 : TG} {vs vs1 : List Nat} (k : wi σ H fun J H1 => LcW2 J gg tt wi1 g1 tt1 te vs vs1 σ H1 Q) : tLc2 wi gg tt wi1 g1 tt1 te vs vs1 σ H Q := k
theorem lc2_tr {n n1 m : Nat} {te : TE} {σ : L2.St} {Q : VK} {K : PySem.W.Frag} {vs vs1 : List Nat} {δ : Type} {H1 : Hp} {wi1 : TI} {a : Addr} {xs : List V} (R : Rl δ) (hR : Mono R) (hF : Firm R) (f : Nat → Nat → δ) (ha : H1 a = some (.tup xs)) (hn : xs.length * m < 100000)
    (hw : ∀ x, wipe ((wipe σ vs).set n (some x)) vs = wipe σ vs) (hw1 : ∀ x y, wipe ((wipe ((wipe σ vs).set n (some x)) vs1).set n1 (some y)) vs1 = wipe ((wipe σ vs).set n (some x)) vs1)
    (inner : ∀ (i : Nat) (x : V) (H2 : Hp), xs[i]? = some x → Same H1 H2 → ∀ S : It → Hp → Prop, S (Itr 0 m) H2 → wi1 ((wipe σ vs).set n (some x)) H2 S)
    (turn : ∀ (i j : Nat) (x : V) (H2 : Hp), xs[i]? = some x → j < m → Same H1 H2 → ∀ A : VK, (∀ y H6, Same H2 H6 → R H6 y (f i j) → A y H6) → te ((wipe ((wipe σ vs).set n (some x)) vs1).set n1 (some (.int (j : Nat)))) H2 A)
    (done : ∀ a ys H', H1 a = none → Same H1 H' → H' a = some (.lst ys) → All2 (R H') ys ((List.range xs.length).flatMap fun i => (List.range m).map (f i)) → Q (.ref a) H') :
    LcW2 (Itt K a) (gName n) tYes wi1 (gName n1) tYes te vs vs1 σ H1 Q := by
  intro D hD
  have app : ∀ (H2 H6 : Hp) (zs : List V) (ds : List δ) (y : V) (d : δ), Same H1 H2 → H2 D = some (.lst zs) → All2 (R H2) zs ds → Same H2 H6 → R H6 y d →
      Same H1 (upd H6 D (.lst (zs ++ [y]))) ∧ All2 (R (upd H6 D (.lst (zs ++ [y])))) (zs ++ [y]) (ds ++ [d]) := fun H2 H6 zs ds y d s e al s6 r => by
    have e6 := s6 _ _ e
    exact ⟨Same.mut (s.trans s6) hD, (al.imp fun x d h => hF H6 D zs _ x d e6 (hR H2 H6 x d s6 h)).snoc (hF H6 D zs _ y _ e6 r)⟩
  refine ⟨fun i mm H => mm = xs.length - i ∧ i ≤ xs.length ∧ Same H1 H ∧ ∃ ys, H D = some (.lst ys) ∧ All2 (R H) ys ((List.range i).flatMap fun i => (List.range m).map (f i)), ⟨xs.length, by simp, by omega, same_upd hD, [], upd_same, All2.nil⟩, ?_⟩
  rintro i mm H2 ⟨rfl, hi, s2, ys, e2, al2⟩
  have hT := s2 _ _ ha
  by_cases hlt : i < xs.length
  · refine .inr ⟨⟨xs, xs[i], sqT hT, List.getElem?_eq_getElem hlt⟩, fun H' => Same H1 H' ∧ ∃ ys, H' D = some (.lst ys) ∧ All2 (R H') ys ((List.range (i + 1)).flatMap fun i => (List.range m).map (f i)), fun H' q => ⟨xs.length - (i + 1), by omega, rfl, hlt, q⟩, ?_⟩
    rintro x H3 ⟨rfl, hx⟩
    have hx := hx xs (sqT hT)
    refine ⟨hw x, w_yes ?_⟩
    refine w_iteT' ?_
    refine inner i x H3 hx s2 _ ?_
    refine ⟨fun j kk H => kk = m - j ∧ j ≤ m ∧ Same H1 H ∧ ∃ ys, H D = some (.lst ys) ∧ All2 (R H) ys (((List.range i).flatMap fun i => (List.range m).map (f i)) ++ (List.range j).map (f i)), ⟨m, by simp, by omega, s2, ys, e2, by simpa using al2⟩, ?_⟩
    rintro j kk H4 ⟨rfl, hj, s4, zs, e4, al4⟩
    by_cases hjm : j < m
    · refine .inr ⟨hjm, fun H' => Same H1 H' ∧ ∃ ys, H' D = some (.lst ys) ∧ All2 (R H') ys (((List.range i).flatMap fun i => (List.range m).map (f i)) ++ (List.range (j + 1)).map (f i)), fun H' q => ⟨m - (j + 1), by omega, rfl, hjm, q⟩, ?_⟩
      rintro y H5 ⟨rfl, rfl⟩
      refine ⟨hw1 _ _, w_yes ?_⟩
      refine w_iteT' ?_
      rw [Int.zero_add]
      refine turn i j x H5 hx hjm s4 _ fun v H6 s6 r => ?_
      obtain ⟨q1, q2⟩ := app H5 H6 zs _ v _ s4 e4 al4 s6 r
      refine ⟨zs, s6 _ _ e4, szl ?_, q1, _, upd_same, ?_⟩
      · have hl := al4.1
        have e0 : ∀ i, ((List.range i).flatMap fun i => (List.range m).map (f i)).length = i * m := fun i => by
          rw [List.length_flatMap]
          have : (List.map (fun a => (List.map (f a) (List.range m)).length) (List.range i)) = List.replicate i m := by
            refine List.ext_getElem (by simp) fun k h1 h2 => ?_
            simp
          rw [this, List.sum_replicate_nat]
        rw [List.length_append, e0, List.length_map, List.length_range] at hl
        have : (i + 1) * m ≤ xs.length * m := Nat.mul_le_mul_right m hlt
        rw [Nat.add_mul] at this
        omega
      · rw [List.range_succ, List.map_append, ← List.append_assoc]
        exact q2
    · have e : j = m := by omega
      subst e
      refine .inl ⟨Nat.le_refl _, s4, zs, e4, ?_⟩
      rw [List.range_succ, List.flatMap_append]
      simpa using al4
  · have e : i = xs.length := by omega
    subst e
    exact .inl ⟨⟨xs, sqT hT, Nat.le_refl _⟩, done D ys H2 hD s2 e2 al2⟩
/-! ### the for loops -/
theorem f_tup {gg : TG} {tb : TS} {a : Addr} {xs : List V} (Pv : Nat → L2.St → Hp → Prop) (hl : ∀ i σ H, i ≤ xs.length → Pv i σ H → H a = some (.tup xs)) (h0 : Pv 0 σ H)
    (hs : ∀ i x σ H, i < xs.length → xs[i]? = some x → Pv i σ H → gg x σ H fun σ2 H2 => tb { D with nx := Pv (i + 1), ct := Pv (i + 1), bk := D.nx } σ2 H2) (hd : ∀ σ H, Pv xs.length σ H → D.nx σ H) : ForW (Itt K a) gg tb D σ H :=
  for_tup Pv h0 (fun i σ H hi p => sqT (hl i σ H hi p)) (fun i x σ H e p => hs i x σ H (List.getElem?_eq_some_iff.mp e).1 e p) hd
theorem f_lst {gg : TG} {tb : TS} {a : Addr} {xs : List V} (Pv : Nat → L2.St → Hp → Prop) (hl : ∀ i σ H, i ≤ xs.length → Pv i σ H → H a = some (.lst xs)) (h0 : Pv 0 σ H)
    (hs : ∀ i x σ H, i < xs.length → xs[i]? = some x → Pv i σ H → gg x σ H fun σ2 H2 => tb { D with nx := Pv (i + 1), ct := Pv (i + 1), bk := D.nx } σ2 H2) (hd : ∀ σ H, Pv xs.length σ H → D.nx σ H) : ForW (Itl K a) gg tb D σ H :=
  for_list Pv h0 (fun i σ H hi p => sqL (hl i σ H hi p)) (fun i x σ H e p => hs i x σ H (List.getElem?_eq_some_iff.mp e).1 e p) hd
theorem f_rng {gg : TG} {tb : TS} {nn : Nat} (Pv : Nat → L2.St → Hp → Prop) (h0 : Pv 0 σ H)
    (hs : ∀ (i : Nat) σ H, i < nn → Pv i σ H → gg (.int (i : Nat)) σ H fun σ2 H2 => tb { D with nx := Pv (i + 1), ct := Pv (i + 1), bk := D.nx } σ2 H2) (hd : ∀ σ H, Pv nn σ H → D.nx σ H) : ForW (Itr 0 nn) gg tb D σ H :=
  for_range Pv h0 (fun i σ H hi p => by
    have e : V.int (0 + (i : Int)) = V.int (i : Nat) := by rw [Int.zero_add]
    rw [e]
    exact hs i σ H hi p) hd
end
section
theorem w_iteT {p q : Prop} (k : p) : if true = true then p else q := k
theorem w_iteF {p q : Prop} (k : q) : if false = true then p else q := k
theorem w_iteNT {p q : Prop} (k : q) : if (!true) = true then p else q := k
theorem w_iteNF {p q : Prop} (k : p) : if (!false) = true then p else q := k
theorem w_iteD {P p q : Prop} [Decidable P] (h1 : P → p) (h2 : ¬ P → q) : if decide P = true then p else q := by
  by_cases h : P
  · rw [if_pos (decide_eq_true h)]
    exact h1 h
  · rw [if_neg (by simpa using h)]
    exact h2 h
theorem w_iteN {P p q : Prop} [Decidable P] (h1 : ¬ P → p) (h2 : P → q) : if (!decide P) = true then p else q := by
  by_cases h : P
  · rw [if_neg (by simpa using h)]
    exact h2 h
  · rw [if_pos (by simpa using h)]
    exact h1 h
end
section
variable {σ : L2.St} {H : Hp} {D : Ends} {K : PySem.W.Frag} {y : V}
theorem f_enum {n : Nat} {g2 : TG} {tb : TS} {a : Addr} {xs : List V} (Pv : Nat → L2.St → Hp → Prop) (hl : ∀ i σ H, i ≤ xs.length → Pv i σ H → H a = some (.lst xs)) (h0 : Pv 0 σ H)
    (hs : ∀ i x σ H H3, i < xs.length → xs[i]? = some x → Pv i σ H → Same H H3 → g2 x (σ.set n (some (.int (i : Nat)))) H3 fun σ1 H1 => gNil [] σ1 H1 fun σ2 H2 => tb { D with nx := Pv (i + 1), ct := Pv (i + 1), bk := D.nx } σ2 H2) (hd : ∀ σ H, Pv xs.length σ H → D.nx σ H) :
    ForW (Ite K a) (gTup K 2 (gCons (gName n) (gCons g2 gNil))) tb D σ H :=
  for_it (walk_enum (K := K) (a := a) (xs := xs)) Pv h0 (fun i σ H hi p => sqL (hl i σ H hi p)) (fun i v σ H H' hi p y => by
    obtain ⟨T, x, z, rfl, hT, rfl, hx, hz⟩ := y
    cases hx
    refine w_gtup upd_same rfl (w_gcons (w_gname (w_gcons ?_)))
    exact hs i z σ H _ hi hz p (same_upd hT)) hd
theorem f_enumT {n : Nat} {g2 : TG} {tb : TS} {a : Addr} {xs : List V} (Pv : Nat → L2.St → Hp → Prop) (hl : ∀ i σ H, i ≤ xs.length → Pv i σ H → H a = some (.tup xs)) (h0 : Pv 0 σ H)
    (hs : ∀ i x σ H H3, i < xs.length → xs[i]? = some x → Pv i σ H → Same H H3 → g2 x (σ.set n (some (.int (i : Nat)))) H3 fun σ1 H1 => gNil [] σ1 H1 fun σ2 H2 => tb { D with nx := Pv (i + 1), ct := Pv (i + 1), bk := D.nx } σ2 H2) (hd : ∀ σ H, Pv xs.length σ H → D.nx σ H) :
    ForW (IteT K a) (gTup K 2 (gCons (gName n) (gCons g2 gNil))) tb D σ H :=
  for_it (walk_enumT (K := K) (a := a) (xs := xs)) Pv h0 (fun i σ H hi p => sqT (hl i σ H hi p)) (fun i v σ H H' hi p y => by
    obtain ⟨T, x, z, rfl, hT, rfl, hx, hz⟩ := y
    cases hx
    refine w_gtup upd_same rfl (w_gcons (w_gname (w_gcons ?_)))
    exact hs i z σ H _ hi hz p (same_upd hT)) hd
/-- a tracked list grows by one -/
theorem app_ok {δ : Type} {R : Rl δ} (hR : Mono R) (hF : Firm R) {H0 H1 H6 : Hp} {A : Addr} {zs : List V} {ds : List δ} {d : δ} (hA : H0 A = none) (s : Same H0 H1) (e : H1 A = some (.lst zs)) (al : All2 (R H1) zs ds) (s6 : Same H1 H6) (r : R H6 y d) :
    Same H0 (upd H6 A (.lst (zs ++ [y]))) ∧ All2 (R (upd H6 A (.lst (zs ++ [y])))) (zs ++ [y]) (ds ++ [d]) :=
  ⟨Same.mut (s.trans s6) hA, (al.imp fun x d h => hF H6 A zs _ x d (s6 _ _ e) (hR H1 H6 x d s6 h)).snoc (hF H6 A zs _ y _ (s6 _ _ e) r)⟩
end
/-! ### the readings, each told by K itself -/
section
variable {X : Cx} {K : PySem.W.Frag}
theorem ix_tupK (e : X.K = K) : IxR X (rIxT K) := e ▸ ix_tup
theorem ix_listK (e : X.K = K) : IxR X (rIxL K) := e ▸ ix_list
theorem sl_tupK (e : X.K = K) : SlR X (rSlA K) := e ▸ sl_tupA
theorem sl_listK (e : X.K = K) : SlR X (rSlL K) := e ▸ sl_list
theorem cl_lenK (e : X.K = K) : CallR X (.builtin "len") (rLen K) := e ▸ cl_len
theorem cl_tupleK (e : X.K = K) : CallR X (.type "tuple") (rTupOf K) := e ▸ cl_tuple
theorem op_catAK (e : X.K = K) : OpR X (binaryOp .Add) (rCatA K) := e ▸ op_catA
theorem op_repTK (e : X.K = K) : OpR X (binaryOp .Mult) (rRepT K) := e ▸ op_repT
theorem cl_isiK (e : X.K = K) : CallR X (.builtin "isinstance") (rIsi K) := e ▸ call_isi
theorem cl_allK (e : X.K = K) (hc : X.calm = true) : CallR X (.builtin "all") (rAll K) := e ▸ cr_all hc
theorem cl_anyK (e : X.K = K) (hc : X.calm = true) : CallR X (.builtin "any") (rAny K) := e ▸ cr_any hc
theorem cl_maxK (e : X.K = K) (hc : X.calm = true) : CallR X (.builtin "max") (rMax K) := e ▸ cr_max hc
theorem cl_sumK (e : X.K = K) (hc : X.calm = true) : CallR X (.builtin "sum") (rSumT K) := e ▸ cr_sumT hc
theorem op_eqDK (e : X.K = K) (hu : X.A.units + 64 < cLine) : OpR X (compareOp .Eq) (rEqD K) := e ▸ op_eqD hu
theorem op_neDK (e : X.K = K) (hu : X.A.units + 64 < cLine) : OpR X (compareOp .NotEq) (rNeD K) := e ▸ op_neD hu
theorem pe_fldK {x : Expr} {f : Str} {pos : Pos} {ta : TE} (e : X.K = K) (he : PE X x ta) (hb : attributeBase x f X.env (eval x X.env) = eval x X.env) : PE X (.Attribute x f pos) (tFld K ta f) := e ▸ pe_fld he hb
theorem ps_fldK {o value : Expr} {f : Str} {pos pos' : Pos} {ta tv : TE} (e : X.K = K) (ha : PE X o ta) (hv : PE X value tv) (hs : swapsWith value (some (.Attribute o f pos')) pos.line X.env = pure false) : PS X (.Assign [.Attribute o f pos'] value pos) (sFld K ta tv f) := e ▸ ps_fld ha hv hs
theorem pg_tupK {es : List Expr} {k : Nat} {t : TGs} {n : Nat} {pos : Pos} (e : X.K = K) (hc : X.calm = true) (h : PGs X es t) (hn : (assignEach es X.env).length = n := by rfl) (hst : (assignEach es X.env).findIdx? (·.1) = none := by rfl) : PG X (.Tuple es k pos) (gTup K n t) := e ▸ pg_tup hc h hn hst
theorem pi_listK {tg l : Expr} {tl : TE} (e : X.K = K) (hl : PE X l tl) : PI X tg l (iList K tl) := e ▸ pi_list hl
theorem pi_tupK {tg l : Expr} {tl : TE} (e : X.K = K) (hl : PE X l tl) : PI X tg l (iTup K tl) := e ▸ pi_tup hl
theorem pi_enumK {a : Expr} {ta : TA} {p pos tpos : Pos} {elts : List Expr} {kk : Nat} (e : X.K = K) (hg : Gl X "enumerate") (hm : X.mg "enumerate" = none) (ha : PA X [a] ta) (hs : starEach [a] X.env = [(false, eval a X.env)] := by rfl) :
    PI X (.Tuple elts kk tpos) (.Call (.Name "enumerate" p) [a] [] pos) (iEnum K ta) := e ▸ pi_enum hg hm ha hs
theorem pi_enumTK {a : Expr} {ta : TA} {p pos tpos : Pos} {elts : List Expr} {kk : Nat} (e : X.K = K) (hg : Gl X "enumerate") (hm : X.mg "enumerate" = none) (ha : PA X [a] ta) (hs : starEach [a] X.env = [(false, eval a X.env)] := by rfl) :
    PI X (.Tuple elts kk tpos) (.Call (.Name "enumerate" p) [a] [] pos) (iEnumT K ta) := e ▸ pi_enumT hg hm ha hs
theorem pi_zipK {a b : Expr} {ta : TA} {p pos tpos : Pos} {elts : List Expr} {kk : Nat} (e : X.K = K) (hg : Gl X "zip") (hm : X.mg "zip" = none) (ha : PA X [a, b] ta)
    (hs : starEach [a, b] X.env = (false, eval a X.env) :: starEach [b] X.env := by rfl) (hpl : (backTo pos (starEach [b] X.env)).any (·.1) = false := by rfl) :
    PI X (.Tuple elts kk tpos) (.Call (.Name "zip" p) [a, b] [] pos) (RZ.iZipA K ta) := e ▸ RZ.pi_zipA hg hm ha hs hpl
end
end WL
/-! dicts: reading and writing, a dict by a comprehension over keys, locked walks -/
namespace WL
open PySem PySem.Spec PyProof.Rows L2
section
variable {σ : L2.St} {H : Hp} {Q : VK} {te tk tv td ty : TE} {v x y : V} {D : Ends} {QB : Bool → Hp → Prop} {K : PySem.W.Frag} {n : Nat} {a : Addr} {kvs : List (Key × V)} {i : Int}
def dinAt (y x : V) (H2 : Hp) (Q : VK) : Prop := ∃ a o, x = .ref a ∧ DGet H2 a y o ∧ Q (.bl o.isSome) H2
def dninAt (y x : V) (H2 : Hp) (Q : VK) : Prop := ∃ a o, x = .ref a ∧ DGet H2 a y o ∧ Q (.bl (!o.isSome)) H2
def dgetAt (x y : V) (H2 : Hp) (Q : VK) : Prop := ∃ a v, x = .ref a ∧ DGet H2 a y (some v) ∧ Q v H2
def dputAt (x y v : V) (H3 : Hp) (Q : Hp → Prop) : Prop := ∃ a H4, x = .ref a ∧ DPut H3 a y v H4 ∧ Q H4
theorem w_din (k : ty σ H fun y H1 => td σ H1 fun x H2 => dinAt y x H2 Q) : tDIn ty td σ H Q := k
theorem w_dnin (k : ty σ H fun y H1 => td σ H1 fun x H2 => dninAt y x H2 Q) : tDNotIn ty td σ H Q := k
theorem w_dget (k : td σ H fun x H1 => ty σ H1 fun y H2 => dgetAt x y H2 Q) : tDGet td ty σ H Q := k
theorem w_dput (k : tv σ H fun v H1 => td σ H1 fun x H2 => ty σ H2 fun y H3 => dputAt x y v H3 (D.nx σ)) : sDPut td ty tv D σ H := k
theorem w_dinAt (h : Rd H a (.dK kvs)) (k : Q (.bl (valV kvs (.inl i)).isSome) H) : dinAt (.int i) (.ref a) H Q := ⟨a, _, rfl, .inl ⟨kvs, .inl i, h, rfl, rfl⟩, k⟩
theorem w_dninAt (h : Rd H a (.dK kvs)) (k : Q (.bl (!(valV kvs (.inl i)).isSome)) H) : dninAt (.int i) (.ref a) H Q := ⟨a, _, rfl, .inl ⟨kvs, .inl i, h, rfl, rfl⟩, k⟩
theorem w_dgetAt (h : Rd H a (.dK kvs)) (e : valV kvs (.inl i) = some v) (k : Q v H) : dgetAt (.ref a) (.int i) H Q := ⟨a, v, rfl, .inl ⟨kvs, .inl i, h, rfl, e.symm⟩, k⟩
theorem w_dgetS {s : Str} (h : Rd H a (.dK kvs)) (e : valV kvs (.inr s) = some v) (k : Q v H) : dgetAt (.ref a) (.str s) H Q := ⟨a, v, rfl, .inl ⟨kvs, .inr s, h, rfl, e.symm⟩, k⟩
theorem w_dputAt {QH : Hp → Prop} (h : H a = some (.dK kvs)) (hl : kvs.length < 100000) (k : QH (upd H a (.dK (putK kvs (.inl i) v)))) : dputAt (.ref a) (.int i) v H QH := ⟨a, _, rfl, .inl ⟨kvs, .inl i, h, rfl, szl hl, rfl⟩, k⟩
theorem w_dputS {QH : Hp → Prop} {s : Str} (h : H a = some (.dK kvs)) (hl : kvs.length < 100000) (k : QH (upd H a (.dK (putK kvs (.inr s) v)))) : dputAt (.ref a) (.str s) v H QH := ⟨a, _, rfl, .inl ⟨kvs, .inr s, h, rfl, szl hl, rfl⟩, k⟩
theorem w_disp1 (k : ∀ p, H p = none → tk σ (upd H p (.dK [])) fun x H1 => tv σ H1 fun y H2 => H2 p = some (.dK []) ∧ ∃ k, x = kV k ∧ Q (.ref p) (upd H2 p (.dK [(k, y)]))) : tDisp [(tk, tv)] σ H Q := fun p hp => by
  have mono := k p hp
  show tk σ _ fun x H1 => tv σ H1 fun y H2 => _
  have e : (fun x H1 => tv σ H1 fun y H2 => H2 p = some (.dK []) ∧ ∃ k, x = kV k ∧ Q (.ref p) (upd H2 p (.dK [(k, y)]))) =
      (fun x H1 => tv σ H1 fun y H2 => H2 p = some (.dK []) ∧ ∃ kvs : List (Key × V), [(x, y)] = kvs.map (fun kv => (kV kv.1, kv.2)) ∧ kvs.length ≤ 15 ∧ Q (.ref p) (upd H2 p (.dK (mergeK [] kvs)))) := by
    funext x H1
    congr 1
    funext y H2
    refine propext ⟨fun ⟨h1, k, h2, h3⟩ => ⟨h1, [(k, y)], by rw [h2]; rfl, by simp, h3⟩, fun ⟨h1, kvs, h2, h3, h4⟩ => ⟨h1, ?_⟩⟩
    match kvs, h2, h4 with
    | [(k, z)], h2, h4 =>
      have h5 : (x, y) = (kV k, z) := by simpa using h2
      cases h5
      exact ⟨k, rfl, h4⟩
  rw [e] at mono
  exact mono
theorem w_dnew (k : ∀ p H', H p = none → Same H H' → H' p = some (.dK []) → Q (.ref p) H') : tDNewK σ H Q := fun p hp => k p _ hp (same_upd hp) upd_same
theorem putK_new {k : Key} (h : valV kvs k = none) : putK kvs k v = kvs ++ [(k, v)] := by
  unfold putK
  rw [if_neg]
  rw [valV_any, h]
  decide
/-! ### locks -/
def lockAt (te : TE) (σ : L2.St) (d : Addr) (u : HO) (H : Hp) (Q : VK) : Prop := ∀ od, te σ (upd H d (.frz od u)) fun v H' => H' d = some (.frz od u) ∧ Q v (upd H' d u)
theorem w_lock {d : Addr} (h : H d = some (.dK kvs)) (k : ∀ od H1, (∀ b o, b ≠ d → H b = some o → H1 b = some o) → (∀ b, H1 b = none → H b = none) → H1 d = some (.frz od (.dK kvs)) → te σ H1 fun v H' => H' d = some (.frz od (.dK kvs)) ∧ Q v (upd H' d (.dK kvs))) : tLockE te σ H Q :=
  ⟨d, _, h, trivial, fun od => k od _ (fun b o hb hh => by rw [upd_ne hb]; exact hh) (fun b hb => by
    by_cases e : b = d
    · rw [e, upd_same] at hb
      cases hb
    · rw [upd_ne e] at hb
      exact hb) upd_same⟩
/-- what a lock leaves behind -/
theorem same_unlock {H1 H' : Hp} {d : Addr} (hb : ∀ b o, b ≠ d → H b = some o → H1 b = some o) (h : H d = some (.dK kvs)) (s : Same H1 H') : Same H (upd H' d (.dK kvs)) := fun b o e => by
  by_cases c : b = d
  · rw [c] at e ⊢
    rw [upd_same, ← e, h]
  · rw [upd_ne c]
    exact s _ _ (hb b o c e)
/-! ### walks over dicts -/
def keysAt (x : V) (H1 : Hp) (R : It → Hp → Prop) : Prop := ∃ d o, x = .ref d ∧ ((∃ kvs, H1 d = some (.frz o (.dK kvs)) ∧ R (Itk d o kvs) H1) ∨ ∃ kvs, H1 d = some (.frz o (.dT kvs)) ∧ R (Itkt d o kvs) H1)
def valsAt (x : V) (H1 : Hp) (R : It → Hp → Prop) : Prop := ∃ d o kvs, x = .ref d ∧ H1 d = some (.frz o (.dK kvs)) ∧ R (Itd d o kvs) H1
theorem w_keys {R : It → Hp → Prop} (k : td σ H fun x H1 => keysAt x H1 R) : iKeys td σ H R := k
theorem w_vals {R : It → Hp → Prop} (k : td σ H fun x H1 => valsAt x H1 R) : iVals td σ H R := k
theorem w_keysAt {R : It → Hp → Prop} {o : Obj} (h : H a = some (.frz o (.dK kvs))) (k : R (Itk a o kvs) H) : keysAt (.ref a) H R := ⟨a, o, rfl, .inl ⟨kvs, h, k⟩⟩
theorem w_valsAt {R : It → Hp → Prop} {o : Obj} (h : H a = some (.frz o (.dK kvs))) (k : R (Itd a o kvs) H) : valsAt (.ref a) H R := ⟨a, o, kvs, rfl, h, k⟩
def DcW (J : It) (g : TG) (tt : TT) (tk tv : TE) (vs : List Nat) (σ : L2.St) (H1 : Hp) (Q : VK) : Prop := tDc (fun _ _ S => S J H1) g tt tk tv vs σ H1 Q
theorem w_dc {wi : TI} {gg : TG} {tt : TT} {vs : List Nat} (k : wi σ H fun J H1 => DcW J gg tt tk tv vs σ H1 Q) : tDc wi gg tt tk tv vs σ H Q := k
theorem dc_keys {o : Obj} {tt : TT} {vs : List Nat} (p : Nat → Bool) (h : H a = some (.frz o (.dK kvs))) (hk : ∀ (i : Nat) (k : Key) (x : V), kvs[i]? = some (k, x) → k = .inl (i : Int)) (hn : kvs.length < 100000) (hnv : n ∈ vs) (hw : ∀ x, wipe ((wipe σ vs).set n (some x)) vs = wipe σ vs) (hg : ∀ x, ((wipe σ vs).set n (some x))[n]? = some (some x))
    (turn : ∀ (i : Nat) (H2 : Hp), i < kvs.length → Same H H2 → ∀ B : Bool → Hp → Prop, (∀ H6, Same H2 H6 → B (p i) H6) → tt ((wipe σ vs).set n (some (.int (i : Nat)))) H2 B)
    (done : ∀ b H' kk, H b = none → Same H H' → H' b = some (.dK kk) → (∀ u : Nat, (valV kk (.inl (u : Int))).isSome = (decide (u < kvs.length) && p u)) → Q (.ref b) H') : DcW (Itk a o kvs) (gName n) tt (tVar n) (tC (.bl true)) vs σ H Q := by
  intro D hD
  refine ⟨fun i m H' => m = kvs.length - i ∧ i ≤ kvs.length ∧ Same H H' ∧ ∃ kk, H' D = some (.dK kk) ∧ kk.length ≤ i ∧ ∀ u : Nat, (valV kk (.inl (u : Int))).isSome = (decide (u < i) && p u), ⟨kvs.length, by simp, Nat.zero_le _, same_upd hD, [], upd_same, Nat.zero_le _, fun u => ?_⟩, ?_⟩
  · rw [decide_eq_false (by omega)]
    rfl
  · rintro i m H2 ⟨rfl, hi, s2, kk, e2, hl, hv⟩
    have hT := s2 _ _ h
    by_cases hlt : i < kvs.length
    · refine .inr ⟨⟨hT, hlt⟩, fun H' => Same H H' ∧ ∃ kk, H' D = some (.dK kk) ∧ kk.length ≤ i + 1 ∧ ∀ u : Nat, (valV kk (.inl (u : Int))).isSome = (decide (u < i + 1) && p u), fun H' q => ⟨kvs.length - (i + 1), by omega, rfl, hlt, q⟩, ?_⟩
      rintro x H3 ⟨rfl, k, z, hx, rfl⟩
      have e := hk i k z hx
      subst e
      refine ⟨hw _, turn i H3 hlt s2 _ fun H6 s6 => ?_⟩
      have e6 := s6 _ _ e2
      have hstep : ∀ u : Nat, (decide (u < i + 1) && p u) = if u = i then p i else (decide (u < i) && p u) := fun u => by
        by_cases c : u = i
        · subst c
          rw [if_pos rfl, decide_eq_true (by omega)]
          rfl
        · rw [if_neg c]
          congr 1
          by_cases c2 : u < i
          · rw [decide_eq_true c2, decide_eq_true (by omega)]
          · rw [decide_eq_false c2, decide_eq_false (by omega)]
      cases hp : p i with
      | true =>
        rw [if_pos rfl]
        refine ⟨_, hg _, kk, .inl (i : Int), rfl, e6, szl (by omega), Same.mut (s2.trans s6) hD, _, upd_same, ?_, fun u => ?_⟩
        · have hnone : valV kk (.inl (i : Int)) = none := by
            have := hv i
            rw [decide_eq_false (by omega), Bool.false_and] at this
            cases hh : valV kk (.inl (i : Int)) with
            | none => rfl
            | some z => rw [hh] at this; cases this
          rw [putK_new hnone, List.length_append]
          show kk.length + 1 ≤ i + 1
          omega
        · rw [valV_put, hstep]
          by_cases c : u = i
          · subst c
            rw [if_pos rfl, if_pos rfl, hp]
            rfl
          · rw [if_neg (fun z => c (by injection z with z; omega)), if_neg c]
            exact hv u
      | false =>
        rw [if_neg (by decide)]
        refine ⟨s2.trans s6, kk, e6, by omega, fun u => ?_⟩
        rw [hstep]
        by_cases c : u = i
        · subst c
          rw [if_pos rfl, hp, hv, decide_eq_false (by omega)]
          rfl
        · rw [if_neg c]
          exact hv u
    · have e : i = kvs.length := by omega
      subst e
      exact .inl ⟨⟨hT, Nat.le_refl _⟩, done D H2 kk hD s2 e2 hv⟩
theorem lc_vals {δ : Type} {vs : List Nat} {o : Obj} (R : Rl δ) (hR : Mono R) (hF : Firm R) (f : Nat → δ) (ha : H a = some (.frz o (.dK kvs))) (hn : kvs.length < 100000) (hw : ∀ x, wipe ((wipe σ vs).set n (some x)) vs = wipe σ vs)
    (turn : ∀ (i : Nat) (k : Key) (x : V) (H2 : Hp), kvs[i]? = some (k, x) → Same H H2 → ∀ A : VK, (∀ y H6, Same H2 H6 → R H6 y (f i) → A y H6) → te ((wipe σ vs).set n (some x)) H2 A)
    (done : ∀ b ys H', H b = none → Same H H' → H' b = some (.lst ys) → All2 (R H') ys ((List.range kvs.length).map f) → Q (.ref b) H') : LcW (Itd a o kvs) (gName n) tYes te vs σ H Q := fun D hD =>
  lcR (walk_values (d := a) (o := o) (kvs := kvs)) R hR hF (fun _ => true) f hD hn (fun H' s => s _ _ ha) (fun i x H2 H3 hi s y A B hA _ => by
    obtain ⟨rfl, k, hx⟩ := y
    exact ⟨hw _, turn i k x H3 hx s A fun y H6 s6 r => hA y H6 rfl s6 r⟩) fun xs H' s hd al => done D xs H' hD s hd (by rw [filter_all] at al; exact al)
def rSortD : List V → Hp → VK → Prop := fun xs H Q => ∃ (a : Addr) (kvs : List (Key × V)) (ks : List Int), xs = [.ref a] ∧ Rd H a (.dK kvs) ∧ kvs.map (·.1) = ks.map Sum.inl ∧ ks.length < 64 ∧
    ∀ (ys : List Int) (p : Addr), ys.Perm ks → ys.Pairwise (· ≤ ·) → H p = none → Q (.ref p) (upd H p (.lst (ys.map V.int)))
theorem cl_sortD {X : Cx} (hc : X.calm = true) : CallR X (.builtin "sorted") rSortD := call_sortedDI hc
def rng3At (vs : List V) (H1 : Hp) (R : It → Hp → Prop) : Prop := ∃ (i j c : Int) (n : Nat), vs = [.int i, .int j, .int c] ∧ RgC i j c n ∧ R (Itc i c n) H1
theorem w_rng3 {tr : TA} {R : It → Hp → Prop} (k : tr σ H fun vs H1 => rng3At vs H1 R) : iRng3 tr σ H R := k
/-- from m - 1 down to 0 -/
theorem w_rngDown {j : Int} {R : It → Hp → Prop} (m : Nat) (e : i = (m : Int) - 1) (e2 : j = -1) (hm : m < 100000) (k : R (Itc ((m : Int) - 1) (-1) m) H) : rng3At [.int i, .int j, .int (-1)] H R := by
  subst e e2
  refine ⟨_, _, _, m, rfl, ?_, k⟩
  have h := RgC.neg (i := (m : Int) - 1) (j := -1) (by omega) (by omega) (by omega) (by omega)
  rw [show ((m : Int) - 1 - -1).toNat = m by omega] at h
  exact h
theorem f_down {gg : TG} {tb : TS} {m : Nat} (Pv : Nat → L2.St → Hp → Prop) (h0 : Pv 0 σ H)
    (hs : ∀ (i : Nat) σ H, i < m → Pv i σ H → gg (.int ((m - 1 - i : Nat) : Int)) σ H fun σ2 H2 => tb { D with nx := Pv (i + 1), ct := Pv (i + 1), bk := D.nx } σ2 H2) (hd : ∀ σ H, Pv m σ H → D.nx σ H) : ForW (Itc ((m : Int) - 1) (-1) m) gg tb D σ H :=
  for_it walk_rangeC Pv h0 (fun _ _ _ _ _ => trivial) (fun i x σ H H' hi p y => by
    obtain ⟨rfl, e⟩ := y
    have e3 : x = V.int ((m - 1 - i : Nat) : Int) := by
      rw [e]
      show V.int _ = V.int _
      congr 1
      omega
    subst e3
    exact hs i σ _ hi p) hd
end
end WL
namespace WL
open PySem PySem.Spec PyProof.Rows L2
theorem lc_lstF {σ : L2.St} {Q : VK} {K : PySem.W.Frag} {n : Nat} {tt : TT} {te : TE} {vs : List Nat} {δ : Type} {H1 : Hp} {a : Addr} {xs : List V} (R : Rl δ) (hR : Mono R) (hF : Firm R) (p : Nat → Bool) (f : Nat → δ) (ha : H1 a = some (.lst xs)) (hn : xs.length < 100000) (hw : ∀ x, wipe ((wipe σ vs).set n (some x)) vs = wipe σ vs)
    (turn : ∀ (i : Nat) (x : V) (H2 : Hp), i < xs.length → xs[i]? = some x → Same H1 H2 → ∀ (A : VK) (B : Hp → Prop), (∀ y H6, p i = true → Same H2 H6 → R H6 y (f i) → A y H6) → (∀ H6, p i = false → Same H2 H6 → B H6) →
      tt ((wipe σ vs).set n (some x)) H2 fun b H5 => if b = true then te ((wipe σ vs).set n (some x)) H5 A else B H5)
    (done : ∀ a ys H', H1 a = none → Same H1 H' → H' a = some (.lst ys) → All2 (R H') ys (((List.range xs.length).filter p).map f) → Q (.ref a) H') : LcW (Itl K a) (gName n) tt te vs σ H1 Q := fun D hD =>
  lcR (walk_list (K := K) (a := a) (xs := xs)) R hR hF p f hD hn (fun H' s => sqL (s _ _ ha)) (fun i x H2 H3 hi s y A B hA hB => by
    obtain ⟨rfl, hx⟩ := y
    exact ⟨hw _, turn i x H3 hi hx s A B hA hB⟩) fun xs H' s hd al => done D xs H' hD s hd al
theorem filter_items (ys : List Int) (g : Int → Bool) : ((List.range ys.length).filter fun i => g (ys.getD i 0)).map (fun i => ys.getD i 0) = ys.filter g := by
  have e : (List.range ys.length).map (fun i => ys.getD i 0) = ys := by
    refine List.ext_getElem? fun i => ?_
    rw [List.getElem?_map]
    by_cases h : i < ys.length
    · rw [List.getElem?_range h, List.getElem?_eq_getElem h]
      show some (ys.getD i 0) = _
      rw [List.getD_eq_getElem?_getD, List.getElem?_eq_getElem h]
      rfl
    · rw [List.getElem?_eq_none (by rw [List.length_range]; omega), List.getElem?_eq_none (by omega)]
      rfl
  have e2 := List.filter_map (p := g) (f := fun i => ys.getD i 0) (l := List.range ys.length)
  rw [e] at e2
  exact e2.symm
end WL
namespace WL
open PySem PySem.Spec PyProof.Rows L2
theorem lc_lstQ {σ : L2.St} {Q : VK} {K : PySem.W.Frag} {n : Nat} {tt : TT} {te : TE} {vs : List Nat} {δ : Type} {H1 : Hp} {a : Addr} {xs : List V} (R : Rl δ) (hR : Mono R) (hF : Firm R) (p : Nat → Bool) (f : Nat → δ) (ha : SqL K H1 a xs) (hn : xs.length < 100000) (hw : ∀ x, wipe ((wipe σ vs).set n (some x)) vs = wipe σ vs)
    (turn : ∀ (i : Nat) (x : V) (H2 : Hp), i < xs.length → xs[i]? = some x → Same H1 H2 → ∀ (A : VK) (B : Hp → Prop), (∀ y H6, p i = true → Same H2 H6 → R H6 y (f i) → A y H6) → (∀ H6, p i = false → Same H2 H6 → B H6) →
      tt ((wipe σ vs).set n (some x)) H2 fun b H5 => if b = true then te ((wipe σ vs).set n (some x)) H5 A else B H5)
    (done : ∀ a ys H', H1 a = none → Same H1 H' → H' a = some (.lst ys) → All2 (R H') ys (((List.range xs.length).filter p).map f) → Q (.ref a) H') : LcW (Itl K a) (gName n) tt te vs σ H1 Q := fun D hD =>
  lcR (walk_list (K := K) (a := a) (xs := xs)) R hR hF p f hD hn (fun H' s => SqL.ext ha s) (fun i x H2 H3 hi s y A B hA hB => by
    obtain ⟨rfl, hx⟩ := y
    exact ⟨hw _, turn i x H3 hi hx s A B hA hB⟩) fun xs H' s hd al => done D xs H' hD s hd al
theorem w_iLstAtQ {K : PySem.W.Frag} {H : Hp} {R : It → Hp → Prop} {a : Addr} {xs : List V} (h : SqL K H a xs) (k : R (Itl K a) H) : iLstAt K (.ref a) H R := ⟨a, rfl, ⟨xs, h⟩, k⟩
def bmAt (K : PySem.W.Frag) (T : String) (rr : V → List V → Hp → VK → Prop) (tr : TA) (σ : L2.St) (x : V) (H1 : Hp) (Q : VK) : Prop := tyV K T x H1 ∧ tr σ H1 fun vs H2 => rr x vs H2 Q
theorem w_bm {K : PySem.W.Frag} {T : String} {rr : V → List V → Hp → VK → Prop} {te : TE} {tr : TA} {σ : L2.St} {H : Hp} {Q : VK} (k : te σ H fun x H1 => bmAt K T rr tr σ x H1 Q) : tBM K T rr te tr σ H Q := k
theorem w_bmAtL {K : PySem.W.Frag} {rr : V → List V → Hp → VK → Prop} {tr : TA} {σ : L2.St} {H : Hp} {Q : VK} {a : Addr} {xs : List V} (h : H a = some (.lst xs)) (k : tr σ H fun vs H2 => rr (.ref a) vs H2 Q) : bmAt K "list" rr tr σ (.ref a) H Q := ⟨.inl ⟨rfl, xs, sqL h⟩, k⟩
end WL
namespace WL
open PySem PySem.Spec PyProof.Rows L2
def dispAt (p : Addr) (ps : List (V × V)) (H2 : Hp) (Q : VK) : Prop := H2 p = some (.dK []) ∧ ∃ kvs : List (Key × V), ps = kvs.map (fun kv => (kV kv.1, kv.2)) ∧ kvs.length ≤ 15 ∧ Q (.ref p) (upd H2 p (.dK (mergeK [] kvs)))
theorem w_disp {trs : List (TE × TE)} {σ : L2.St} {H : Hp} {Q : VK} (k : ∀ p, H p = none → tPairs trs σ (upd H p (.dK [])) fun ps H2 => dispAt p ps H2 Q) : tDisp trs σ H Q := k
theorem w_pcons {tk tv : TE} {r : List (TE × TE)} {σ : L2.St} {H : Hp} {QP : List (V × V) → Hp → Prop} (k : tk σ H fun x H1 => tv σ H1 fun y H2 => tPairs r σ H2 fun ps H3 => QP ((x, y) :: ps) H3) : tPairs ((tk, tv) :: r) σ H QP := k
theorem w_pnil {σ : L2.St} {H : Hp} {QP : List (V × V) → Hp → Prop} (k : QP [] H) : tPairs [] σ H QP := k
end WL
/-! the data of the laws, with no program in sight -/
namespace WL
/-- the number of a word -/
def num (q : Nat) (w : List Nat) : Nat := w.foldl (fun a k => a * q + k) 0
theorem num_snoc (q : Nat) (w : List Nat) (k : Nat) : num q (w ++ [k]) = num q w * q + k := by
  unfold num
  rw [List.foldl_append]
  rfl
/-- the word of a number -/
def wordOf (q : Nat) : Nat → Nat → List Nat
  | 0, _ => []
  | l + 1, n => wordOf q l (n / q) ++ [n % q]
def allWords (q l : Nat) : List (List Nat) := (List.range (q ^ l)).map (wordOf q l)
/-- a word of kinds -/
def Kinds (q : Nat) (w : List Nat) : Prop := ∀ x ∈ w, x < q
structure Ru where
  q : Nat
  f : Int
  w : Nat
  t : List Nat
structure Ru.Ok (r : Ru) : Prop where
  q2 : r.q = 2 ∨ r.q = 3
  w1 : 1 ≤ r.w
  size : r.q ^ (r.w - 1) ≤ 9
  len : r.t.length = r.q ^ r.w
  kinds : Kinds r.q r.t
  f1 : -40 ≤ r.f
  f2 : r.f + r.w - 1 ≤ 40
def toldK (r : Ru) (u : List Nat) : Nat := r.t.getD (num r.q u) 0
def stepWord (r : Ru) (u : List Nat) : List Nat := (List.range (u.length + 1 - r.w)).map fun i => toldK r ((u.drop i).take r.w)
/-- a cell of a ring, by any whole number -/
def cellAt (c : List Nat) (i : Int) : Nat := c.getD (i % c.length).toNat 0
def roundOf (r : Ru) (c : List Nat) : List Nat := (List.range c.length).map fun (k : Nat) => toldK r ((List.range r.w).map fun (j : Nat) => cellAt c (k + r.f + j))
structure Ga where
  l : Nat
  ws : List Int
structure Ga.Ok (q : Nat) (g : Ga) : Prop where
  l1 : 1 ≤ g.l
  len : g.ws.length = q ^ g.l
  small : q ^ g.l ≤ 729
def Ga.at (g : Ga) (n : Nat) : Int := g.ws.getD n 0
def gaugeLed (r : Ru) (g : Ga) : Ga := ⟨g.l + r.w - 1, (allWords r.q (g.l + r.w - 1)).map fun u => g.at (num r.q (stepWord r u))⟩
def widen (q : Nat) (g : Ga) (l : Nat) : Ga := ⟨l, (List.range (g.ws.length * q ^ (l - g.l))).map fun i => g.at (i / q ^ (l - g.l))⟩
def lessG (g h : Ga) : Ga := ⟨g.l, (List.range g.ws.length).map fun i => g.at i - h.at i⟩
def changeG (r : Ru) (g : Ga) : Ga := lessG (gaugeLed r g) (widen r.q g (gaugeLed r g).l)
def negG (g : Ga) : Ga := ⟨g.l, g.ws.map fun x => 0 - x⟩
def lowestF (p : Int) (b : Nat) : Int × Nat := (p / (Nat.gcd p.natAbs b : Nat), b / Nat.gcd p.natAbs b)
/-! ### the graph: an edge is a word x, from x / q to x % n -/
/-- m is the best way into v by one edge behind a row -/
def Into (q n : Nat) (wt : Nat → Int) (row : Nat → Option Int) (v : Nat) (lim : Nat) : Option Int → Prop
  | none => ∀ x, x < lim → x % n = v → row (x / q) = none
  | some m => (∃ x t, x < lim ∧ x % n = v ∧ row (x / q) = some t ∧ m = t + wt x) ∧ ∀ x t, x < lim → x % n = v → row (x / q) = some t → t + wt x ≤ m
/-- rows of greatest sums from node 0 -/
def Rows (q n : Nat) (wt : Nat → Int) (rows : Nat → Nat → Option Int) : Prop :=
  (∀ v, v < n → rows 0 v = if v = 0 then some 0 else none) ∧ ∀ k v, k < n → v < n → Into q n wt (rows k) v (n * q) (rows (k + 1) v)
/-- a / b is the least of the means at v -/
def MeanAt (n : Nat) (rows : Nat → Nat → Option Int) (v : Nat) (a : Int) (b : Nat) : Prop :=
  ∃ x, rows n v = some x ∧ (∃ k y, k < n ∧ rows k v = some y ∧ a = x - y ∧ b = n - k) ∧ ∀ k y, k < n → rows k v = some y → a * ((n - k : Nat) : Int) ≤ (x - y) * b
def Karp (n : Nat) (rows : Nat → Nat → Option Int) (a : Int) (b : Nat) : Prop :=
  (∃ v, v < n ∧ MeanAt n rows v a b) ∧ ∀ v a' b', v < n → MeanAt n rows v a' b' → a' * b ≤ a * b'
/-- a walk of k edges to v, of the sum y -/
inductive Wk (q n : Nat) (c : Nat → Int) : Nat → Nat → Int → Prop
  | nil {v : Nat} : v < n → Wk q n c 0 v 0
  | step {k x : Nat} {y : Int} : x < n * q → Wk q n c k (x / q) y → Wk q n c (k + 1) (x % n) (y + c x)
/-- where kinds lead, and the sum on the way -/
def goTo (q n : Nat) : Nat → List Nat → Nat
  | u, [] => u
  | u, k :: w => goTo q n ((u * q + k) % n) w
def sumTo (q n : Nat) (wt : Nat → Int) : Nat → List Nat → Int
  | _, [] => 0
  | u, k :: w => wt (u * q + k) + sumTo q n wt ((u * q + k) % n) w
/-- each edge on the way is tight -/
def tightTo (q n : Nat) (T : Nat → Prop) : Nat → List Nat → Prop
  | _, [] => True
  | u, k :: w => T (u * q + k) ∧ tightTo q n T ((u * q + k) % n) w
/-- a closed way of kinds, each edge in T -/
def Round (q n : Nat) (T : Nat → Prop) (u : Nat) (c : List Nat) : Prop := u < n ∧ Kinds q c ∧ goTo q n u c = u ∧ tightTo q n T u c
/-- ascending order of words of one length -/
def lexLt : List Nat → List Nat → Prop
  | x :: xs, y :: ys => x < y ∨ x = y ∧ lexLt xs ys
  | _, _ => False
/-- no closed way has a positive sum -/
def NoPos (q n : Nat) (c : Nat → Int) : Prop := ∀ u w, u < n → Kinds q w → goTo q n u w = u → sumTo q n c u w ≤ 0
def Feas (q n : Nat) (c : Nat → Int) (p : Nat → Int) : Prop := ∀ x, x < n * q → p (x / q) + c x ≤ p (x % n)
def costOf (a : Int) (b : Nat) (wt : Nat → Int) : Nat → Int := fun x => b * wt x - a
/-- a closed way, the least of the shortest ones whose edges are in T -/
def LeastRound (q n : Nat) (T : Nat → Prop) (c : List Nat) : Prop :=
  1 ≤ c.length ∧ c.length ≤ n ∧ (∃ u, Round q n T u c) ∧ ∀ u d, 1 ≤ d.length → Round q n T u d → c.length < d.length ∨ c.length = d.length ∧ ¬ lexLt d c
end WL
/-! walks: taken apart, made short -/
namespace WL
theorem pigeon : ∀ (n : Nat) (f : Nat → Nat), (∀ i, i ≤ n → f i < n) → ∃ i j, i < j ∧ j ≤ n ∧ f i = f j
  | 0, f, h => absurd (h 0 (Nat.le_refl 0)) (Nat.not_lt_zero _)
  | n + 1, f, h => by
    by_cases c : ∃ i, i ≤ n ∧ f i = f (n + 1)
    · obtain ⟨i, hi, e⟩ := c
      exact ⟨i, n + 1, by omega, Nat.le_refl _, e⟩
    · have ha := h (n + 1) (Nat.le_refl _)
      have hne : ∀ i, i ≤ n → f i ≠ f (n + 1) := fun i hi e => c ⟨i, hi, e⟩
      obtain ⟨i, j, hij, hj, e⟩ := pigeon n (fun i => if f i = n then f (n + 1) else f i) fun i hi => by
        have h1 := h i (by omega)
        have h2 := hne i hi
        show (if f i = n then f (n + 1) else f i) < n
        split <;> omega
      refine ⟨i, j, hij, by omega, ?_⟩
      have h1 := hne i (by omega)
      have h2 := hne j hj
      have e' : (if f i = n then f (n + 1) else f i) = (if f j = n then f (n + 1) else f j) := e
      split at e' <;> split at e' <;> omega
section
variable {q n : Nat} {c : Nat → Int}
theorem goTo_append (q n : Nat) : ∀ (a b : List Nat) (u : Nat), goTo q n u (a ++ b) = goTo q n (goTo q n u a) b
  | [], b, u => rfl
  | k :: a, b, u => goTo_append q n a b _
theorem sumTo_append (q n : Nat) (c : Nat → Int) : ∀ (a b : List Nat) (u : Nat), sumTo q n c u (a ++ b) = sumTo q n c u a + sumTo q n c (goTo q n u a) b
  | [], b, u => by simp [sumTo, goTo]
  | k :: a, b, u => by
    show c _ + sumTo q n c _ (a ++ b) = _
    rw [sumTo_append q n c a b]
    show c _ + (sumTo q n c _ a + sumTo q n c _ b) = (c _ + sumTo q n c _ a) + sumTo q n c _ b
    rw [Int.add_assoc]
    rfl
theorem goTo_lt (hn : 0 < n) : ∀ (w : List Nat) (u : Nat), u < n → goTo q n u w < n
  | [], u, h => h
  | k :: w, u, _ => goTo_lt hn w _ (Nat.mod_lt _ hn)
theorem Kinds.append {a b : List Nat} (ha : Kinds q a) (hb : Kinds q b) : Kinds q (a ++ b) := fun x hx => by
  rw [List.mem_append] at hx
  exact hx.elim (ha x) (hb x)
theorem Kinds.left {a b : List Nat} (h : Kinds q (a ++ b)) : Kinds q a := fun x hx => h x (List.mem_append_left _ hx)
theorem Kinds.right {a b : List Nat} (h : Kinds q (a ++ b)) : Kinds q b := fun x hx => h x (List.mem_append_right _ hx)
theorem word_lt {u k : Nat} (hu : u < n) (hk : k < q) : u * q + k < n * q := by
  calc u * q + k < u * q + q := by omega
    _ = (u + 1) * q := by rw [Nat.add_mul, Nat.one_mul]
    _ ≤ n * q := Nat.mul_le_mul_right _ hu
theorem wk_of (hn : 0 < n) : ∀ (w : List Nat) (u : Nat), u < n → Kinds q w → Wk q n c w.length (goTo q n u w) (sumTo q n c u w) := by
  have main : ∀ (w : List Nat) (u k : Nat) (y : Int), Wk q n c k u y → u < n → Kinds q w → Wk q n c (k + w.length) (goTo q n u w) (y + sumTo q n c u w) := by
    intro w
    induction w with
    | nil =>
      intro u k y h _ _
      show Wk q n c k u (y + 0)
      rw [Int.add_zero]
      exact h
    | cons a w ih =>
      intro u k y h hu hk
      have ha : a < q := hk a List.mem_cons_self
      have h1 : Wk q n c (k + 1) ((u * q + a) % n) (y + c (u * q + a)) := by
        refine Wk.step (word_lt hu ha) ?_
        have e : (u * q + a) / q = u := by rw [Nat.mul_comm, Nat.mul_add_div (by omega), Nat.div_eq_of_lt ha, Nat.add_zero]
        rw [e]
        exact h
      have h2 := ih _ _ _ h1 (Nat.mod_lt _ hn) fun x hx => hk x (List.mem_cons_of_mem _ hx)
      rw [List.length_cons, show k + (w.length + 1) = k + 1 + w.length by omega]
      show Wk q n c _ _ (y + (c (u * q + a) + sumTo q n c _ w))
      rw [← Int.add_assoc]
      exact h2
  intro w u hu hk
  have h := main w u 0 0 (.nil hu) hu hk
  rw [Nat.zero_add, Int.zero_add] at h
  exact h
theorem of_wk (hq : 0 < q) {k v : Nat} {y : Int} (h : Wk q n c k v y) : v < n ∧ ∃ u w, u < n ∧ Kinds q w ∧ w.length = k ∧ goTo q n u w = v ∧ sumTo q n c u w = y := by
  induction h with
  | nil hv => exact ⟨hv, _, [], hv, (fun x hx => by cases hx), rfl, rfl, rfl⟩
  | @step k x y hx _ ih =>
    obtain ⟨hv, u, w, hu, hk, hl, hg, hs⟩ := ih
    have hn : 0 < n := by omega
    refine ⟨Nat.mod_lt _ hn, u, w ++ [x % q], hu, hk.append (fun z hz => ?_), by rw [List.length_append, hl]; rfl, ?_, ?_⟩
    · rw [List.mem_singleton] at hz
      rw [hz]
      exact Nat.mod_lt _ hq
    · rw [goTo_append, hg]
      show (x / q * q + x % q) % n = x % n
      rw [Nat.mul_comm, Nat.div_add_mod]
    · rw [sumTo_append, hg, hs]
      show y + (c (x / q * q + x % q) + 0) = _
      rw [Nat.mul_comm, Nat.div_add_mod, Int.add_zero]
/-- a long way goes round -/
theorem round_in (hn : 0 < n) {u : Nat} {w : List Nat} (hu : u < n) (h : n ≤ w.length) : ∃ a b d, w = a ++ (b ++ d) ∧ b ≠ [] ∧ b.length ≤ n ∧ goTo q n (goTo q n u a) b = goTo q n u a := by
  obtain ⟨i, j, hij, hj, e⟩ := pigeon n (fun i => goTo q n u (w.take i)) fun i _ => goTo_lt hn _ _ hu
  have e1 : w.take j = w.take i ++ (w.drop i).take (j - i) := by
    rw [show j = i + (j - i) by omega, List.take_add]
    congr 2
    omega
  refine ⟨w.take i, (w.drop i).take (j - i), w.drop j, ?_, ?_, ?_, ?_⟩
  · rw [← List.append_assoc, ← e1, List.take_append_drop]
  · intro z
    have := congrArg List.length z
    rw [List.length_take, List.length_drop] at this
    simp at this
    omega
  · rw [List.length_take]
    omega
  · rw [← goTo_append, ← e1]
    exact e.symm
theorem way_short (hn : 0 < n) (np : NoPos q n c) : ∀ (m : Nat) (w : List Nat) (u : Nat), w.length ≤ m → u < n → Kinds q w → ∃ w', w'.length < n ∧ Kinds q w' ∧ goTo q n u w' = goTo q n u w ∧ sumTo q n c u w ≤ sumTo q n c u w'
  | 0, w, u, hm, hu, hk => ⟨w, by omega, hk, rfl, Int.le_refl _⟩
  | m + 1, w, u, hm, hu, hk => by
    by_cases h : w.length < n
    · exact ⟨w, h, hk, rfl, Int.le_refl _⟩
    · obtain ⟨a, b, d, e, hb, _, hr⟩ := round_in (q := q) hn hu (show n ≤ w.length by omega)
      have hbl : 0 < b.length := List.length_pos_iff.mpr hb
      subst e
      have hl : (a ++ d).length ≤ m := by
        rw [List.length_append, List.length_append] at hm
        rw [List.length_append]
        omega
      obtain ⟨w', h1, h2, h3, h4⟩ := way_short hn np m (a ++ d) u hl hu (hk.left.append hk.right.right)
      refine ⟨w', h1, h2, ?_, ?_⟩
      · rw [h3, goTo_append, goTo_append, goTo_append, hr]
      · have h5 := np _ b (goTo_lt hn a u hu) hk.right.left hr
        rw [sumTo_append, sumTo_append, hr]
        rw [sumTo_append] at h4
        omega
theorem wk_short (hq : 0 < q) (hn : 0 < n) (np : NoPos q n c) {k v : Nat} {y : Int} (h : Wk q n c k v y) : ∃ k' y', k' < n ∧ y ≤ y' ∧ Wk q n c k' v y' := by
  obtain ⟨_, u, w, hu, hk, _, hg, hs⟩ := of_wk hq h
  obtain ⟨w', h1, h2, h3, h4⟩ := way_short hn np w.length w u (Nat.le_refl _) hu hk
  refine ⟨w'.length, sumTo q n c u w', h1, by omega, ?_⟩
  rw [← hg, ← h3]
  exact wk_of hn w' u hu h2
/-- each number is the sum of a walk to its node -/
def Att (q n : Nat) (c p : Nat → Int) : Prop := ∀ v, v < n → ∃ k, Wk q n c k v (p v)
/-- no walk of at most t edges has a greater sum -/
def Cov (q n : Nat) (c : Nat → Int) (t : Nat) (p : Nat → Int) : Prop := ∀ v k y, v < n → k ≤ t → Wk q n c k v y → y ≤ p v
theorem feas_of (hq : 0 < q) (np : NoPos q n c) {t : Nat} {p : Nat → Int} (ht : n ≤ t + 1) (ha : Att q n c p) (hc : Cov q n c t p) : Feas q n c p := fun x hx => by
  have hn : 0 < n := Nat.pos_of_mul_pos_right (Nat.lt_of_le_of_lt (Nat.zero_le _) hx)
  have hu : x / q < n := (Nat.div_lt_iff_lt_mul hq).mpr hx
  obtain ⟨k, hk⟩ := ha _ hu
  obtain ⟨k', y', h1, h2, h3⟩ := wk_short hq hn np (Wk.step hx hk)
  exact Int.le_trans h2 (hc _ _ _ (Nat.mod_lt _ hn) (by omega) h3)
end
end WL
/-! tight ways to a goal, the order of words -/
namespace WL
/-- from u there is a tight way of j kinds to goal -/
def Eb (q n : Nat) (T : Nat → Bool) (goal : Nat) : Nat → Nat → Bool
  | 0, u => u == goal
  | j + 1, u => decide (u < n) && (List.range q).any fun k => T (u * q + k) && Eb q n T goal j ((u * q + k) % n)
theorem eb_iff {q n goal : Nat} {T : Nat → Bool} (hn : 0 < n) : ∀ (j u : Nat), u < n → (Eb q n T goal j u = true ↔ ∃ w, w.length = j ∧ Kinds q w ∧ goTo q n u w = goal ∧ tightTo q n (fun x => T x = true) u w)
  | 0, u, hu => by
    refine ⟨fun h => ⟨[], rfl, fun x hx => (by cases hx), (by simpa [Eb] using h : u = goal), trivial⟩, fun ⟨w, hl, _, hg, _⟩ => ?_⟩
    have e : w = [] := List.length_eq_zero_iff.mp hl
    subst e
    simpa [Eb, goTo] using hg
  | j + 1, u, hu => by
    have ih := fun v hv => eb_iff (q := q) (goal := goal) (T := T) hn j v hv
    unfold Eb
    rw [decide_eq_true hu, Bool.true_and, List.any_eq_true]
    constructor
    · rintro ⟨k, hk, h⟩
      rw [List.mem_range] at hk
      rw [Bool.and_eq_true] at h
      obtain ⟨w, h1, h2, h3, h4⟩ := (ih _ (Nat.mod_lt _ hn)).mp h.2
      refine ⟨k :: w, by rw [List.length_cons, h1], fun x hx => ?_, h3, h.1, h4⟩
      rcases List.mem_cons.mp hx with e | e
      · rw [e]; exact hk
      · exact h2 x e
    · rintro ⟨w, hl, hk, hg, ht⟩
      match w, hl, hk, hg, ht with
      | k :: w, hl, hk, hg, ht =>
        refine ⟨k, List.mem_range.mpr (hk k List.mem_cons_self), ?_⟩
        rw [Bool.and_eq_true]
        exact ⟨ht.1, (ih _ (Nat.mod_lt _ hn)).mpr ⟨w, by simpa using hl, fun x hx => hk x (List.mem_cons_of_mem _ hx), hg, ht.2⟩⟩
theorem tightTo_append {q n : Nat} {T : Nat → Prop} : ∀ (a b : List Nat) (u : Nat), tightTo q n T u (a ++ b) ↔ tightTo q n T u a ∧ tightTo q n T (goTo q n u a) b
  | [], b, u => by simp [tightTo, goTo]
  | k :: a, b, u => by
    show T _ ∧ tightTo q n T _ (a ++ b) ↔ (T _ ∧ tightTo q n T _ a) ∧ tightTo q n T _ b
    rw [tightTo_append a b, and_assoc]
    rfl
theorem lexLt_append : ∀ {a b : List Nat} (x y : List Nat), lexLt a b → lexLt (a ++ x) (b ++ y)
  | [], _, _, _, h => by cases h
  | _ :: _, [], _, _, h => by cases h
  | a :: as, b :: bs, x, y, h => by
    rcases h with h | ⟨h1, h2⟩
    · exact .inl h
    · exact .inr ⟨h1, lexLt_append x y h2⟩
theorem lexLt_same : ∀ (c : List Nat) {x y : List Nat}, lexLt x y → lexLt (c ++ x) (c ++ y)
  | [], _, _, h => h
  | _ :: c, _, _, h => .inr ⟨rfl, lexLt_same c h⟩
theorem lexN_irr : ∀ c : List Nat, ¬ lexLt c c
  | [], h => by cases h
  | x :: c, h => h.elim (Nat.lt_irrefl x) fun h => lexN_irr c h.2
theorem lexLt_trans' : ∀ {a b c : List Nat}, lexLt a b → lexLt b c → lexLt a c
  | [], _, _, h, _ => by cases h
  | _ :: _, [], _, h, _ => by cases h
  | _ :: _, _ :: _, [], _, h => by cases h
  | a :: as, b :: bs, c :: cs, h1, h2 => by
    rcases h1 with h1 | ⟨h1, h1'⟩
    · rcases h2 with h2 | ⟨h2, _⟩
      · exact .inl (Nat.lt_trans h1 h2)
      · exact .inl (h2 ▸ h1)
    · rcases h2 with h2 | ⟨h2, h2'⟩
      · exact .inl (h1 ▸ h2)
      · exact .inr ⟨h1.trans h2, lexLt_trans' h1' h2'⟩
theorem lexLt_asymm {a b : List Nat} (h : lexLt a b) : ¬ lexLt b a := fun h' => lexN_irr _ (lexLt_trans' h h')
end WL
namespace WL
theorem tele {q n : Nat} {c p : Nat → Int} (hn : 0 < n) (hf : Feas q n c p) : ∀ (w : List Nat) (u : Nat), u < n → Kinds q w → p u + sumTo q n c u w ≤ p (goTo q n u w) ∧ (p u + sumTo q n c u w = p (goTo q n u w) → tightTo q n (fun x => p (x / q) + c x = p (x % n)) u w)
  | [], u, _, _ => ⟨by show p u + 0 ≤ p u; omega, fun _ => trivial⟩
  | k :: w, u, hu, hk => by
    have hkq : k < q := hk k List.mem_cons_self
    have hd : (u * q + k) / q = u := by rw [Nat.mul_comm, Nat.mul_add_div (by omega), Nat.div_eq_of_lt hkq, Nat.add_zero]
    have h1 := hf _ (word_lt hu hkq)
    rw [hd] at h1
    have h2 := tele hn hf w _ (Nat.mod_lt (u * q + k) hn) fun x hx => hk x (List.mem_cons_of_mem _ hx)
    have e1 : sumTo q n c u (k :: w) = c (u * q + k) + sumTo q n c ((u * q + k) % n) w := rfl
    have e2 : goTo q n u (k :: w) = goTo q n ((u * q + k) % n) w := rfl
    rw [e1, e2]
    refine ⟨by omega, fun h => ⟨?_, h2.2 (by omega)⟩⟩
    show p ((u * q + k) / q) + c (u * q + k) = _
    rw [hd]
    omega
theorem round_of_zero {q n : Nat} {c p : Nat → Int} (hn : 0 < n) (hf : Feas q n c p) {u : Nat} {w : List Nat} (hu : u < n) (hk : Kinds q w) (hg : goTo q n u w = u) (hs : sumTo q n c u w = 0) : Round q n (fun x => p (x / q) + c x = p (x % n)) u w :=
  ⟨hu, hk, hg, (tele hn hf w u hu hk).2 (by rw [hs, hg]; omega)⟩
theorem zero_of_round {q n : Nat} {c p : Nat → Int} (hn : 0 < n) : ∀ (w : List Nat) (u : Nat), u < n → Kinds q w → tightTo q n (fun x => p (x / q) + c x = p (x % n)) u w → p u + sumTo q n c u w = p (goTo q n u w)
  | [], u, _, _, _ => by show p u + 0 = p u; omega
  | k :: w, u, hu, hk, ht => by
    have hkq : k < q := hk k List.mem_cons_self
    have hd : (u * q + k) / q = u := by rw [Nat.mul_comm, Nat.mul_add_div (by omega), Nat.div_eq_of_lt hkq, Nat.add_zero]
    have h2 := zero_of_round (c := c) (p := p) hn w _ (Nat.mod_lt (u * q + k) hn) (fun x hx => hk x (List.mem_cons_of_mem _ hx)) ht.2
    have h1 : p ((u * q + k) / q) + c (u * q + k) = p ((u * q + k) % n) := ht.1
    rw [hd] at h1
    have e1 : sumTo q n c u (k :: w) = c (u * q + k) + sumTo q n c ((u * q + k) % n) w := rfl
    have e2 : goTo q n u (k :: w) = goTo q n ((u * q + k) % n) w := rfl
    rw [e1, e2]
    omega
end WL
/-- what the heap holds, by way of Same -/
local macro_rules | `(tactic| walk_at "hp") => `(tactic| first | assumption | exact L2.upd_same | ((refine (by assumption : L2.Same _ _) _ _ ?_); walk_at "hp"))
local macro_rules | `(tactic| walk_at "sm") => `(tactic| first | exact fun _ _ h => h | assumption | ((refine L2.Same.trans ?_ (by assumption : L2.Same _ _)); walk_at "sm"))
/-- a side condition on whole numbers -/
local macro_rules | `(tactic| walk_at "sc") => `(tactic| first | ((show (0 : Int) < _); omega) | (refine Or.inr ⟨?_, ?_⟩ <;> omega) | (refine Or.inl ⟨?_, ?_⟩ <;> omega) | (refine And.intro ?_ ?_ <;> omega))
local macro_rules | `(tactic| walk_at "cls") => `(tactic| first | exact (by assumption : WL.Txt _ _).cl_Rule | exact (by assumption : WL.Txt _ _).cl_Ring | exact (by assumption : WL.Txt _ _).cl_Sums)
local macro_rules | `(tactic| walk_at "noa") => `(tactic| first | exact (by assumption : WL.Txt _ _).n_Rule_own_many | exact (by assumption : WL.Txt _ _).n_Rule_own_width | exact (by assumption : WL.Txt _ _).n_Rule_own_table | exact (by assumption : WL.Txt _ _).n_Rule_own_first | exact (by assumption : WL.Txt _ _).n_Ring_own_many | exact (by assumption : WL.Txt _ _).n_Ring_own_cells | exact (by assumption : WL.Txt _ _).n_Sums_s_size | exact (by assumption : WL.Txt _ _).n_Sums_s_many | exact (by assumption : WL.Txt _ _).n_Sums_s_weights)
/-- one step of a reading -/
local macro_rules | `(tactic| walk_at "w1") => `(tactic| first
  | ((with_reducible refine' WL.w_var ?wh ?_); (case wh => exact rfl))
  | with_reducible refine WL.w_c ?_
  | with_reducible refine WL.w_op ?_
  | with_reducible refine WL.w_asg ?_
  | with_reducible refine WL.w_gname ?_
  | with_reducible refine WL.w_seq ?_
  | with_reducible refine WL.w_I0 ?_
  | with_reducible refine WL.w_cons ?_
  | with_reducible refine WL.w_nil ?_
  | with_reducible refine WL.w_cb ?_
  | with_reducible refine WL.w_call ?_
  | with_reducible refine WL.w_ret ?_
  | with_reducible refine WL.w_drop ?_
  | with_reducible refine WL.w_next ?_
  | with_reducible refine WL.w_test ?_
  | with_reducible refine WL.w_tB ?_
  | with_reducible refine WL.w_isBl ?_
  | with_reducible refine WL.w_eq ?_
  | with_reducible refine WL.w_ne ?_
  | with_reducible refine WL.w_if ?_
  | with_reducible refine WL.w_iteT ?_
  | with_reducible refine WL.w_iteF ?_
  | with_reducible refine WL.w_iteNT ?_
  | with_reducible refine WL.w_iteNF ?_
  | with_reducible refine WL.w_and ?_
  | with_reducible refine WL.w_or ?_
  | with_reducible refine WL.w_not ?_
  | with_reducible refine WL.w_andV ?_
  | with_reducible refine WL.w_orV ?_
  | with_reducible refine WL.w_notV ?_
  | with_reducible refine WL.w_ifx ?_
  | with_reducible refine WL.w_chain ?_
  | with_reducible refine WL.w_un ?_
  | with_reducible refine WL.w_U ?_
  | with_reducible refine WL.w_isN ?_
  | with_reducible refine WL.w_notN ?_
  | with_reducible refine WL.w_par ?_
  | with_reducible refine WL.w_parAt ?_
  | with_reducible refine WL.w_tup ?_
  | with_reducible refine WL.w_lst ?_
  | with_reducible refine WL.w_for ?_
  | with_reducible refine WL.w_lc ?_
  | with_reducible refine WL.w_lc2 ?_
  | with_reducible refine WL.w_meth ?_
  | with_reducible refine WL.w_din ?_
  | with_reducible refine WL.w_callW ?_
  | with_reducible refine WL.w_pcons ?_
  | with_reducible refine WL.w_pnil ?_
  | with_reducible refine WL.w_dnin ?_
  | with_reducible refine WL.w_dget ?_
  | with_reducible refine WL.w_dput ?_
  | with_reducible refine WL.w_keys ?_
  | with_reducible refine WL.w_vals ?_
  | with_reducible refine WL.w_dc ?_
  | with_reducible refine WL.w_rng3 ?_
  | ((with_reducible refine WL.w_dnew ?_); intro _ _ _ _ _)
  | ((with_reducible refine' WL.w_keysAt ?wh ?_); (case wh => walk_at "hp"))
  | ((with_reducible refine' WL.w_valsAt ?wh ?_); (case wh => walk_at "hp"))
  | with_reducible refine WL.w_make ?_
  | with_reducible refine WL.w_enum ?_
  | with_reducible refine WL.w_enumT ?_
  | ((with_reducible refine' WL.w_enumAt ?wh ?_); (case wh => walk_at "hp"))
  | ((with_reducible refine' WL.w_enumTAt ?wh ?_); (case wh => walk_at "hp"))
  | ((with_reducible refine' WL.w_methAt ?w1 ?w2 ?_); (case w1 => walk_at "hp"); (case w2 => assumption))
  | with_reducible refine WL.w_zip ?_
  | with_reducible refine WL.w_iTup ?_
  | with_reducible refine WL.w_iLst ?_
  | with_reducible refine WL.w_rng1 ?_
  | with_reducible refine WL.w_rng2 ?_
  | with_reducible refine WL.w_sl ?_
  | with_reducible refine WL.w_part ?_
  | with_reducible refine WL.w_partI ?_
  | with_reducible refine WL.w_noPart ?_
  | with_reducible refine WL.w_yes ?_
  | with_reducible refine WL.w_abs ?_
  | with_reducible refine WL.w_int ?_
  | with_reducible refine WL.w_max2 ?_
  | with_reducible refine WL.w_min2 ?_
  | with_reducible refine WL.w_gsub ?_
  | with_reducible refine WL.w_fld ?_
  | ((with_reducible refine' WL.w_I ?wh ?_); (case wh => walk_at "sc"))
  | with_reducible refine WL.w_isiI ?_
  | with_reducible refine WL.w_isiB ?_
  | with_reducible refine WL.w_sfld ?_
  | with_reducible refine WL.w_prop ?_
  | with_reducible refine WL.w_gcons ?_
  | with_reducible refine WL.w_gnil ?_
  | ((with_reducible refine' WL.w_gtup ?w1 ?w2 ?_); (case w1 => walk_at "hp"); (case w2 => exact rfl))
  | ((with_reducible refine' WL.w_propAt ?w1 ?w2 ?_); (case w1 => walk_at "hp"); (case w2 => assumption))
  | ((with_reducible refine' WL.w_fldAt ?w1 ?w2 ?w3 ?w4 ?_); (case w1 => walk_at "hp"); (case w2 => walk_at "cls"); (case w3 => walk_at "noa"); (case w4 => assumption))
  | ((with_reducible refine' WL.w_lenT ?wh ?_); (case wh => walk_at "hp"))
  | ((with_reducible refine' WL.w_lenL ?wh ?_); (case wh => walk_at "hp"))
  | ((with_reducible refine' WL.w_iTupAt ?wh ?_); (case wh => walk_at "hp"))
  | ((with_reducible refine' WL.w_iLstAt ?wh ?_); (case wh => walk_at "hp"))
  | ((with_reducible refine' WL.w_tupL ?wh ?_); (case wh => walk_at "hp"); intro _ _ _ _)
  | ((with_reducible refine' WL.w_newT ?wh ?_); (case wh => exact rfl); intro _ _ _ _)
  | ((with_reducible refine' WL.w_newL ?wh ?_); (case wh => exact rfl); intro _ _ _ _ _)
  | ((with_reducible refine' WL.w_bmL ?wh ?wk ?_); (case wh => exact rfl); (case wk => walk_at "hp"))
  | ((with_reducible refine' WL.w_isiT ?wh ?_); (case wh => walk_at "hp")))
local macro_rules | `(tactic| walk_at "wl") => `(tactic| repeat walk_at "w1")
/-- the same, up to an if -/
local macro_rules | `(tactic| walk_at "wm") => `(tactic| repeat ((fail_if_success (with_reducible refine WL.w_if ?_)); walk_at "w1"))
/-! the words module -/
namespace WL
open PySem PySem.Spec PyProof.Rows L2
open C8 (Cal Met Mak pe_c pe_mk pe_mt pe_mt0 pe_gc)
abbrev nV (n : Nat) : V := .int (n : Int)
/-- a word in the heap -/
def W : Rl (List Nat) := fun H v w => ∃ a, v = .ref a ∧ H a = some (.tup (w.map nV))
theorem mono_W : Mono W := fun H H' v d s ⟨a, e, h⟩ => ⟨a, e, s _ _ h⟩
theorem firm_W : Firm W := fun H D xs zs v d e ⟨a, ev, h⟩ => ⟨a, ev, firm_at e h⟩
theorem btw {a i b : Int} (h : a ≤ i ∧ i ≤ b) : (decide (a ≤ i) && decide (i ≤ b)) = true := by simp [h.1, h.2]
theorem take_snoc {α : Type} {l : List α} {i : Nat} {x : α} (e : l[i]? = some x) : l.take (i + 1) = l.take i ++ [x] := by
  rw [List.take_succ, e]
  rfl
theorem nV_at {l : List Nat} {i : Nat} {x : V} (e : (l.map nV)[i]? = some x) : ∃ n, x = nV n ∧ l[i]? = some n := by
  rw [List.getElem?_map] at e
  cases h : l[i]? with
  | none => rw [h] at e; cases e
  | some n => rw [h] at e; cases e; exact ⟨n, rfl, rfl⟩
theorem nV_get {l : List Nat} {i : Nat} (h : i < l.length) : (l.map nV)[i]? = some (nV (l.getD i 0)) := by
  rw [List.getElem?_map, List.getD_eq_getElem?_getD, List.getElem?_eq_getElem h] <;> rfl
section
variable {P : Program} {w : World} {K : PySem.W.Frag} {mg : Str → Option Value} {base : Heap}
abbrev sp_number_in : Sp := fun vs H Q _ => ∃ (q : Nat) (p : V) (w : List Nat), vs = [.int (q : Int), p] ∧ W H p w ∧ q ≤ 3 ∧ Q (.int (num q w : Nat)) H
theorem ok_number_in (T : Txt K mg) : Cal P w K mg base 1 "number_in" sp_number_in [] := by
  refine cal_of T.f_number_in T.g_number_in rfl rfl sc_number_in (fun _ _ _ _ _ _ us hl => match us, hl with | [_, _], _ => rfl) (fun vs H Q E h => ?_) (fun cdv A outer s H vs Q E hr h => ⟨_, (pss_cons (ps_set (i := 2) sc_number_in.nd rfl (Or.inl rfl) pe_int)
      (pss_cons (ps_for PassesOwn.never rfl (pi_tupK (K := K) rfl (pv 1)) (pg_name (i := 3) sc_number_in.nd rfl (.inl rfl)) (pss_one (ps_set (i := 2) sc_number_in.nd rfl (Or.inl rfl) (pe_op op_add (pe_op op_mul (pv 2) (pv 0)) (pv 3)))))
      (pss_one (ps_ret (pv 2))))), ?_⟩)
  · obtain ⟨q, p, w, rfl, _⟩ := h
    rfl
  · obtain ⟨q, p, wd, rfl, ⟨a, rfl, ha⟩, hq, k⟩ := h
    walk_at "wl"
    refine f_tup (fun i σ H' => H' = H ∧ ∃ z, σ = [some (.int q), some (.ref a), some (nV (num q (wd.take i))), z]) (fun i σ H' _ h => h.1 ▸ ha) ⟨rfl, _, rfl⟩ ?_ ?_
    · rintro i x σ H' hi e ⟨rfl, z, rfl⟩
      obtain ⟨n, rfl, e2⟩ := nV_at e
      walk_at "wl"
      refine ⟨rfl, some (nV n), ?_⟩
      rw [take_snoc e2, num_snoc]
      simp
    · rintro σ H' ⟨rfl, z, rfl⟩
      walk_at "wl"
      rw [List.length_map, List.take_length]
      exact k
abbrev sp_is_number : Sp := fun vs H Q _ => ∃ i, vs = [.int i] ∧ Q (.bl true) H
theorem ok_is_number (T : Txt K mg) : Cal P w K mg base 1 "is_number" sp_is_number [] := by
  refine cal_of T.f_is_number T.g_is_number rfl rfl sc_is_number (fun _ _ _ _ _ _ us hl => match us, hl with | [_], _ => rfl) (fun vs H Q E h => ?_) (fun cdv A outer s H vs Q E hr h => ⟨_, (pss_one (ps_ret (pe_and (pe_callB (cl_isiK (K := K) rfl) (by rfl) T.b_isinstance (by decide +kernel) (pa_cons (pv 0) (pa_cons (pe_bltn (v := .ty "int") (by rfl) T.b_int (by decide +kernel) rfl) pa_nil))) (pe_one (pe_not (pe_callB (cl_isiK (K := K) rfl) (by rfl) T.b_isinstance (by decide +kernel) (pa_cons (pv 0) (pa_cons (pe_bltn (v := .ty "bool") (by rfl) T.b_bool (by decide +kernel) rfl) pa_nil)))))))), ?_⟩)
  · obtain ⟨i, rfl, _⟩ := h
    rfl
  · obtain ⟨i, rfl, k⟩ := h
    walk_at "wl"
    exact k
abbrev sp_is_between : Sp := fun vs H Q _ => ∃ i a b : Int, vs = [.int i, .int a, .int b] ∧ Q (.bl (decide (a ≤ i) && decide (i ≤ b))) H
theorem ok_is_between (T : Txt K mg) : Cal P w K mg base 2 "is_between" sp_is_between [] := by
  refine cal_of T.f_is_between T.g_is_between rfl rfl sc_is_between (fun _ _ _ _ _ _ us hl => match us, hl with | [_, _, _], _ => rfl) (fun vs H Q E h => ?_) (fun cdv A outer s H vs Q E hr h => ⟨_, (pss_one (ps_ret (pe_and (pe_c (ok_is_number T) hr (by decide) rfl (pa_cons (pv 0) pa_nil)) (pe_one (pe_chain op_le op_le (pv 1) (pv 0) (pv 2)))))), ?_⟩)
  · obtain ⟨i, a, b, rfl, _⟩ := h
    rfl
  · obtain ⟨i, a, b, rfl, k⟩ := h
    walk_at "wl"
    refine ⟨_, rfl, ?_⟩
    walk_at "wl"
    by_cases h1 : a ≤ i
    · rw [if_pos (decide_eq_true h1)]
      walk_at "wl"
      rw [decide_eq_true h1] at k
      exact k
    · rw [if_neg (by simpa using h1)]
      rw [decide_eq_false h1] at k
      exact k
abbrev sp_is_pair : Sp := fun vs H Q _ => ∃ a x y, vs = [.ref a] ∧ H a = some (.tup [x, y]) ∧ Q (.bl true) H
theorem ok_is_pair (T : Txt K mg) : Cal P w K mg base 1 "is_pair" sp_is_pair [] := by
  refine cal_of T.f_is_pair T.g_is_pair rfl rfl sc_is_pair (fun _ _ _ _ _ _ us hl => match us, hl with | [_], _ => rfl) (fun vs H Q E h => ?_) (fun cdv A outer s H vs Q E hr h => ⟨_, (pss_one (ps_ret (pe_and (pe_callB (cl_isiK (K := K) rfl) (by rfl) T.b_isinstance (by decide +kernel) (pa_cons (pv 0) (pa_cons (pe_bltn (v := .ty "tuple") (by rfl) T.b_tuple (by decide +kernel) rfl) pa_nil))) (pe_one (pe_cmpR op_eq (pe_callB (cl_lenK (K := K) rfl) (by rfl) T.b_len (by decide +kernel) (pa_cons (pv 0) pa_nil)) pe_int (nomark _)))))), ?_⟩)
  · obtain ⟨a, x, y, rfl, _⟩ := h
    rfl
  · obtain ⟨a, x, y, rfl, ha, k⟩ := h
    walk_at "wl"
    exact k
abbrev sp_is_word : Sp := fun vs H Q _ => ∃ (q : Nat) (p : V) (u : List Nat), vs = [.int q, p] ∧ W H p u ∧ Kinds q u ∧ u.length < 100000 ∧ ∀ H', Same H H' → Q (.bl true) H'
theorem ok_is_word (T : Txt K mg) : Cal P w K mg base 3 "is_word" sp_is_word [] := by
  refine cal_of T.f_is_word T.g_is_word rfl rfl sc_is_word (fun _ _ _ _ _ _ us hl => match us, hl with | [_, _], _ => rfl) (fun vs H Q E h => ?_) (fun cdv A outer s H vs Q E hr h => ⟨_, (pss_one (ps_ret (pe_and (pe_callB (cl_isiK (K := K) rfl) (by rfl) T.b_isinstance (by decide +kernel) (pa_cons (pv 1) (pa_cons (pe_bltn (v := .ty "tuple") (by rfl) T.b_tuple (by decide +kernel) rfl) pa_nil))) (pe_one (pe_callB (cl_allK (K := K) rfl rfl) (by rfl) T.b_all (by decide +kernel) (pa_cons (pe_lc (own := [("kind", 2)]) (g := (gName 2)) (tt := tYes) rfl sc_is_word.nd (pi_tupK (K := K) rfl (pv 1)) (blkOk_by (N := N_is_word) (sc := defScope s_is_word) (own := [("kind", 2)]) (by decide +kernel)) (fun _ _ _ _ _ => (pg_name (i := 2) sc_is_word.nd rfl (.inl rfl))) (fun _ _ _ _ _ => pts_nil) (fun _ _ _ _ _ => (pe_c (ok_is_between T) hr (by decide) rfl (pa_cons (pv 2) (pa_cons pe_int (pa_cons (pe_op op_sub (pv 0) pe_int) pa_nil)))))) pa_nil)))))), ?_⟩)
  · obtain ⟨q, p, u, rfl, _⟩ := h
    rfl
  · obtain ⟨q, p, u, rfl, ⟨a, rfl, ha⟩, hu, hn, k⟩ := h
    walk_at "wl"
    refine lc_tup RBool mono_bool firm_bool (fun _ => true) ha (by simpa using hn) (fun _ => rfl) (fun i x H2 hi hx s2 A hA => ?_) (fun b ys H' hb s l al => ?_)
    · obtain ⟨n, rfl, hx2⟩ := nV_at hx
      walk_at "wl"
      refine ⟨_, _, _, rfl, ?_⟩
      refine hA _ _ (by walk_at "sm") ?_
      have := hu n (List.mem_of_getElem? hx2)
      show V.bl _ = V.bl _
      congr 1
      simp
      omega
    · walk_at "wl"
      refine ⟨b, _, rfl, sqL (by rw [bool_items al] at l; exact l), ?_⟩
      have e : (((List.range (List.map nV u).length).map fun _ => true).all id) = true := by
        rw [List.all_eq_true]
        intro x hx
        rw [List.mem_map] at hx
        obtain ⟨_, _, rfl⟩ := hx
        rfl
      rw [e]
      exact k _ (by walk_at "sm")
abbrev sp_need_kinds : Sp := fun vs H Q _ => ∃ (q : Nat), vs = [.int q] ∧ (q = 2 ∨ q = 3) ∧ Q .non H
theorem ok_need_kinds (T : Txt K mg) : Cal P w K mg base 3 "need_kinds" sp_need_kinds [] := by
  refine cal_of T.f_need_kinds T.g_need_kinds rfl rfl sc_need_kinds (fun _ _ _ _ _ _ us hl => match us, hl with | [_], _ => rfl) (fun vs H Q E h => ?_) (fun cdv A outer s H vs Q E hr h => ⟨_, (pss_one (ps_if (pt_not (pt_val (pe_c (ok_is_between T) hr (by decide) rfl (pa_cons (pv 0) (pa_cons pe_int (pa_cons pe_int pa_nil)))))) pss_never pss_nil)), ?_⟩)
  · obtain ⟨q, rfl, _⟩ := h
    rfl
  · obtain ⟨q, rfl, hq, k⟩ := h
    walk_at "wl"
    refine ⟨_, _, _, rfl, ?_⟩
    rw [btw ⟨by omega, by omega⟩]
    walk_at "wl"
    exact k
abbrev sp_power_of : Sp := fun vs H Q _ => ∃ (q t : Nat), vs = [.int q, .int t] ∧ q ≤ 100 ∧ t ≤ 100 ∧ Q (.int (q ^ t : Nat)) H
theorem ok_power_of (T : Txt K mg) : Cal P w K mg base 1 "power_of" sp_power_of [] := by
  refine cal_of T.f_power_of T.g_power_of rfl rfl sc_power_of (fun _ _ _ _ _ _ us hl => match us, hl with | [_, _], _ => rfl) (fun vs H Q E h => ?_) (fun cdv A outer s H vs Q E hr h => ⟨_, (pss_cons (ps_set (i := 2) sc_power_of.nd rfl (Or.inl rfl) pe_int)
      (pss_cons (ps_for PassesOwn.never rfl (pi_range1 rfl T.b_range (pa_cons (pv 1) pa_nil)) (pg_name (i := 3) sc_power_of.nd rfl (.inl rfl)) (pss_one (ps_set (i := 2) sc_power_of.nd rfl (Or.inl rfl) (pe_op op_mul (pv 2) (pv 0)))))
      (pss_one (ps_ret (pv 2))))), ?_⟩)
  · obtain ⟨q, t, rfl, _⟩ := h
    rfl
  · obtain ⟨q, t, rfl, hq, ht, k⟩ := h
    walk_at "wl"
    refine w_rngAt t rfl (by omega) ?_
    refine f_rng (fun i σ H' => H' = H ∧ ∃ z, σ = [some (.int q), some (.int t), some (nV (q ^ i)), z]) ⟨rfl, _, rfl⟩ ?_ ?_
    · rintro i σ H' hi ⟨rfl, z, rfl⟩
      walk_at "wl"
      refine ⟨rfl, some (nV i), ?_⟩
      rw [Nat.pow_succ]
      simp
    · rintro σ H' ⟨rfl, z, rfl⟩
      walk_at "wl"
      exact k
theorem wordOf_succ (q l n : Nat) : wordOf q (l + 1) n = wordOf q l (n / q) ++ [n % q] := rfl
theorem wordOf_length (q : Nat) : ∀ l n, (wordOf q l n).length = l
  | 0, _ => rfl
  | l + 1, n => by
    unfold wordOf
    rw [List.length_append, wordOf_length q l (n / q)]
    rfl
abbrev sp_word_of : Sp := fun vs H Q _ => ∃ (q l n : Nat), vs = [.int q, .int l, .int n] ∧ (q = 2 ∨ q = 3) ∧ l ≤ 1000 ∧ ∀ v H', Same H H' → W H' v (wordOf q l n) → Q v H'
theorem ok_word_of (T : Txt K mg) : Cal P w K mg base 1 "word_of" sp_word_of [] := by
  refine cal_of T.f_word_of T.g_word_of rfl rfl sc_word_of (fun _ _ _ _ _ _ us hl => match us, hl with | [_, _, _], _ => rfl) (fun vs H Q E h => ?_) (fun cdv A outer s H vs Q E hr h => ⟨_, (pss_cons (ps_set (i := 3) sc_word_of.nd rfl (Or.inl rfl) (pe_lst pa_nil))
      (pss_cons (ps_for PassesOwn.never rfl (pi_range1 rfl T.b_range (pa_cons (pv 1) pa_nil)) (pg_name (i := 4) sc_word_of.nd rfl (.inl rfl)) (pss_cons (ps_expr (pe_bm PySem.F.plainAttrs_list PySem.F.slot_list_append PySem.F.type_list_append mt_append (pv 3) (pa_cons (pe_op op_mod (pv 2) (pv 0)) pa_nil)))
      (pss_one (ps_set (i := 2) sc_word_of.nd rfl (Or.inl rfl) (pe_op op_fdiv (pv 2) (pv 0))))))
      (pss_one (ps_ret (pe_callTy (cl_tupleK (K := K) rfl) (by rfl) T.b_tuple (by decide +kernel) (pa_cons (pe_revL (pv 3)) pa_nil)))))), ?_⟩)
  · obtain ⟨q, l, n, rfl, _⟩ := h
    rfl
  · obtain ⟨q, l, n, rfl, hq, hl, k⟩ := h
    walk_at "wl"
    rename_i D H1 hD s1 e1
    refine w_rngAt l rfl (by omega) ?_
    refine f_rng (fun i σ H' => Same H H' ∧ ∃ z xs, H' D = some (.lst (xs.map nV)) ∧ wordOf q l n = wordOf q (l - i) (n / q ^ i) ++ xs.reverse ∧ xs.length = i ∧ σ = [some (.int q), some (.int l), some (nV (n / q ^ i)), some (.ref D), z]) ⟨s1, _, [], e1, by simp, rfl, by simp; rfl⟩ ?_ ?_
    · rintro i σ H' hi ⟨s2, z, xs, e2, hw, hxl, rfl⟩
      walk_at "wl"
      refine w_app e2 (by rw [List.length_map]; omega) ?_
      walk_at "wl"
      refine ⟨Same.mut s2 hD, some (nV i), xs ++ [n / q ^ i % q], ?_, ?_, by simp [hxl], ?_⟩
      · rw [upd_same, List.map_append]
        rfl
      · rw [hw, show l - i = (l - (i + 1)) + 1 by omega, wordOf_succ, List.reverse_append, List.append_assoc, Nat.div_div_eq_div_mul, ← Nat.pow_succ]
        rfl
      · rw [Nat.pow_succ, ← Nat.div_div_eq_div_mul]
        simp
    · rintro σ H' ⟨s2, z, xs, e2, hw, hxl, rfl⟩
      walk_at "wl"
      refine w_revL e2 rfl fun p H3 s3 e3 => ?_
      walk_at "wl"
      rename_i p2 H4 s4 e4
      refine k _ _ (by walk_at "sm") ⟨p2, rfl, ?_⟩
      rw [e4, hw, Nat.sub_self, ← List.map_reverse]
      rfl
abbrev sp_all_words : Sp := fun vs H Q _ => ∃ (q l : Nat), vs = [.int q, .int l] ∧ (q = 2 ∨ q = 3) ∧ l ≤ 100 ∧ q ^ l < 100000 ∧ ∀ v H', Same H H' → RLst W H' v (allWords q l) → Q v H'
theorem ok_all_words (T : Txt K mg) : Cal P w K mg base 2 "all_words" sp_all_words [] := by
  refine cal_of T.f_all_words T.g_all_words rfl rfl sc_all_words (fun _ _ _ _ _ _ us hl => match us, hl with | [_, _], _ => rfl) (fun vs H Q E h => ?_) (fun cdv A outer s H vs Q E hr h => ⟨_, (pss_one (ps_ret (pe_lc (own := [("number", 2)]) (g := (gName 2)) (tt := tYes) rfl sc_all_words.nd (pi_range1 rfl T.b_range (pa_cons (pe_c (ok_power_of T) hr (by decide) rfl (pa_cons (pv 0) (pa_cons (pv 1) pa_nil))) pa_nil)) (blkOk_by (N := N_all_words) (sc := defScope s_all_words) (own := [("number", 2)]) (by decide +kernel)) (fun _ _ _ _ _ => (pg_name (i := 2) sc_all_words.nd rfl (.inl rfl))) (fun _ _ _ _ _ => pts_nil) (fun _ _ _ _ _ => (pe_c (ok_word_of T) hr (by decide) rfl (pa_cons (pv 0) (pa_cons (pv 1) (pa_cons (pv 2) pa_nil)))))))), ?_⟩)
  · obtain ⟨q, l, rfl, _⟩ := h
    rfl
  · obtain ⟨q, l, rfl, hq, hl, hs, k⟩ := h
    walk_at "wl"
    refine ⟨q, l, rfl, by omega, by omega, ?_⟩
    walk_at "wl"
    refine w_rngAt _ rfl hs ?_
    refine lc_rng W mono_W firm_W (wordOf q l) hs (fun _ => rfl) (fun i H2 hi s2 A hA => ?_) (fun b ys H' hb s l al => ?_)
    · walk_at "wl"
      exact ⟨q, l, i, rfl, hq, by omega, fun v H' s h => hA v H' s h⟩
    · walk_at "wl"
      exact k _ _ s ⟨b, ys, rfl, l, al⟩
abbrev sp_common_divisor : Sp := fun vs H Q _ => ∃ (a : Int) (b : Nat), vs = [.int a, .int b] ∧ 0 < b ∧ Q (.int (Nat.gcd a.natAbs b : Nat)) H
theorem ok_common_divisor (T : Txt K mg) : Cal P w K mg base 1 "common_divisor" sp_common_divisor [] := by
  refine cal_of T.f_common_divisor T.g_common_divisor rfl rfl sc_common_divisor (fun _ _ _ _ _ _ us hl => match us, hl with | [_, _], _ => rfl) (fun vs H Q E h => ?_) (fun cdv A outer s H vs Q E hr h => ⟨_, (pss_cons (ps_par (i := 0) (j := 1) rfl sc_common_divisor.nd rfl rfl (by decide) rfl rfl (pa_cons (pe_callB cl_abs (by rfl) T.b_abs (by decide +kernel) (pa_cons (pv 0) pa_nil)) (pa_cons (pe_callB cl_abs (by rfl) T.b_abs (by decide +kernel) (pa_cons (pv 1) pa_nil)) pa_nil)) (by rfl))
      (pss_cons (ps_while PassesOwn.never (pt_cmpR op_ne (pv 1) pe_int (nomark _)) (pss_one (ps_par (i := 0) (j := 1) rfl sc_common_divisor.nd rfl rfl (by decide) rfl rfl (pa_cons (pv 1) (pa_cons (pe_op op_mod (pv 0) (pv 1)) pa_nil)) (by rfl))))
      (pss_one (ps_ret (pv 0))))), ?_⟩)
  · obtain ⟨a, b, rfl, _⟩ := h
    rfl
  · obtain ⟨a, b, rfl, hb, k⟩ := h
    walk_at "wl"
    rw [abs_nat, abs_nat]
    refine w_while (fun m σ H' => H' = H ∧ ∃ x : Nat, σ = [some (nV x), some (nV m)] ∧ Nat.gcd x m = Nat.gcd a.natAbs b ∧ 0 < x + m) ⟨b, rfl, a.natAbs, rfl, rfl, by omega⟩ ?_
    rintro m σ H' ⟨rfl, x, rfl, hg, hp⟩
    walk_at "wl"
    refine w_iteN (fun hm => ?_) (fun hm => ?_)
    · refine w_whB ?_
      walk_at "wl"
      refine ⟨x % m, Nat.mod_lt _ (by omega), rfl, m, by simp, ?_, by omega⟩
      rw [← hg, Nat.gcd_comm x m, Nat.gcd_rec m x, Nat.gcd_comm]
    · walk_at "wl"
      have e : m = 0 := by omega
      subst e
      rw [Nat.gcd_zero_right] at hg
      rw [hg]
      exact k
end
end WL
/-! rings and rules -/
namespace WL
open PySem PySem.Spec PyProof.Rows L2
open C8 (Cal Met Mak pe_c pe_mk pe_mt pe_mt0 pe_gc)
section
variable {P : Program} {w : World} {K : PySem.W.Frag} {mg : Str → Option Value} {base : Heap}
/-- all but the object at x stays -/
def But (x : Addr) (H H' : Hp) : Prop := ∀ b o, b ≠ x → H b = some o → H' b = some o
/-- the fields of a ring -/
def RingAt (H : Hp) (fs : List (Str × V)) (q : Nat) (c : List Nat) : Prop := fs.lookup ("own_many" : Str) = some (.int q) ∧ ∃ b, fs.lookup ("own_cells" : Str) = some (.ref b) ∧ H b = some (.tup (c.map nV))
def RRing (K : PySem.W.Frag) : Rl (Nat × List Nat) := fun H v r => ∃ a dx fs, v = .ref a ∧ H a = some (.ins (He.ga K "Ring") dx fs) ∧ RingAt H fs r.1 r.2
structure RuleAt (H : Hp) (fs : List (Str × V)) (r : Ru) : Prop where
  many : fs.lookup ("own_many" : Str) = some (.int r.q)
  first : fs.lookup ("own_first" : Str) = some (.int r.f)
  width : fs.lookup ("own_width" : Str) = some (.int r.w)
  table : ∃ b, fs.lookup ("own_table" : Str) = some (.ref b) ∧ H b = some (.tup (r.t.map nV))
def RRule (K : PySem.W.Frag) : Rl Ru := fun H v r => ∃ a dx fs, v = .ref a ∧ H a = some (.ins (He.ga K "Rule") dx fs) ∧ RuleAt H fs r
theorem mono_ring : Mono (RRing K) := fun H H' v d s ⟨a, dx, fs, e, h, h1, b, h2, h3⟩ => ⟨a, dx, fs, e, s _ _ h, h1, b, h2, s _ _ h3⟩
theorem mono_rule : Mono (RRule K) := fun H H' v d s ⟨a, dx, fs, e, h, h1, h2, h3, b, h4, h5⟩ => ⟨a, dx, fs, e, s _ _ h, h1, h2, h3, b, h4, s _ _ h5⟩
abbrev sp_Ring_init (K : PySem.W.Frag) : Sp := fun vs H Q _ => ∃ (x dx : Addr) (q : Nat) (p : V) (c : List Nat), vs = [.ref x, .int q, p] ∧ H x = some (.ins (He.ga K "Ring") dx []) ∧ W H p c ∧ (q = 2 ∨ q = 3) ∧ Kinds q c ∧ 1 ≤ c.length ∧ c.length ≤ 100 ∧
  ∀ H' fs, But x H H' → H' x = some (.ins (He.ga K "Ring") dx fs) → RingAt H' fs q c → Q .non H'
theorem fn_Ring_init (T : Txt K mg) : ∃ fd, FnOk P w K mg base CX0 4 (He.fAd K d_RingQ_initQ.at_) fd p_RingQ_initQ (sp_Ring_init K) ∧ Binds K fd p_RingQ_initQ [] := by
  refine fnok_of T.f_RingQ_initQ rfl rfl sc_RingQ_initQ (fun _ _ _ _ _ _ us hl => match us, hl with | [_, _, _], _ => rfl) (fun vs H Q E h => ?_) (fun cdv A outer s H vs Q E hr h => ⟨_, (pss_cons (ps_expr (pe_c (ok_need_kinds T) hr (by decide) rfl (pa_cons (pv 1) pa_nil)))
      (pss_cons (ps_if (PW.pt (pw_or (pt_not (pt_val (pe_c (ok_is_word T) hr (by decide) rfl (pa_cons (pv 1) (pa_cons (pv 2) pa_nil))))) (pw_or1 (pt_not (pt_chain op_le op_le pe_int (pe_callB (cl_lenK (K := K) rfl) (by rfl) T.b_len (by decide +kernel) (pa_cons (pv 2) pa_nil)) (pe_gc rfl (gci T.i_MOST_ROUND))))))) pss_never pss_nil)
      (pss_cons (ps_fldK (K := K) rfl (pv 0) (pv 1) rfl)
      (pss_one (ps_fldK (K := K) rfl (pv 0) (pv 2) rfl))))), ?_⟩)
  · obtain ⟨x, dx, q, p, c, rfl, _⟩ := h
    rfl
  · obtain ⟨x, dx, q, p, c, rfl, hx, ⟨b, rfl, hb⟩, hq, hk, h1, h2, k⟩ := h
    walk_at "wl"
    refine ⟨q, rfl, hq, ?_⟩
    walk_at "wl"
    refine ⟨q, _, c, rfl, ⟨b, rfl, hb⟩, hk, by omega, fun H1 s1 => ?_⟩
    walk_at "wl"
    rw [decide_eq_true (by rw [List.length_map]; omega)]
    walk_at "wl"
    rw [decide_eq_true (by rw [List.length_map]; omega)]
    walk_at "wl"
    refine w_sfldAt (s1 _ _ hx) T.cl_Ring T.n_Ring_own_many (by show 0 < 1000; omega) ?_
    walk_at "wl"
    refine w_sfldAt upd_same T.cl_Ring T.n_Ring_own_cells (by show 1 < 1000; omega) ?_
    walk_at "wl"
    have nb : ∀ {o : HO}, H b = some o → o ≠ HO.ins (He.ga K "Ring") dx [] → b ≠ x := fun h1 h2 e => by
      subst e
      rw [hx] at h1
      exact h2 (Option.some.inj h1).symm
    refine k _ _ (fun a o ha h => ?_) upd_same ⟨?_, b, ?_, ?_⟩
    · rw [upd_ne ha, upd_ne ha]
      exact s1 _ _ h
    · rw [lookup_putF, if_neg (by decide), lookup_putF, if_pos rfl]
    · rw [lookup_putF, if_pos rfl]
    · have n1 := nb hb (by intro z; cases z)
      rw [upd_ne n1, upd_ne n1]
      exact s1 _ _ hb
theorem mk_Ring (T : Txt K mg) : Mak P w K mg base 4 "Ring" (He.ga K "Ring") (sp_Ring_init K) [] := mak_of (fn_Ring_init T) T.mk_Ring T.g_Ring
/-- a new ring, for a caller -/
theorem make_ring {H1 : Hp} {q : Nat} {c : List Nat} {p : V} {Q : VK} (hp : W H1 p c) (hq : q = 2 ∨ q = 3) (hk : Kinds q c) (h1 : 1 ≤ c.length) (h2 : c.length ≤ 100) (k : ∀ v H', Same H1 H' → RRing K H' v (q, c) → Q v H') :
    mkAt (He.ga K "Ring") (sp_Ring_init K) [.int q, p] H1 Q := fun x dx hx hdx hne => by
  obtain ⟨b, rfl, hb⟩ := hp
  have s1 : Same H1 (upd (upd H1 dx (.own x)) x (.ins (He.ga K "Ring") dx [])) := (same_upd hdx).trans (same_upd (by rw [upd_ne (Ne.symm hne)]; exact hx))
  refine ⟨x, dx, q, _, c, rfl, upd_same, ⟨b, rfl, s1 _ _ hb⟩, hq, hk, h1, h2, fun H' fs bt hx' ra => ⟨rfl, k _ _ (fun a o h => bt a o (ne_of_none h hx) (s1 _ _ h)) ⟨x, dx, fs, rfl, hx', ra⟩⟩⟩
abbrev sp_width_of : Sp := fun vs H Q _ => ∃ (q : Nat) (p : V) (t : List Nat) (n : Nat), vs = [.int q, p] ∧ W H p t ∧ (q = 2 ∨ q = 3) ∧ 1 ≤ n ∧ t.length = q ^ n ∧ q ^ (n - 1) ≤ 9 ∧ Q (.int n) H
theorem ok_width_of (T : Txt K mg) : Cal P w K mg base 1 "width_of" sp_width_of [] := by
  refine cal_of T.f_width_of T.g_width_of rfl rfl sc_width_of (fun _ _ _ _ _ _ us hl => match us, hl with | [_, _], _ => rfl) (fun vs H Q E h => ?_) (fun cdv A outer s H vs Q E hr h => ⟨_, (pss_cons (ps_par (i := 2) (j := 3) rfl sc_width_of.nd rfl rfl (by decide) rfl rfl (pa_cons pe_int (pa_cons (pv 0) pa_nil)) (by rfl))
      (pss_cons (ps_while PassesOwn.never (pt_cmpR op_lt (pv 3) (pe_callB (cl_lenK (K := K) rfl) (by rfl) T.b_len (by decide +kernel) (pa_cons (pv 1) pa_nil)) (nomark _)) (pss_one (ps_par (i := 2) (j := 3) rfl sc_width_of.nd rfl rfl (by decide) rfl rfl (pa_cons (pe_op op_add (pv 2) pe_int) (pa_cons (pe_op op_mul (pv 3) (pv 0)) pa_nil)) (by rfl))))
      (pss_one (ps_ret (pe_ifExp (PW.pt (pw_and (pt_cmpR op_eq (pv 3) (pe_callB (cl_lenK (K := K) rfl) (by rfl) T.b_len (by decide +kernel) (pa_cons (pv 1) pa_nil)) (nomark _)) (pw_and1 (pt_cmpR op_le (pv 3) (pe_op op_mul (pv 0) (pe_gc rfl (gci T.i_MOST_NODES_rules))) (nomark _))))) (pv 2) pe_non))))), ?_⟩)
  · obtain ⟨q, p, t, n, rfl, _⟩ := h
    rfl
  · obtain ⟨q, p, t, n, rfl, ⟨b, rfl, hb⟩, hq, hn, hl, h9, k⟩ := h
    walk_at "wl"
    refine w_while (fun m σ H' => H' = H ∧ ∃ i, i + m = n ∧ 1 ≤ i ∧ σ = [some (.int q), some (.ref b), some (nV i), some (nV (q ^ i))]) ⟨n - 1, rfl, 1, by omega, by omega, ?_⟩ ?_
    · rw [Nat.pow_one]
      rfl
    · rintro m σ H' ⟨rfl, i, hi, h1, rfl⟩
      have hpos : 0 < q := by omega
      walk_at "wl"
      rw [List.length_map, hl]
      refine w_iteD (fun hm => ?_) (fun hm => ?_)
      · refine w_whB ?_
        walk_at "wl"
        have : i ≠ n := by
          rintro rfl
          omega
        refine ⟨m - 1, by omega, rfl, i + 1, by omega, by omega, ?_⟩
        rw [Nat.pow_succ]
        simp
      · walk_at "wl"
        have e : i = n := by
          by_cases h : i < n
          · exfalso
            have : q ^ i < q ^ n := Nat.pow_lt_pow_right (by omega) h
            omega
          · omega
        subst e
        have h27 : q ^ i ≤ q * 729 := by
          have : q ^ i = q ^ (i - 1) * q := by rw [← Nat.pow_succ]; congr 1; omega
          rw [this]
          have := Nat.mul_le_mul_right q h9
          omega
        rw [List.length_map, hl, decide_eq_true rfl]
        walk_at "wl"
        rw [decide_eq_true (by omega)]
        walk_at "wl"
        exact k
end
end WL
/-! rules -/
namespace WL
open PySem PySem.Spec PyProof.Rows L2
open C8 (Cal Met Mak pe_c pe_mk pe_mt pe_mt0 pe_gc)
section
variable {P : Program} {w : World} {K : PySem.W.Frag} {mg : Str → Option Value} {base : Heap}
abbrev sp_Rule_init (K : PySem.W.Frag) : Sp := fun vs H Q _ => ∃ (x dx : Addr) (r : Ru) (p : V), vs = [.ref x, .int r.q, .int r.f, p] ∧ H x = some (.ins (He.ga K "Rule") dx []) ∧ W H p r.t ∧ r.Ok ∧
  ∀ H' fs, But x H H' → H' x = some (.ins (He.ga K "Rule") dx fs) → RuleAt H' fs r → Q .non H'
theorem Ru.Ok.small {r : Ru} (o : r.Ok) : r.t.length ≤ 27 := by
  have h1 := o.w1
  have h2 := o.size
  have e : r.q ^ r.w = r.q ^ (r.w - 1) * r.q := by rw [← Nat.pow_succ]; congr 1; omega
  rw [o.len, e]
  have := Nat.mul_le_mul_right r.q h2
  have := o.q2
  omega
theorem fn_Rule_init (T : Txt K mg) : ∃ fd, FnOk P w K mg base CX0 4 (He.fAd K d_RuleQ_initQ.at_) fd p_RuleQ_initQ (sp_Rule_init K) ∧ Binds K fd p_RuleQ_initQ [] := by
  refine fnok_of T.f_RuleQ_initQ rfl rfl sc_RuleQ_initQ (fun _ _ _ _ _ _ us hl => match us, hl with | [_, _, _, _], _ => rfl) (fun vs H Q E h => ?_) (fun cdv A outer s H vs Q E hr h => ⟨_, (pss_cons (ps_if (pt_not (pt_val (pe_c (ok_is_between T) hr (by decide) rfl (pa_cons (pv 1) (pa_cons pe_int (pa_cons pe_int pa_nil)))))) pss_never pss_nil)
      (pss_cons (ps_if (pt_not (pt_val (pe_c (ok_is_between T) hr (by decide) rfl (pa_cons (pv 2) (pa_cons (pe_op op_sub pe_int (pe_gc rfl (gci T.i_MOST_FIRST))) (pa_cons (pe_gc rfl (gci T.i_MOST_FIRST)) pa_nil)))))) pss_never pss_nil)
      (pss_cons (ps_if (PW.pt (pw_or (pt_not (pt_val (pe_c (ok_is_word T) hr (by decide) rfl (pa_cons (pv 1) (pa_cons (pv 3) pa_nil))))) (pw_or1 (pt_cmpR ol_isN (pe_c (ok_width_of T) hr (by decide) rfl (pa_cons (pv 1) (pa_cons (pv 3) pa_nil))) pe_non (nomark _))))) pss_never pss_nil)
      (pss_cons (ps_if (pt_cmpR op_gt (pe_op op_sub (pe_op op_add (pv 2) (pe_c (ok_width_of T) hr (by decide) rfl (pa_cons (pv 1) (pa_cons (pv 3) pa_nil)))) pe_int) (pe_gc rfl (gci T.i_MOST_FIRST)) (nomark _)) pss_never pss_nil)
      (pss_cons (ps_fldK (K := K) rfl (pv 0) (pv 1) rfl)
      (pss_cons (ps_fldK (K := K) rfl (pv 0) (pv 2) rfl)
      (pss_cons (ps_fldK (K := K) rfl (pv 0) (pv 3) rfl)
      (pss_one (ps_fldK (K := K) rfl (pv 0) (pe_c (ok_width_of T) hr (by decide) rfl (pa_cons (pv 1) (pa_cons (pv 3) pa_nil))) rfl))))))))), ?_⟩)
  · obtain ⟨x, dx, r, p, rfl, _⟩ := h
    rfl
  · obtain ⟨x, dx, r, p, rfl, hx, ⟨b, rfl, hb⟩, o, k⟩ := h
    have h27 := o.small
    have hq := o.q2
    have hf1 := o.f1
    have hf2 := o.f2
    have hw1 := o.w1
    walk_at "wl"
    refine ⟨_, _, _, rfl, ?_⟩
    rw [btw ⟨by omega, by omega⟩]
    walk_at "wl"
    refine ⟨_, _, _, rfl, ?_⟩
    rw [btw ⟨by omega, by omega⟩]
    walk_at "wl"
    refine ⟨r.q, _, r.t, rfl, ⟨b, rfl, hb⟩, o.kinds, by omega, fun H1 s1 => ?_⟩
    have wd : ∀ {H' : Hp} {Q' : VK}, Same H H' → Q' (.int r.w) H' → sp_width_of ([.int r.q, .ref b] ++ []) H' Q' C8.E0 := fun s k => ⟨r.q, _, r.t, r.w, rfl, ⟨b, rfl, s _ _ hb⟩, o.q2, o.w1, o.len, o.size, k⟩
    walk_at "wl"
    refine wd s1 ?_
    walk_at "wl"
    rw [decide_eq_false (by intro z; cases z)]
    walk_at "wl"
    refine wd s1 ?_
    walk_at "wl"
    rw [decide_eq_false (by omega)]
    walk_at "wl"
    refine w_sfldAt (s1 _ _ hx) T.cl_Rule T.n_Rule_own_many (by show 0 < 1000; omega) ?_
    walk_at "wl"
    refine w_sfldAt upd_same T.cl_Rule T.n_Rule_own_first (by show 1 < 1000; omega) ?_
    walk_at "wl"
    refine w_sfldAt upd_same T.cl_Rule T.n_Rule_own_table (by show 2 < 1000; omega) ?_
    walk_at "wl"
    have n1 : b ≠ x := fun e => by
      subst e
      rw [hx] at hb
      cases hb
    have hb3 : upd (upd (upd H1 x (.ins (He.ga K "Rule") dx (putF "own_many" (.int r.q) []))) x (.ins (He.ga K "Rule") dx (putF "own_first" (.int r.f) (putF "own_many" (.int r.q) [])))) x (.ins (He.ga K "Rule") dx (putF "own_table" (.ref b) (putF "own_first" (.int r.f) (putF "own_many" (.int r.q) [])))) b = some (.tup (r.t.map nV)) := by
      rw [upd_ne n1, upd_ne n1, upd_ne n1]
      exact s1 _ _ hb
    refine ⟨r.q, _, r.t, r.w, rfl, ⟨b, rfl, hb3⟩, o.q2, o.w1, o.len, o.size, ?_⟩
    walk_at "wl"
    refine w_sfldAt upd_same T.cl_Rule T.n_Rule_own_width (by show 3 < 1000; omega) ?_
    walk_at "wl"
    refine k _ _ (fun a o ha h => ?_) upd_same ⟨?_, ?_, ?_, b, ?_, ?_⟩
    · rw [upd_ne ha, upd_ne ha, upd_ne ha, upd_ne ha]
      exact s1 _ _ h
    · rw [lookup_putF, if_neg (by decide), lookup_putF, if_neg (by decide), lookup_putF, if_neg (by decide), lookup_putF, if_pos rfl]
    · rw [lookup_putF, if_neg (by decide), lookup_putF, if_neg (by decide), lookup_putF, if_pos rfl]
    · rw [lookup_putF, if_pos rfl]
    · rw [lookup_putF, if_neg (by decide), lookup_putF, if_pos rfl]
    · rw [upd_ne n1]
      exact hb3
theorem mk_Rule (T : Txt K mg) : Mak P w K mg base 4 "Rule" (He.ga K "Rule") (sp_Rule_init K) [] := mak_of (fn_Rule_init T) T.mk_Rule T.g_Rule
/-- a new rule, for a caller -/
theorem make_rule {H1 : Hp} {r : Ru} {p : V} {Q : VK} (hp : W H1 p r.t) (o : r.Ok) (k : ∀ v H', Same H1 H' → RRule K H' v r → Q v H') :
    mkAt (He.ga K "Rule") (sp_Rule_init K) [.int r.q, .int r.f, p] H1 Q := fun x dx hx hdx hne => by
  obtain ⟨b, rfl, hb⟩ := hp
  have s1 : Same H1 (upd (upd H1 dx (.own x)) x (.ins (He.ga K "Rule") dx [])) := (same_upd hdx).trans (same_upd (by rw [upd_ne (Ne.symm hne)]; exact hx))
  refine ⟨x, dx, r, _, rfl, upd_same, ⟨b, rfl, s1 _ _ hb⟩, o, fun H' fs bt hx' ra => ⟨rfl, k _ _ (fun a o h => bt a o (ne_of_none h hx) (s1 _ _ h)) ⟨x, dx, fs, rfl, hx', ra⟩⟩⟩
abbrev sp_need_rule (K : PySem.W.Frag) : Sp := fun vs H Q _ => ∃ (v : V) (r : Ru), vs = [v] ∧ RRule K H v r ∧ Q .non H
theorem ok_need_rule (T : Txt K mg) : Cal P w K mg base 1 "need_rule" (sp_need_rule K) [] := by
  refine cal_of T.f_need_rule T.g_need_rule rfl rfl sc_need_rule (fun _ _ _ _ _ _ us hl => match us, hl with | [_], _ => rfl) (fun vs H Q E h => ?_) (fun cdv A outer s H vs Q E hr h => ⟨_, (pss_one (ps_if (pt_not (pt_val (pe_callB (cl_isiK (K := K) rfl) (by rfl) T.b_isinstance (by decide +kernel) (pa_cons (pv 0) (pa_cons (pe_glob (v := .ref _) (by rfl) T.g_Rule rfl) pa_nil))))) pss_never pss_nil)), ?_⟩)
  · obtain ⟨v, r, rfl, _⟩ := h
    rfl
  · obtain ⟨v, r, rfl, ⟨a, dx, fs, rfl, ha, hm, hf, hw, b, ht, hb⟩, k⟩ := h
    walk_at "wl"
    refine w_isiC ha T.is_Rule ?_
    walk_at "wl"
    exact k
abbrev sp_nodes_of (K : PySem.W.Frag) : Sp := fun vs H Q _ => ∃ (v : V) (r : Ru), vs = [v] ∧ RRule K H v r ∧ r.Ok ∧ Q (.int (r.q ^ (r.w - 1) : Nat)) H
theorem Ru.Ok.wide {r : Ru} (o : r.Ok) : r.w ≤ 5 := by
  have h1 := o.size
  by_cases h : r.w ≤ 5
  · exact h
  · exfalso
    have : 2 ^ 5 ≤ r.q ^ (r.w - 1) := Nat.le_trans (Nat.pow_le_pow_left (by have := o.q2; omega) 5) (Nat.pow_le_pow_right (by have := o.q2; omega) (by omega))
    omega
theorem ok_nodes_of (T : Txt K mg) : Cal P w K mg base 2 "nodes_of" (sp_nodes_of K) [] := by
  refine cal_of T.f_nodes_of T.g_nodes_of rfl rfl sc_nodes_of (fun _ _ _ _ _ _ us hl => match us, hl with | [_], _ => rfl) (fun vs H Q E h => ?_) (fun cdv A outer s H vs Q E hr h => ⟨_, (pss_one (ps_ret (pe_c (ok_power_of T) hr (by decide) rfl (pa_cons (pe_fldK (K := K) rfl (pv 0) rfl) (pa_cons (pe_op op_sub (pe_fldK (K := K) rfl (pv 0) rfl) pe_int) pa_nil))))), ?_⟩)
  · obtain ⟨v, r, rfl, _⟩ := h
    rfl
  · obtain ⟨v, r, rfl, ⟨a, dx, fs, rfl, ha, hm, hf, hw, b, ht, hb⟩, o, k⟩ := h
    have := o.w1
    have := o.wide
    have := o.q2
    walk_at "wl"
    refine ⟨r.q, r.w - 1, by rw [Int.natCast_sub (by omega)]; rfl, by omega, by omega, ?_⟩
    exact k
abbrev sp_need_size (K : PySem.W.Frag) : Sp := fun vs H Q _ => ∃ (v : V) (r : Ru), vs = [v] ∧ RRule K H v r ∧ r.Ok ∧ Q .non H
theorem ok_need_size (T : Txt K mg) : Cal P w K mg base 3 "need_size" (sp_need_size K) [] := by
  refine cal_of T.f_need_size T.g_need_size rfl rfl sc_need_size (fun _ _ _ _ _ _ us hl => match us, hl with | [_], _ => rfl) (fun vs H Q E h => ?_) (fun cdv A outer s H vs Q E hr h => ⟨_, (pss_one (ps_if (pt_cmpR op_gt (pe_c (ok_nodes_of T) hr (by decide) rfl (pa_cons (pv 0) pa_nil)) (pe_gc rfl (gci T.i_SIZE)) (nomark _)) pss_never pss_nil)), ?_⟩)
  · obtain ⟨v, r, rfl, _⟩ := h
    rfl
  · obtain ⟨v, r, rfl, hv, o, k⟩ := h
    walk_at "wl"
    refine ⟨_, r, rfl, hv, o, ?_⟩
    walk_at "wl"
    rw [decide_eq_false (by have := o.size; omega)]
    walk_at "wl"
    exact k
abbrev sp_told (K : PySem.W.Frag) : Sp := fun vs H Q _ => ∃ (v p : V) (r : Ru) (u : List Nat), vs = [v, p] ∧ RRule K H v r ∧ W H p u ∧ r.Ok ∧ num r.q u < r.t.length ∧ Q (.int (toldK r u)) H
theorem ok_told (T : Txt K mg) : Cal P w K mg base 2 "told" (sp_told K) [] := by
  refine cal_of T.f_told T.g_told rfl rfl sc_told (fun _ _ _ _ _ _ us hl => match us, hl with | [_, _], _ => rfl) (fun vs H Q E h => ?_) (fun cdv A outer s H vs Q E hr h => ⟨_, (pss_one (ps_ret (pe_ix (ix_tupK (K := K) rfl) (pe_fldK (K := K) rfl (pv 0) rfl) (pe_c (ok_number_in T) hr (by decide) rfl (pa_cons (pe_fldK (K := K) rfl (pv 0) rfl) (pa_cons (pv 1) pa_nil))) (fun _ _ => rfl)))), ?_⟩)
  · obtain ⟨v, p, r, u, rfl, _⟩ := h
    rfl
  · obtain ⟨v, p, r, u, rfl, ⟨a, dx, fs, rfl, ha, hm, hf, hw, b, ht, hb⟩, hp, o, hl, k⟩ := h
    walk_at "wl"
    refine ⟨r.q, _, u, rfl, hp, by have := o.q2; omega, ?_⟩
    refine w_ixT (num r.q u) rfl hb (nV_get hl) ?_
    exact k
end
end WL
/-! the steps of a rule -/
namespace WL
open PySem PySem.Spec PyProof.Rows L2
open C8 (Cal Met Mak pe_c pe_mk pe_mt pe_mt0 pe_gc)
theorem num_lt {q : Nat} (hq : 0 < q) {u : List Nat} (h : Kinds q u) : num q u < q ^ u.length := by
  have main : ∀ (u : List Nat) (a : Nat) (n : Nat), a < q ^ n → Kinds q u → u.foldl (fun a k => a * q + k) a < q ^ (n + u.length) := by
    intro u
    induction u with
    | nil => intro a n ha _; exact ha
    | cons k r ih =>
      intro a n ha hk
      rw [List.foldl_cons, List.length_cons, show n + (r.length + 1) = (n + 1) + r.length by omega]
      refine ih _ (n + 1) ?_ fun x hx => hk x (List.mem_cons_of_mem _ hx)
      have h1 := hk k (List.mem_cons_self)
      rw [Nat.pow_succ]
      calc a * q + k < a * q + q := by omega
        _ = (a + 1) * q := by rw [Nat.add_mul, Nat.one_mul]
        _ ≤ q ^ n * q := Nat.mul_le_mul_right q ha
  have h1 := main u 0 0 (by rw [Nat.pow_zero]; omega) h
  rw [Nat.zero_add] at h1
  exact h1
theorem Kinds.part {q : Nat} {u : List Nat} (h : Kinds q u) (i n : Nat) : Kinds q ((u.drop i).take n) := fun x hx => h x (List.mem_of_mem_drop (List.mem_of_mem_take hx))
theorem told_lt {r : Ru} (o : r.Ok) {u : List Nat} (h : Kinds r.q u) (hl : u.length = r.w) : num r.q u < r.t.length := by
  rw [o.len, ← hl]
  exact num_lt (by have := o.q2; omega) h
theorem toldK_lt {r : Ru} (o : r.Ok) (u : List Nat) : toldK r u < r.q := by
  unfold toldK
  rw [List.getD_eq_getElem?_getD]
  cases e : r.t[num r.q u]? with
  | none => have := o.q2; show 0 < r.q; omega
  | some x => exact o.kinds x (List.mem_of_getElem? e)
theorem stepWord_kinds {r : Ru} (o : r.Ok) (u : List Nat) : Kinds r.q (stepWord r u) := fun x hx => by
  unfold stepWord at hx
  rw [List.mem_map] at hx
  obtain ⟨i, _, rfl⟩ := hx
  exact toldK_lt o _
theorem stepWord_length (r : Ru) (u : List Nat) : (stepWord r u).length = u.length + 1 - r.w := by
  unfold stepWord
  rw [List.length_map, List.length_range]
section
variable {P : Program} {w : World} {K : PySem.W.Frag} {mg : Str → Option Value} {base : Heap}
abbrev sp_step_word (K : PySem.W.Frag) : Sp := fun vs H Q _ => ∃ (v p : V) (r : Ru) (u : List Nat), vs = [v, p] ∧ RRule K H v r ∧ W H p u ∧ r.Ok ∧ Kinds r.q u ∧ r.w ≤ u.length + 1 ∧ u.length < 10000 ∧ ∀ v' H', Same H H' → W H' v' (stepWord r u) → Q v' H'
theorem ok_step_word (T : Txt K mg) : Cal P w K mg base 3 "step_word" (sp_step_word K) [] := by
  refine cal_of T.f_step_word T.g_step_word rfl rfl sc_step_word (fun _ _ _ _ _ _ us hl => match us, hl with | [_, _], _ => rfl) (fun vs H Q E h => ?_) (fun cdv A outer s H vs Q E hr h => ⟨_, (pss_cons (ps_set (i := 2) sc_step_word.nd rfl (Or.inr rfl) (pe_fldK (K := K) rfl (pv 0) rfl))
      (pss_one (ps_ret (pe_callTy (cl_tupleK (K := K) rfl) (by rfl) T.b_tuple (by decide +kernel) (pa_cons (pe_lc (own := [("at", 3)]) (g := (gName 3)) (tt := tYes) rfl sc_step_word.nd (pi_range1 rfl T.b_range (pa_cons (pe_op op_add (pe_op op_sub (pe_callB (cl_lenK (K := K) rfl) (by rfl) T.b_len (by decide +kernel) (pa_cons (pv 1) pa_nil)) (pv 2)) pe_int) pa_nil)) (blkOk_by (N := N_step_word) (sc := defScope s_step_word) (own := [("at", 3)]) (by decide +kernel)) (fun _ _ _ _ _ => (pg_name (i := 3) sc_step_word.nd rfl (.inl rfl))) (fun _ _ _ _ _ => pts_nil) (fun _ _ _ _ _ => (pe_c (ok_told T) hr (by decide) rfl (pa_cons (pv 0) (pa_cons (pe_slice (sl_tupK (K := K) rfl) (pv 1) (po_some (pv 3)) (po_some (pe_op op_add (pv 3) (pv 2)))) pa_nil))))) pa_nil))))), ?_⟩)
  · obtain ⟨v, p, r, u, rfl, _⟩ := h
    rfl
  · obtain ⟨v, p, r, u, rfl, hv, ⟨c, rfl, hc⟩, o, hu, hw, hl, k⟩ := h
    obtain ⟨a, dx, fs, rfl, ha, ra⟩ := id hv
    obtain ⟨f1, f2, f3, b, ht, hb⟩ := ra
    have := o.w1
    have ml : (u.map nV).length = u.length := List.length_map _
    walk_at "wl"
    refine w_rngAt (u.length + 1 - r.w) (by omega) (by omega) ?_
    refine lc_rng RNat mono_nat firm_nat (fun i => toldK r ((u.drop i).take r.w)) (by omega) (fun _ => rfl) (fun i H2 hi s2 A hA => ?_) (fun b ys H' hb s l al => ?_)
    · walk_at "wl"
      refine w_slA i (i + r.w) rfl (by omega) (s2 _ _ hc) fun p2 H3 s3 e3 => ?_
      walk_at "wl"
      rw [← List.map_drop, ← List.map_take, Nat.add_sub_cancel_left] at e3
      refine ⟨_, _, r, (u.drop i).take r.w, rfl, mono_rule _ _ _ _ (s2.trans s3) hv, ⟨p2, rfl, e3⟩, o, told_lt o (hu.part _ _) ?_, hA _ _ s3 rfl⟩
      rw [List.length_take, List.length_drop]
      omega
    · walk_at "wl"
      rename_i p2 H3 s3 e3
      refine k _ _ (s.trans s3) ⟨p2, rfl, ?_⟩
      rw [e3, nat_items al]
      rfl
abbrev sp_ring_step (K : PySem.W.Frag) : Sp := fun vs H Q _ => ∃ (v p : V) (r : Ru) (c : List Nat), vs = [v, p] ∧ RRule K H v r ∧ W H p c ∧ r.Ok ∧ Kinds r.q c ∧ 1 ≤ c.length ∧ c.length ≤ 100 ∧ ∀ v' H', Same H H' → W H' v' (roundOf r c) → Q v' H'
theorem flat_length (m : Nat) (c : List Nat) : (List.replicate m c).flatten.length = m * c.length := by
  rw [List.length_flatten, List.map_replicate, List.sum_replicate_nat]
theorem flat_at {c : List Nat} (h : 0 < c.length) : ∀ (m i : Nat), i < m * c.length → (List.replicate m c).flatten[i]? = c[i % c.length]?
  | 0, i, hi => by omega
  | m + 1, i, hi => by
    rw [List.replicate_succ, List.flatten_cons, List.getElem?_append]
    split
    · rename_i h1
      rw [Nat.mod_eq_of_lt h1]
    · rename_i h1
      rw [flat_at h m _ (by rw [Nat.add_mul, Nat.one_mul] at hi; omega)]
      congr 1
      rw [← Nat.mod_eq_sub_mod (by omega)]
theorem round_eq (r : Ru) {c : List Nat} (h : 1 ≤ c.length) (hw : 1 ≤ r.w) :
    stepWord r (((List.replicate (3 + r.w / c.length) c).flatten.drop (r.f % c.length).toNat).take (c.length + r.w - 1)) = roundOf r c := by
  have hb : (r.f % c.length).toNat < c.length := by
    have h1 := Int.emod_lt_of_pos r.f (b := c.length) (by omega)
    have h0 := Int.emod_nonneg r.f (b := c.length) (by omega)
    omega
  have hL : (List.replicate (3 + r.w / c.length) c).flatten.length = 3 * c.length + r.w / c.length * c.length := by rw [flat_length, Nat.add_mul]
  have hdm : r.w < r.w / c.length * c.length + c.length := by
    have h1 := Nat.div_add_mod r.w c.length
    have h2 := Nat.mod_lt r.w (show c.length > 0 by omega)
    rw [Nat.mul_comm] at h1
    omega
  unfold stepWord roundOf
  rw [List.length_take, List.length_drop, hL]
  have e1 : min (c.length + r.w - 1) (3 * c.length + r.w / c.length * c.length - (r.f % c.length).toNat) + 1 - r.w = c.length := by omega
  rw [e1]
  refine List.map_congr_left fun k hk => ?_
  rw [List.mem_range] at hk
  congr 1
  refine List.ext_getElem? fun j => ?_
  rw [List.getElem?_take, List.getElem?_map]
  by_cases hj : j < r.w
  · rw [if_pos hj, List.getElem?_range hj, List.getElem?_drop, List.getElem?_take, if_pos (by omega), List.getElem?_drop, flat_at (by omega) _ _ (by rw [Nat.add_mul]; omega)]
    unfold cellAt
    show _ = some _
    have e2 : ((r.f % (c.length : Int)).toNat + (k + j)) % c.length = (((k : Int) + r.f + (j : Int)) % (c.length : Int)).toNat := by
      have h0 := Int.emod_nonneg r.f (b := c.length) (by omega)
      have h3 : (((r.f % (c.length : Int)).toNat + (k + j) : Nat) : Int) = r.f % c.length + (k + j) := by omega
      have h4 : ((((r.f % (c.length : Int)).toNat + (k + j)) % c.length : Nat) : Int) = ((k : Int) + r.f + j) % c.length := by
        rw [Int.natCast_emod, h3, Int.emod_add_emod]
        congr 1
        omega
      rw [← h4, Int.toNat_natCast]
    rw [e2]
    show _ = some (c.getD _ 0)
    rw [List.getD_eq_getElem?_getD]
    have h5 : (((k : Int) + r.f + (j : Int)) % (c.length : Int)).toNat < c.length := by
      rw [← e2]
      exact Nat.mod_lt _ (by omega)
    rw [List.getElem?_eq_getElem h5]
    rfl
  · rw [if_neg hj, List.getElem?_eq_none (by rw [List.length_range]; omega)]
    rfl
theorem ok_ring_step (T : Txt K mg) : Cal P w K mg base 4 "ring_step" (sp_ring_step K) [] := by
  refine cal_of T.f_ring_step T.g_ring_step rfl rfl sc_ring_step (fun _ _ _ _ _ _ us hl => match us, hl with | [_, _], _ => rfl) (fun vs H Q E h => ?_) (fun cdv A outer s H vs Q E hr h => ⟨_, (pss_cons (ps_par (i := 2) (j := 3) rfl sc_ring_step.nd rfl rfl (by decide) rfl rfl (pa_cons (pe_callB (cl_lenK (K := K) rfl) (by rfl) T.b_len (by decide +kernel) (pa_cons (pv 1) pa_nil)) (pa_cons (pe_fldK (K := K) rfl (pv 0) rfl) pa_nil)) (by rfl))
      (pss_cons (ps_set (i := 4) sc_ring_step.nd rfl (Or.inl rfl) (pe_op op_mod (pe_fldK (K := K) rfl (pv 0) rfl) (pv 2)))
      (pss_cons (ps_set (i := 5) sc_ring_step.nd rfl (Or.inl rfl) (pe_op (op_repTK (K := K) rfl) (pv 1) (pe_op op_add pe_int (pe_op op_fdiv (pv 3) (pv 2)))))
      (pss_one (ps_ret (pe_c (ok_step_word T) hr (by decide) rfl (pa_cons (pv 0) (pa_cons (pe_slice (sl_tupK (K := K) rfl) (pv 5) (po_some (pv 4)) (po_some (pe_op op_sub (pe_op op_add (pe_op op_add (pv 4) (pv 2)) (pv 3)) pe_int))) pa_nil)))))))), ?_⟩)
  · obtain ⟨v, p, r, c, rfl, _⟩ := h
    rfl
  · obtain ⟨v, p, r, c, rfl, hv, ⟨b0, rfl, hc⟩, o, hu, h1, hl, k⟩ := h
    obtain ⟨a, dx, fs, rfl, ha, ra⟩ := id hv
    obtain ⟨f1, f2, f3, b, ht, hb⟩ := ra
    have := o.w1
    have hwd := o.wide
    have ml : (c.map nV).length = c.length := List.length_map _
    have h0 := Int.emod_nonneg r.f (b := c.length) (by omega)
    have h2 := Int.emod_lt_of_pos r.f (b := c.length) (by omega)
    have h3 : r.w / c.length ≤ r.w := Nat.div_le_self _ _
    have hd : (r.w : Int) / (c.length : Int) = ((r.w / c.length : Nat) : Int) := (Int.natCast_ediv _ _).symm
    walk_at "wl"
    rw [ml]
    refine w_repT (3 + r.w / c.length) (by simp) hc ?_ (Nat.le_trans (by decide : 2 ≤ 3) (Nat.le_add_right _ _)) (by omega) (by omega) fun p2 H2 s2 e2 => ?_
    · intro z
      rw [List.map_eq_nil_iff] at z
      rw [z] at h1
      exact absurd h1 (by decide)
    walk_at "wl"
    refine w_slA (r.f % c.length).toNat ((r.f % c.length).toNat + (c.length + r.w - 1)) (by omega) (by omega) e2 fun p3 H3 s3 e3 => ?_
    walk_at "wl"
    refine ⟨_, _, r, (((List.replicate (3 + r.w / c.length) c).flatten.drop (r.f % c.length).toNat).take (c.length + r.w - 1)), rfl, mono_rule _ _ _ _ (s2.trans s3) hv, ⟨p3, rfl, ?_⟩, o, fun x hx => ?_, ?_, ?_, fun v' H' s' hw' => ?_⟩
    · rw [e3, Nat.add_sub_cancel_left, ← List.map_replicate, ← List.map_flatten, ← List.map_drop, ← List.map_take]
    · have q1 := List.mem_of_mem_drop (List.mem_of_mem_take hx)
      rw [List.mem_flatten] at q1
      obtain ⟨l, hl, hxl⟩ := q1
      rw [List.eq_of_mem_replicate hl] at hxl
      exact hu x hxl
    · have hL : (List.replicate (3 + r.w / c.length) c).flatten.length = 3 * c.length + r.w / c.length * c.length := by rw [flat_length, Nat.add_mul]
      have hdm : r.w < r.w / c.length * c.length + c.length := by
        have h1 := Nat.div_add_mod r.w c.length
        have h2 := Nat.mod_lt r.w (show c.length > 0 by omega)
        rw [Nat.mul_comm] at h1
        omega
      rw [List.length_take, List.length_drop, hL]
      omega
    · have := List.length_take_le (c.length + r.w - 1) ((List.replicate (3 + r.w / c.length) c).flatten.drop (r.f % c.length).toNat)
      omega
    · rw [round_eq r h1 o.w1] at hw'
      exact k _ _ ((s2.trans s3).trans s') hw'
end
end WL
/-! properties, gauges -/
namespace WL
open PySem PySem.Spec PyProof.Rows L2
open C8 (Cal Met Mak pe_c pe_mk pe_mt pe_mt0 pe_gc)
section
variable {P : Program} {w : World} {K : PySem.W.Frag} {mg : Str → Option Value} {base : Heap}
theorem get_of {name qual f : Str} {params : Arguments} {body : List Stmt} {scope : Scope} {g C : Addr} {p1 p2 p3 : Pos} (h : ∃ fd, FunD K name qual params body scope [] [] g fd) (S : FnScope ["self"] ["self"] scope) (c : Cls K C) (n : NoAttr K C f)
    (hb : body = [.Return (some (.Attribute (.Name "self" p1) f p2)) p3])
    (hbi : ∀ (kV doc pm : Value) (an : Option Addr) (cdv ct : Value) (us : List Value), us.length = ["self"].length → bindArgs (PySem.W.fnOf name qual params body scope .none kV doc pm an cdv ct) ⟨us, []⟩ = pure ((["self"] : List Str).zip us)) :
    ∃ fd, FnOk P w K mg base CX0 1 g fd ["self"] (getSp C f) ∧ Binds K fd ["self"] [] := by
  obtain ⟨fd, F⟩ := h
  refine ⟨fd, FunD.ok F S (fun vs H Q E h => ?_) fun cdv A outer s H vs Q E hr h => ?_, FunD.bindsN F hbi⟩
  · obtain ⟨a, dx, fs, v, e, _⟩ := h
    rw [e]
    rfl
  · obtain ⟨a, dx, fs, v, e, ea, l, q⟩ := h
    subst e
    subst hb
    refine ⟨_, pss_one (ps_ret (pe_fld (pe_var (i := 0) rfl ((S.par "self" (List.Mem.head _)).elim (fun z => .inl z) (fun z => .inr (.inl z)))) rfl)), ?_⟩
    exact ⟨.ref a, rfl, a, C, dx, fs, v, rfl, ea, c, n, l, q⟩
variable {X : Cx} {e : Expr} {pos : Pos} {ta : TE}
theorem prop_Rule_many {j : Nat} (T : Txt K mg) (e1 : X.K = K) (e2 : X.mg = mg) (hr : Room j X.A) (hk : 2 ≤ j) (he : PE X e ta) (hab : attributeBase e "many" X.env (eval e X.env) = eval e X.env := by rfl) : PE X (.Attribute e "many" pos) (tProp (He.ga K "Rule") (getSp (He.ga K "Rule") "own_many") [] C8.E0 ta) := by
  subst e1 e2
  obtain ⟨fd, F, b⟩ := get_of (P := X.prog) (w := X.w) (mg := X.mg) (base := X.base) T.gt_Rule_many sc_Rule_many T.cl_Rule T.n_Rule_own_many rfl (fun _ _ _ _ _ _ us hl => match us, hl with | [_], _ => rfl)
  exact pe_prop he T.cl_Rule T.pr_Rule_many F (hr.mono hk) b .nil pass0 hab
theorem prop_Rule_width {j : Nat} (T : Txt K mg) (e1 : X.K = K) (e2 : X.mg = mg) (hr : Room j X.A) (hk : 2 ≤ j) (he : PE X e ta) (hab : attributeBase e "width" X.env (eval e X.env) = eval e X.env := by rfl) : PE X (.Attribute e "width" pos) (tProp (He.ga K "Rule") (getSp (He.ga K "Rule") "own_width") [] C8.E0 ta) := by
  subst e1 e2
  obtain ⟨fd, F, b⟩ := get_of (P := X.prog) (w := X.w) (mg := X.mg) (base := X.base) T.gt_Rule_width sc_Rule_width T.cl_Rule T.n_Rule_own_width rfl (fun _ _ _ _ _ _ us hl => match us, hl with | [_], _ => rfl)
  exact pe_prop he T.cl_Rule T.pr_Rule_width F (hr.mono hk) b .nil pass0 hab
theorem prop_Ring_cells {j : Nat} (T : Txt K mg) (e1 : X.K = K) (e2 : X.mg = mg) (hr : Room j X.A) (hk : 2 ≤ j) (he : PE X e ta) (hab : attributeBase e "cells" X.env (eval e X.env) = eval e X.env := by rfl) : PE X (.Attribute e "cells" pos) (tProp (He.ga K "Ring") (getSp (He.ga K "Ring") "own_cells") [] C8.E0 ta) := by
  subst e1 e2
  obtain ⟨fd, F, b⟩ := get_of (P := X.prog) (w := X.w) (mg := X.mg) (base := X.base) T.gt_Ring_cells sc_Ring_cells T.cl_Ring T.n_Ring_own_cells rfl (fun _ _ _ _ _ _ us hl => match us, hl with | [_], _ => rfl)
  exact pe_prop he T.cl_Ring T.pr_Ring_cells F (hr.mono hk) b .nil pass0 hab
end
/-- a gauge in the heap -/
def RG : Rl Ga := fun H v g => ∃ a b, v = .ref a ∧ H a = some (.tup [nV g.l, .ref b]) ∧ H b = some (.tup (g.ws.map V.int))
theorem mono_G : Mono RG := fun H H' v d s ⟨a, b, e, h, h2⟩ => ⟨a, b, e, s _ _ h, s _ _ h2⟩
def RF : Rl (Int × Nat) := fun H v r => ∃ a, v = .ref a ∧ H a = some (.tup [.int r.1, nV r.2])
theorem mono_F : Mono RF := fun H H' v d s ⟨a, e, h⟩ => ⟨a, e, s _ _ h⟩
theorem int_at {l : List Int} {i : Nat} {x : V} (e : (l.map V.int)[i]? = some x) : ∃ n, x = V.int n ∧ l[i]? = some n := by
  rw [List.getElem?_map] at e
  cases h : l[i]? with
  | none => rw [h] at e; cases e
  | some n => rw [h] at e; cases e; exact ⟨n, rfl, rfl⟩
theorem int_get {l : List Int} {i : Nat} (h : i < l.length) : (l.map V.int)[i]? = some (V.int (l.getD i 0)) := by
  rw [List.getElem?_map, List.getD_eq_getElem?_getD, List.getElem?_eq_getElem h] <;> rfl
theorem pow_big {q n m : Nat} (hq : q = 2 ∨ q = 3) (h : q ^ n ≤ m) (hm : m < 1024) : n ≤ 9 := by
  by_cases c : n ≤ 9
  · exact c
  · exfalso
    have : 2 ^ 10 ≤ q ^ n := Nat.le_trans (Nat.pow_le_pow_left (by omega) 10) (Nat.pow_le_pow_right (by omega) (by omega))
    omega
section
variable {P : Program} {w : World} {K : PySem.W.Frag} {mg : Str → Option Value} {base : Heap}
abbrev sp_is_gauge : Sp := fun vs H Q _ => ∃ (q : Nat) (v : V) (g : Ga), vs = [.int q, v] ∧ (q = 2 ∨ q = 3) ∧ RG H v g ∧ g.Ok q ∧ ∀ H', Same H H' → Q (.bl true) H'
theorem ok_is_gauge (T : Txt K mg) : Cal P w K mg base 3 "is_gauge" sp_is_gauge [] := by
  refine cal_of T.f_is_gauge T.g_is_gauge rfl rfl sc_is_gauge (fun _ _ _ _ _ _ us hl => match us, hl with | [_, _], _ => rfl) (fun vs H Q E h => ?_) (fun cdv A outer s H vs Q E hr h => ⟨_, (pss_cons (ps_if (PW.pt (pw_or (pt_not (pt_val (pe_c (ok_is_pair T) hr (by decide) rfl (pa_cons (pv 1) pa_nil)))) (pw_or (pt_not (pt_val (pe_c (ok_is_between T) hr (by decide) rfl (pa_cons (pe_ix (ix_tupK (K := K) rfl) (pv 1) pe_int (fun _ _ => rfl)) (pa_cons pe_int (pa_cons (pe_gc rfl (gci T.i_MOST_LONG)) pa_nil)))))) (pw_or1 (pt_not (pt_val (pe_callB (cl_isiK (K := K) rfl) (by rfl) T.b_isinstance (by decide +kernel) (pa_cons (pe_ix (ix_tupK (K := K) rfl) (pv 1) pe_int (fun _ _ => rfl)) (pa_cons (pe_bltn (v := .ty "tuple") (by rfl) T.b_tuple (by decide +kernel) rfl) pa_nil))))))))) (pss_one (ps_ret pe_bl)) pss_nil)
      (pss_cons (ps_set (i := 2) sc_is_gauge.nd rfl (Or.inl rfl) (pe_c (ok_power_of T) hr (by decide) rfl (pa_cons (pv 0) (pa_cons (pe_ix (ix_tupK (K := K) rfl) (pv 1) pe_int (fun _ _ => rfl)) pa_nil))))
      (pss_one (ps_ret (pe_and (pe_cmpR op_le (pv 2) (pe_gc rfl (gci T.i_MOST_WORDS)) (nomark _)) (pe_and (pe_cmpR op_eq (pe_callB (cl_lenK (K := K) rfl) (by rfl) T.b_len (by decide +kernel) (pa_cons (pe_ix (ix_tupK (K := K) rfl) (pv 1) pe_int (fun _ _ => rfl)) pa_nil)) (pv 2) (nomark _)) (pe_one (pe_callB (cl_allK (K := K) rfl rfl) (by rfl) T.b_all (by decide +kernel) (pa_cons (pe_lc (own := [("weight", 3)]) (g := (gName 3)) (tt := tYes) rfl sc_is_gauge.nd (pi_tupK (K := K) rfl (pe_ix (ix_tupK (K := K) rfl) (pv 1) pe_int (fun _ _ => rfl))) (blkOk_by (N := N_is_gauge) (sc := defScope s_is_gauge) (own := [("weight", 3)]) (by decide +kernel)) (fun _ _ _ _ _ => (pg_name (i := 3) sc_is_gauge.nd rfl (.inl rfl))) (fun _ _ _ _ _ => pts_nil) (fun _ _ _ _ _ => (pe_c (ok_is_number T) hr (by decide) rfl (pa_cons (pv 3) pa_nil)))) pa_nil))))))))), ?_⟩)
  · obtain ⟨q, v, g, rfl, _⟩ := h
    rfl
  · obtain ⟨q, v, g, rfl, hq, ⟨a, b, rfl, ha, hb⟩, o, k⟩ := h
    have h9 := pow_big hq o.small (by decide)
    have h1 := o.l1
    have hs := o.small
    walk_at "wl"
    refine ⟨a, _, _, rfl, ha, ?_⟩
    walk_at "wl"
    refine w_ixT 0 rfl ha rfl ?_
    walk_at "wl"
    refine ⟨_, _, _, rfl, ?_⟩
    rw [btw ⟨by omega, by omega⟩]
    walk_at "wl"
    refine w_ixT 1 rfl ha rfl ?_
    walk_at "wl"
    refine w_ixT 0 rfl ha rfl ?_
    walk_at "wl"
    refine ⟨q, g.l, rfl, by omega, by omega, ?_⟩
    walk_at "wl"
    rw [decide_eq_true (by omega)]
    walk_at "wl"
    refine w_ixT 1 rfl ha rfl ?_
    walk_at "wl"
    rw [List.length_map, o.len, decide_eq_true rfl]
    walk_at "wl"
    refine w_ixT 1 rfl ha rfl ?_
    walk_at "wl"
    refine lc_tup RBool mono_bool firm_bool (fun _ => true) hb (by rw [List.length_map, o.len]; omega) (fun _ => rfl) (fun i x H2 hi hx s2 A hA => ?_) (fun b ys H' hb s l al => ?_)
    · obtain ⟨n, rfl, hx2⟩ := int_at hx
      walk_at "wl"
      exact ⟨_, rfl, hA _ _ (by walk_at "sm") rfl⟩
    · walk_at "wl"
      refine ⟨b, _, rfl, sqL (by rw [bool_items al] at l; exact l), ?_⟩
      have e : (((List.range (List.map V.int g.ws).length).map fun _ => true).all id) = true := by
        rw [List.all_eq_true]
        intro x hx
        rw [List.mem_map] at hx
        obtain ⟨_, _, rfl⟩ := hx
        rfl
      rw [e]
      exact k _ (by walk_at "sm")
abbrev sp_need_gauge : Sp := fun vs H Q _ => ∃ (q : Nat) (v : V) (g : Ga), vs = [.int q, v] ∧ (q = 2 ∨ q = 3) ∧ RG H v g ∧ g.Ok q ∧ ∀ H', Same H H' → Q .non H'
theorem ok_need_gauge (T : Txt K mg) : Cal P w K mg base 4 "need_gauge" sp_need_gauge [] := by
  refine cal_of T.f_need_gauge T.g_need_gauge rfl rfl sc_need_gauge (fun _ _ _ _ _ _ us hl => match us, hl with | [_, _], _ => rfl) (fun vs H Q E h => ?_) (fun cdv A outer s H vs Q E hr h => ⟨_, (pss_one (ps_if (pt_not (pt_val (pe_c (ok_is_gauge T) hr (by decide) rfl (pa_cons (pv 0) (pa_cons (pv 1) pa_nil))))) pss_never pss_nil)), ?_⟩)
  · obtain ⟨q, v, g, rfl, _⟩ := h
    rfl
  · obtain ⟨q, v, g, rfl, hq, hg, o, k⟩ := h
    walk_at "wl"
    refine ⟨q, _, g, rfl, hq, hg, o, fun H' s => ?_⟩
    walk_at "wl"
    exact k _ s
abbrev sp_lowest : Sp := fun vs H Q _ => ∃ (a : Int) (b : Nat), vs = [.int a, .int b] ∧ 0 < b ∧ b < 1000 ∧ ∀ v H', Same H H' → RF H' v (lowestF a b) → Q v H'
theorem ok_lowest (T : Txt K mg) : Cal P w K mg base 2 "lowest" sp_lowest [] := by
  refine cal_of T.f_lowest T.g_lowest rfl rfl sc_lowest (fun _ _ _ _ _ _ us hl => match us, hl with | [_, _], _ => rfl) (fun vs H Q E h => ?_) (fun cdv A outer s H vs Q E hr h => ⟨_, (pss_cons (ps_set (i := 2) sc_lowest.nd rfl (Or.inl rfl) (pe_c (ok_common_divisor T) hr (by decide) rfl (pa_cons (pv 0) (pa_cons (pv 1) pa_nil))))
      (pss_one (ps_ret (pe_tup (pa_cons (pe_op op_fdiv (pv 0) (pv 2)) (pa_cons (pe_op op_fdiv (pv 1) (pv 2)) pa_nil)))))), ?_⟩)
  · obtain ⟨a, b, rfl, _⟩ := h
    rfl
  · obtain ⟨a, b, rfl, hb, hb2, k⟩ := h
    have g1 : 0 < Nat.gcd a.natAbs b := Nat.gcd_pos_of_pos_right _ hb
    have g2 : Nat.gcd a.natAbs b ≤ b := Nat.gcd_le_right _ hb
    walk_at "wl"
    refine ⟨a, b, rfl, hb, ?_⟩
    walk_at "wl"
    rename_i p H' s' e'
    refine k _ _ s' ⟨p, rfl, ?_⟩
    rw [e']
    unfold lowestF
    simp
abbrev sp_nodes_in : Sp := fun vs H Q _ => ∃ (q : Nat) (v : V) (g : Ga), vs = [.int q, v] ∧ q ≤ 3 ∧ RG H v g ∧ 1 ≤ g.l ∧ g.l ≤ 100 ∧ Q (.int (q ^ (g.l - 1) : Nat)) H
theorem ok_nodes_in (T : Txt K mg) : Cal P w K mg base 2 "nodes_in" sp_nodes_in [] := by
  refine cal_of T.f_nodes_in T.g_nodes_in rfl rfl sc_nodes_in (fun _ _ _ _ _ _ us hl => match us, hl with | [_, _], _ => rfl) (fun vs H Q E h => ?_) (fun cdv A outer s H vs Q E hr h => ⟨_, (pss_one (ps_ret (pe_c (ok_power_of T) hr (by decide) rfl (pa_cons (pv 0) (pa_cons (pe_op op_sub (pe_ix (ix_tupK (K := K) rfl) (pv 1) pe_int (fun _ _ => rfl)) pe_int) pa_nil))))), ?_⟩)
  · obtain ⟨q, v, g, rfl, _⟩ := h
    rfl
  · obtain ⟨q, v, g, rfl, hq, ⟨a, b, rfl, ha, hb⟩, h1, h2, k⟩ := h
    walk_at "wl"
    refine w_ixT 0 rfl ha rfl ?_
    walk_at "wl"
    refine ⟨q, g.l - 1, by rw [Int.natCast_sub (by omega)]; rfl, by omega, by omega, k⟩
end
end WL
/-! gauges led, widened, taken from one another -/
namespace WL
open PySem PySem.Spec PyProof.Rows L2
open C8 (Cal Met Mak pe_c pe_mk pe_mt pe_mt0 pe_gc)
theorem wordOf_kinds {q : Nat} (hq : 0 < q) : ∀ l n, Kinds q (wordOf q l n)
  | 0, n => fun x hx => by cases hx
  | l + 1, n => fun x hx => by
    rw [wordOf_succ, List.mem_append] at hx
    rcases hx with hx | hx
    · exact wordOf_kinds hq l _ x hx
    · rw [List.mem_singleton] at hx
      rw [hx]
      exact Nat.mod_lt _ hq
theorem allWords_length (q l : Nat) : (allWords q l).length = q ^ l := by
  unfold allWords
  rw [List.length_map, List.length_range]
theorem allWords_at {q l i : Nat} (h : i < q ^ l) : (allWords q l)[i]? = some (wordOf q l i) := by
  unfold allWords
  rw [List.getElem?_map, List.getElem?_range h]
  rfl
section
variable {P : Program} {w : World} {K : PySem.W.Frag} {mg : Str → Option Value} {base : Heap}
abbrev sp_gauge_led (K : PySem.W.Frag) : Sp := fun vs H Q _ => ∃ (v u : V) (r : Ru) (g : Ga), vs = [v, u] ∧ RRule K H v r ∧ r.Ok ∧ RG H u g ∧ g.Ok r.q ∧ r.q ^ (g.l + r.w - 1) ≤ 729 ∧ ∀ v' H', Same H H' → RG H' v' (gaugeLed r g) → Q v' H'
theorem ok_gauge_led (T : Txt K mg) : Cal P w K mg base 4 "gauge_led" (sp_gauge_led K) [] := by
  refine cal_of T.f_gauge_led T.g_gauge_led rfl rfl sc_gauge_led (fun _ _ _ _ _ _ us hl => match us, hl with | [_, _], _ => rfl) (fun vs H Q E h => ?_) (fun cdv A outer s H vs Q E hr h => ⟨_, (pss_cons (ps_asg (pe_tup (pa_cons (pe_op op_sub (pe_op op_add (pe_ix (ix_tupK (K := K) rfl) (pv 1) pe_int (fun _ _ => rfl)) (prop_Rule_width T rfl rfl hr (by decide) (pv 0))) pe_int) (pa_cons (pe_ix (ix_tupK (K := K) rfl) (pv 1) pe_int (fun _ _ => rfl)) pa_nil))) (pg_tupK (K := K) (n := 2) rfl rfl (pgs_cons (pg_name (i := 2) sc_gauge_led.nd rfl (.inl rfl)) (pgs_cons (pg_name (i := 3) sc_gauge_led.nd rfl (.inr rfl)) pgs_nil))))
      (pss_cons (ps_setLc (i := 4) (own := [("word", 5)]) (g := (gName 5)) (tt := tYes) rfl sc_gauge_led.nd rfl rfl (sw_true rfl rfl rfl (by decide +kernel)) (pi_listK (K := K) rfl (pe_c (ok_all_words T) hr (by decide) rfl (pa_cons (prop_Rule_many T rfl rfl hr (by decide) (pv 0)) (pa_cons (pv 2) pa_nil)))) (blkOk_by (N := N_gauge_led) (sc := defScope s_gauge_led) (own := [("word", 5)]) (by decide +kernel)) (fun _ _ _ _ _ => (pg_name (i := 5) sc_gauge_led.nd rfl (.inl rfl))) (fun _ _ _ _ _ => pts_nil) (fun _ _ _ _ _ => (pe_c (ok_step_word T) hr (by decide) rfl (pa_cons (pv 0) (pa_cons (pv 5) pa_nil)))))
      (pss_one (ps_ret (pe_tup (pa_cons (pv 2) (pa_cons (pe_callTy (cl_tupleK (K := K) rfl) (by rfl) T.b_tuple (by decide +kernel) (pa_cons (pe_lc (own := [("word", 5)]) (g := (gName 5)) (tt := tYes) rfl sc_gauge_led.nd (pi_listK (K := K) rfl (pv 4)) (blkOk_by (N := N_gauge_led) (sc := defScope s_gauge_led) (own := [("word", 5)]) (by decide +kernel)) (fun _ _ _ _ _ => (pg_name (i := 5) sc_gauge_led.nd rfl (.inl rfl))) (fun _ _ _ _ _ => pts_nil) (fun _ _ _ _ _ => (pe_ix (ix_tupK (K := K) rfl) (pv 3) (pe_c (ok_number_in T) hr (by decide) rfl (pa_cons (prop_Rule_many T rfl rfl hr (by decide) (pv 0)) (pa_cons (pv 5) pa_nil))) (fun _ _ => rfl)))) pa_nil)) pa_nil))))))), ?_⟩)
  · obtain ⟨v, u, r, g, rfl, _⟩ := h
    rfl
  · obtain ⟨v, u, r, g, rfl, hv, o, ⟨c, b0, rfl, hc, hb0⟩, og, hs, k⟩ := h
    obtain ⟨a, dx, fs, rfl, ha, f1, f2, f3, b, ht, hb⟩ := id hv
    have hw := o.w1
    have hl := og.l1
    have h9 := pow_big o.q2 hs (by decide)
    have hq := o.q2
    walk_at "wl"
    refine w_ixT 0 rfl hc rfl ?_
    walk_at "wl"
    refine w_ixT 1 rfl hc rfl ?_
    walk_at "wl"
    rename_i p1 H1 s1 e1
    refine ⟨r.q, g.l + r.w - 1, by rw [Int.natCast_sub (by omega)]; rfl, o.q2, by omega, by omega, fun v1 H2 s2 hw1 => ?_⟩
    obtain ⟨a1, xs1, rfl, ha1, al1⟩ := hw1
    have hlen := al1.1
    rw [allWords_length] at hlen
    walk_at "wl"
    refine lc_lst W mono_W firm_W (fun i => stepWord r (wordOf r.q (g.l + r.w - 1) i)) ha1 (by omega) (fun _ => rfl) (fun i x H3 hi hx s3 A hA => ?_) (fun a2 ys H3 ha2 s3 l2 al2 => ?_)
    · walk_at "wl"
      have wx : W H2 x (wordOf r.q (g.l + r.w - 1) i) := al1.2 i x _ hx (allWords_at (by omega))
      refine ⟨_, _, r, wordOf r.q (g.l + r.w - 1) i, rfl, mono_rule _ _ _ _ ((s1.trans s2).trans s3) hv, mono_W _ _ _ _ s3 wx, o, wordOf_kinds (by omega) _ _, by rw [wordOf_length]; omega, by rw [wordOf_length]; omega, hA⟩
    · walk_at "wl"
      refine lc_lst RInt mono_int firm_int (fun i => g.at (num r.q (stepWord r (wordOf r.q (g.l + r.w - 1) i)))) l2 (by rw [al2.1, List.length_map, List.length_range]; omega) (fun _ => rfl) (fun i x H4 hi hx s4 A hA => ?_) (fun a3 zs H4 ha3 s4 l3 al3 => ?_)
      · have hi2 : i < xs1.length := by
          rw [al2.1, List.length_map, List.length_range] at hi
          exact hi
        have wx := al2.2 i x (stepWord r (wordOf r.q (g.l + r.w - 1) i)) hx (by rw [List.getElem?_map, List.getElem?_range hi2]; rfl)
        have s04 : Same H H4 := ((s1.trans s2).trans s3).trans s4
        have f1' := s04 _ _ ha
        walk_at "wl"
        refine ⟨r.q, x, _, rfl, mono_W _ _ _ _ s4 wx, by omega, ?_⟩
        walk_at "wl"
        refine w_ixT _ rfl (s04 _ _ hb0) (int_get ?_) ?_
        · rw [og.len]
          have := num_lt (q := r.q) (by omega) (stepWord_kinds o (wordOf r.q (g.l + r.w - 1) i))
          rw [stepWord_length, wordOf_length] at this
          rw [show g.l + r.w - 1 + 1 - r.w = g.l by omega] at this
          exact this
        · exact hA _ _ (fun _ _ h => h) rfl
      · walk_at "wl"
        rename_i p4 H5 s5 e5 p5 H6 s6 e6
        refine k _ _ (((((s1.trans s2).trans s3).trans s4).trans s5).trans s6) ⟨p5, p4, rfl, ?_, ?_⟩
        · rw [e6]
          congr 4
          show (g.l : Int) + r.w - 1 = ((g.l + r.w - 1 : Nat) : Int)
          omega
        · rw [s6 _ _ e5, int_items al3]
          congr 3
          unfold gaugeLed allWords
          rw [List.map_map]
          rw [al2.1, List.length_map, List.length_range, hlen]
          rfl
abbrev sp_less : Sp := fun vs H Q _ => ∃ (v u : V) (g h : Ga), vs = [v, u] ∧ RG H v g ∧ RG H u h ∧ g.ws.length = h.ws.length ∧ g.ws.length ≤ 729 ∧ ∀ v' H', Same H H' → RG H' v' (lessG g h) → Q v' H'
theorem ok_less (T : Txt K mg) : Cal P w K mg base 1 "less" sp_less [] := by
  refine cal_of T.f_less T.g_less rfl rfl sc_less (fun _ _ _ _ _ _ us hl => match us, hl with | [_, _], _ => rfl) (fun vs H Q E h => ?_) (fun cdv A outer s H vs Q E hr h => ⟨_, (pss_one (ps_ret (pe_tup (pa_cons (pe_ix (ix_tupK (K := K) rfl) (pv 0) pe_int (fun _ _ => rfl)) (pa_cons (pe_callTy (cl_tupleK (K := K) rfl) (by rfl) T.b_tuple (by decide +kernel) (pa_cons (pe_lc (own := [("mine", 2), ("yours", 3)]) (g := _) (tt := tYes) rfl sc_less.nd (pi_zipK (K := K) rfl (by rfl) T.b_zip (pa_cons (pe_ix (ix_tupK (K := K) rfl) (pv 0) pe_int (fun _ _ => rfl)) (pa_cons (pe_ix (ix_tupK (K := K) rfl) (pv 1) pe_int (fun _ _ => rfl)) pa_nil))) (blkOk_by (N := N_less) (sc := defScope s_less) (own := [("mine", 2), ("yours", 3)]) (by decide +kernel)) (fun _ _ _ _ _ => (pg_tupK (K := K) (n := 2) rfl rfl (pgs_cons (pg_name (i := 2) sc_less.nd rfl (.inl rfl)) (pgs_cons (pg_name (i := 3) sc_less.nd rfl (.inl rfl)) pgs_nil)))) (fun _ _ _ _ _ => pts_nil) (fun _ _ _ _ _ => (pe_op op_sub (pv 2) (pv 3)))) pa_nil)) pa_nil))))), ?_⟩)
  · obtain ⟨v, u, g, h, rfl, _⟩ := h
    rfl
  · obtain ⟨v, u, g, h, rfl, ⟨a, b, rfl, ha, hb⟩, ⟨c, d, rfl, hc, hd⟩, hl, h7, k⟩ := h
    walk_at "wl"
    refine w_ixT 0 rfl ha rfl ?_
    walk_at "wl"
    refine w_ixT 1 rfl ha rfl ?_
    walk_at "wl"
    refine w_ixT 1 rfl hc rfl ?_
    walk_at "wl"
    refine w_zipT hb hd ?_
    refine lc_zip RInt mono_int firm_int (fun i => g.at i - h.at i) hb hd (by simpa using hl) (by simp; omega) (fun _ _ => rfl) (fun i x y H2 hi hx hy s2 A hA => ?_) (fun a2 ys H3 ha2 s3 l2 al2 => ?_)
    · obtain ⟨n, rfl, hx2⟩ := int_at hx
      obtain ⟨n', rfl, hy2⟩ := int_at hy
      walk_at "wl"
      refine hA _ _ (fun _ _ h => h) ?_
      unfold Ga.at
      rw [List.getD_eq_getElem?_getD, List.getD_eq_getElem?_getD, hx2, hy2]
      rfl
    · walk_at "wl"
      rename_i p4 H5 s5 e5 p5 H6 s6 e6
      refine k _ _ ((s3.trans s5).trans s6) ⟨p5, p4, rfl, ?_, ?_⟩
      · rw [e6]
        rfl
      · rw [s6 _ _ e5, int_items al2]
        congr 3
        unfold lessG
        rw [List.length_map]
theorem flat_range {δ : Type} (f : Nat → δ) (m : Nat) (hm : 0 < m) : ∀ n, ((List.range n).flatMap fun i => (List.range m).map fun _ => f i) = (List.range (n * m)).map fun i => f (i / m)
  | 0 => by simp
  | n + 1 => by
    rw [List.range_succ, List.flatMap_append, flat_range f m hm n, Nat.add_mul, Nat.one_mul, List.range_add, List.map_append, List.map_map]
    congr 1
    rw [List.flatMap_cons, List.flatMap_nil, List.append_nil]
    refine List.map_congr_left fun j hj => ?_
    rw [List.mem_range] at hj
    show f n = f ((n * m + j) / m)
    congr 1
    rw [Nat.mul_comm, Nat.mul_add_div hm, Nat.div_eq_of_lt hj, Nat.add_zero]
abbrev sp_widened : Sp := fun vs H Q _ => ∃ (q : Nat) (v : V) (g : Ga) (l : Nat), vs = [.int q, v, .int l] ∧ (q = 2 ∨ q = 3) ∧ RG H v g ∧ g.Ok q ∧ g.l ≤ l ∧ q ^ l ≤ 729 ∧ ∀ v' H', Same H H' → RG H' v' (widen q g l) → Q v' H'
theorem ok_widened (T : Txt K mg) : Cal P w K mg base 2 "widened" sp_widened [] := by
  refine cal_of T.f_widened T.g_widened rfl rfl sc_widened (fun _ _ _ _ _ _ us hl => match us, hl with | [_, _, _], _ => rfl) (fun vs H Q E h => ?_) (fun cdv A outer s H vs Q E hr h => ⟨_, (pss_cons (ps_set (i := 3) sc_widened.nd rfl (Or.inr rfl) (pe_c (ok_power_of T) hr (by decide) rfl (pa_cons (pv 0) (pa_cons (pe_op op_sub (pv 2) (pe_ix (ix_tupK (K := K) rfl) (pv 1) pe_int (fun _ _ => rfl))) pa_nil))))
      (pss_one (ps_ret (pe_tup (pa_cons (pv 2) (pa_cons (pe_callTy (cl_tupleK (K := K) rfl) (by rfl) T.b_tuple (by decide +kernel) (pa_cons (pe_lc2 (own := [("weight", 4), ("turn", 5)]) (vs1 := [5]) (g := (gName 4)) (tt := tYes) (g1 := (gName 5)) (tt1 := tYes) rfl sc_widened.nd (pi_tupK (K := K) rfl (pe_ix (ix_tupK (K := K) rfl) (pv 1) pe_int (fun _ _ => rfl))) (blkOk_by (N := N_widened) (sc := defScope s_widened) (own := [("weight", 4), ("turn", 5)]) (by decide +kernel)) (by decide) (fun _ _ _ _ _ => (pg_name (i := 4) sc_widened.nd rfl (.inl rfl))) (fun _ _ _ _ _ => pts_nil) (fun _ _ _ _ _ => (pi_range1 rfl T.b_range (pa_cons (pv 3) pa_nil))) (fun _ _ _ _ _ => (pg_name (i := 5) sc_widened.nd rfl (.inl rfl))) (fun _ _ _ _ _ => pts_nil) (fun _ _ _ _ _ => (pv 4))) pa_nil)) pa_nil)))))), ?_⟩)
  · obtain ⟨q, v, g, l, rfl, _⟩ := h
    rfl
  · obtain ⟨q, v, g, l, rfl, hq, ⟨a, b, rfl, ha, hb⟩, o, hl, h7, k⟩ := h
    have h9 := pow_big hq h7 (by decide)
    have hp : 0 < q ^ (l - g.l) := Nat.pow_pos (by omega)
    have hx : q ^ g.l * q ^ (l - g.l) = q ^ l := by rw [← Nat.pow_add]; congr 1; omega
    walk_at "wl"
    refine w_ixT 0 rfl ha rfl ?_
    walk_at "wl"
    refine ⟨q, l - g.l, by rw [Int.natCast_sub hl]; rfl, by omega, by omega, ?_⟩
    walk_at "wl"
    refine w_ixT 1 rfl ha rfl ?_
    walk_at "wl"
    refine lc2_tr RInt mono_int firm_int (m := q ^ (l - g.l)) (fun i _ => g.at i) hb (by rw [List.length_map, o.len, hx]; omega) (fun _ => rfl) (fun _ _ => rfl) (fun i x H2 hx s2 S hS => ?_) (fun i j x H2 hx hj s2 A hA => ?_) (fun a2 ys H3 ha2 s3 l2 al2 => ?_)
    · walk_at "wl"
      refine w_rngAt _ rfl ?_ hS
      have : 1 * q ^ (l - g.l) ≤ q ^ g.l * q ^ (l - g.l) := Nat.mul_le_mul_right _ (Nat.pow_pos (by omega))
      omega
    · obtain ⟨n, rfl, hx2⟩ := int_at hx
      walk_at "wl"
      refine hA _ _ (fun _ _ h => h) ?_
      unfold Ga.at
      rw [List.getD_eq_getElem?_getD, hx2]
      rfl
    · walk_at "wl"
      rename_i p4 H5 s5 e5 p5 H6 s6 e6
      refine k _ _ ((s3.trans s5).trans s6) ⟨p5, p4, rfl, ?_, ?_⟩
      · rw [e6]
        rfl
      · rw [s6 _ _ e5, int_items al2, flat_range (fun i => g.at i) _ hp]
        congr 3
        unfold widen
        rw [List.length_map]
theorem led_ok {r : Ru} {g : Ga} (o : r.Ok) (og : g.Ok r.q) (h : r.q ^ (g.l + r.w - 1) ≤ 729) : (gaugeLed r g).Ok r.q := by
  have h1 := og.l1
  have h2 := o.w1
  refine ⟨by show 1 ≤ g.l + r.w - 1; omega, ?_, h⟩
  show ((allWords r.q (g.l + r.w - 1)).map _).length = r.q ^ (g.l + r.w - 1)
  rw [List.length_map, allWords_length]
abbrev sp_change_gauge (K : PySem.W.Frag) : Sp := fun vs H Q _ => ∃ (v u : V) (r : Ru) (g : Ga), vs = [v, u] ∧ RRule K H v r ∧ r.Ok ∧ RG H u g ∧ g.Ok r.q ∧ r.q ^ (g.l + r.w - 1) ≤ 729 ∧ ∀ v' H', Same H H' → RG H' v' (changeG r g) → Q v' H'
theorem ok_change_gauge (T : Txt K mg) : Cal P w K mg base 5 "change_gauge" (sp_change_gauge K) [] := by
  refine cal_of T.f_change_gauge T.g_change_gauge rfl rfl sc_change_gauge (fun _ _ _ _ _ _ us hl => match us, hl with | [_, _], _ => rfl) (fun vs H Q E h => ?_) (fun cdv A outer s H vs Q E hr h => ⟨_, (pss_cons (ps_set (i := 2) sc_change_gauge.nd rfl (Or.inl rfl) (pe_c (ok_gauge_led T) hr (by decide) rfl (pa_cons (pv 0) (pa_cons (pv 1) pa_nil))))
      (pss_one (ps_ret (pe_c (ok_less T) hr (by decide) rfl (pa_cons (pv 2) (pa_cons (pe_c (ok_widened T) hr (by decide) rfl (pa_cons (prop_Rule_many T rfl rfl hr (by decide) (pv 0)) (pa_cons (pv 1) (pa_cons (pe_ix (ix_tupK (K := K) rfl) (pv 2) pe_int (fun _ _ => rfl)) pa_nil)))) pa_nil)))))), ?_⟩)
  · obtain ⟨v, u, r, g, rfl, _⟩ := h
    rfl
  · obtain ⟨v, u, r, g, rfl, hv, o, hg, og, hs, k⟩ := h
    obtain ⟨a, dx, fs, rfl, ha, f1, f2, f3, b, ht, hb⟩ := id hv
    have hw := o.w1
    have hl := og.l1
    have oo := led_ok o og hs
    have hp : 0 < r.q ^ (g.l + r.w - 1 - g.l) := Nat.pow_pos (by have := o.q2; omega)
    have hx : r.q ^ g.l * r.q ^ (g.l + r.w - 1 - g.l) = r.q ^ (g.l + r.w - 1) := by rw [← Nat.pow_add]; congr 1; omega
    walk_at "wl"
    refine ⟨_, _, r, g, rfl, hv, o, hg, og, hs, fun v1 H1 s1 h1 => ?_⟩
    obtain ⟨c, d, rfl, hc, hd⟩ := id h1
    walk_at "wl"
    refine w_ixT 0 rfl hc rfl ?_
    walk_at "wl"
    refine ⟨r.q, u, g, g.l + r.w - 1, rfl, o.q2, mono_G _ _ _ _ s1 hg, og, by omega, hs, fun v2 H2 s2 h2 => ?_⟩
    walk_at "wl"
    refine ⟨_, _, _, _, rfl, mono_G _ _ _ _ s2 h1, h2, ?_, by rw [oo.len]; exact hs, fun v3 H3 s3 h3 => k _ _ ((s1.trans s2).trans s3) h3⟩
    rw [oo.len]
    show r.q ^ (g.l + r.w - 1) = ((List.range _).map _).length
    rw [List.length_map, List.length_range, og.len, hx]
end
end WL
/-! greatest sums: the state, the ways, a row longer -/
namespace WL
open PySem PySem.Spec PyProof.Rows L2
open C8 (Cal Met Mak pe_c pe_mk pe_mt pe_mt0 pe_gc)
theorem into_none {q n : Nat} {wt : Nat → Int} {row : Nat → Option Int} {v x : Nat} {o : Option Int} (h : Into q n wt row v x o) (e : row (x / q) = none ∨ x % n ≠ v) : Into q n wt row v (x + 1) o := by
  cases o with
  | none =>
    intro y hy hv
    by_cases hxy : y = x
    · subst hxy
      rcases e with e | e
      · exact e
      · exact absurd hv e
    · exact h y (by omega) hv
  | some m =>
    obtain ⟨⟨y, t, h1, h2, h3, h4⟩, h5⟩ := h
    refine ⟨⟨y, t, by omega, h2, h3, h4⟩, fun z u hz hv hr => ?_⟩
    by_cases hxy : z = x
    · subst hxy
      rcases e with e | e
      · rw [e] at hr
        cases hr
      · exact absurd hv e
    · exact h5 z u (by omega) hv hr
theorem into_take {q n : Nat} {wt : Nat → Int} {row : Nat → Option Int} {v x : Nat} {o : Option Int} {t : Int} (h : Into q n wt row v x o) (hv : x % n = v) (hr : row (x / q) = some t) (hm : ∀ m, o = some m → m < t + wt x) : Into q n wt row v (x + 1) (some (t + wt x)) := by
  refine ⟨⟨x, t, by omega, hv, hr, rfl⟩, fun z u hz hzv hzr => ?_⟩
  by_cases hxy : z = x
  · subst hxy
    rw [hr] at hzr
    cases hzr
    exact Int.le_refl _
  · cases o with
    | none =>
      have := h z (by omega) hzv
      rw [this] at hzr
      cases hzr
    | some m =>
      have h1 := h.2 z u (by omega) hzv hzr
      have h2 := hm m rfl
      omega
theorem into_keep {q n : Nat} {wt : Nat → Int} {row : Nat → Option Int} {v x : Nat} {m t : Int} (h : Into q n wt row v x (some m)) (hr : row (x / q) = some t) (hm : t + wt x ≤ m) : Into q n wt row v (x + 1) (some m) := by
  obtain ⟨⟨y, u, h1, h2, h3, h4⟩, h5⟩ := h
  refine ⟨⟨y, u, by omega, h2, h3, h4⟩, fun z u hz hzv hzr => ?_⟩
  by_cases hxy : z = x
  · subst hxy
    rw [hr] at hzr
    cases hzr
    exact hm
  · exact h5 z u (by omega) hzv hzr
/-- the kinds and the gauge of a state of sums -/
structure Sm where
  q : Nat
  g : Ga
abbrev Sm.n (s : Sm) : Nat := s.q ^ (s.g.l - 1)
structure Sm.Ok (s : Sm) : Prop where
  q2 : s.q = 2 ∨ s.q = 3
  l1 : 1 ≤ s.g.l
  len : s.g.ws.length = s.q ^ s.g.l
  few : s.n ≤ 60
theorem Sm.Ok.words {s : Sm} (o : s.Ok) : s.g.ws.length = s.n * s.q := by
  rw [o.len, ← Nat.pow_succ]
  congr 1
  have := o.l1
  omega
theorem Sm.Ok.pos {s : Sm} (o : s.Ok) : 0 < s.n := Nat.pow_pos (by have := o.q2; omega)
theorem Sm.Ok.word {s : Sm} (o : s.Ok) {u k : Nat} (hu : u < s.n) (hk : k < s.q) : u * s.q + k < s.g.ws.length := by
  rw [o.words]
  calc u * s.q + k < u * s.q + s.q := by omega
    _ = (u + 1) * s.q := by rw [Nat.add_mul, Nat.one_mul]
    _ ≤ s.n * s.q := Nat.mul_le_mul_right _ hu
def waysOf (s : Sm) (u : Nat) : List (Int × Nat) := (List.range s.q).map fun k => (s.g.at (u * s.q + k), (u * s.q + k) % s.n)
theorem word_div {q i j : Nat} (h : j < q) : (i * q + j) / q = i := by
  rw [Nat.mul_comm, Nat.mul_add_div (by omega), Nat.div_eq_of_lt h, Nat.add_zero]
theorem way_but {H H' : Hp} {D : Addr} {xs : List V} {x : V} {d : Int × Nat} (bt : But D H H') (e : H D = some (.lst xs)) (r : RP RInt RNat H x d) : RP RInt RNat H' x d := by
  obtain ⟨a, y, z, ev, ha, h1, h2⟩ := r
  exact ⟨a, y, z, ev, bt _ _ (ne_of ha e (by intro z; cases z)) ha, h1, h2⟩
theorem But.upd {H H' : Hp} {D : Addr} {o : HO} (b : But D H H') : But D H (upd H' D o) := fun a x ha h => by
  rw [upd_ne ha]
  exact b a x ha h
theorem But.rfl' {D : Addr} {H : Hp} : But D H H := fun _ _ _ h => h
structure SumsAt (H : Hp) (fs : List (Str × V)) (s : Sm) : Prop where
  many : fs.lookup ("s_many" : Str) = some (.int s.q)
  size : fs.lookup ("s_size" : Str) = some (.int s.n)
  wts : ∃ b, fs.lookup ("s_weights" : Str) = some (.ref b) ∧ H b = some (.tup (s.g.ws.map V.int))
  m1 : fs.lookup ("ways" : Str) = none
  m2 : fs.lookup ("longer" : Str) = none
  m3 : fs.lookup ("raised" : Str) = none
  m4 : fs.lookup ("least_round" : Str) = none
  m5 : fs.lookup ("greatest_fraction" : Str) = none
  m6 : fs.lookup ("shortest" : Str) = none
def RSums (K : PySem.W.Frag) : Rl Sm := fun H v s => ∃ a dx fs, v = .ref a ∧ H a = some (.ins (He.ga K "Sums") dx fs) ∧ SumsAt H fs s
theorem mono_sums {K : PySem.W.Frag} : Mono (RSums K) := fun H H' v d s ⟨a, dx, fs, e, h, h1, h2, ⟨b, h3, h4⟩, h5, h6, h7, h8, h9, h10⟩ => ⟨a, dx, fs, e, s _ _ h, h1, h2, ⟨b, h3, s _ _ h4⟩, h5, h6, h7, h8, h9, h10⟩
abbrev oV : Option Int → V
  | none => .non
  | some i => .int i
section
variable {P : Program} {w : World} {K : PySem.W.Frag} {mg : Str → Option Value} {base : Heap}
abbrev sp_Sums_init (K : PySem.W.Frag) : Sp := fun vs H Q _ => ∃ (x dx : Addr) (q : Nat) (p : V) (g : Ga), vs = [.ref x, .int q, p] ∧ H x = some (.ins (He.ga K "Sums") dx []) ∧ RG H p g ∧ (⟨q, g⟩ : Sm).Ok ∧
  ∀ H' fs, But x H H' → H' x = some (.ins (He.ga K "Sums") dx fs) → SumsAt H' fs ⟨q, g⟩ → Q .non H'
theorem Sm.Ok.long {s : Sm} (o : s.Ok) : s.g.l ≤ 10 := by
  have := pow_big o.q2 o.few (by decide)
  omega
theorem fn_Sums_init (T : Txt K mg) : ∃ fd, FnOk P w K mg base CX0 3 (He.fAd K d_SumsQ_initQ.at_) fd p_SumsQ_initQ (sp_Sums_init K) ∧ Binds K fd p_SumsQ_initQ [] := by
  refine fnok_of T.f_SumsQ_initQ rfl rfl sc_SumsQ_initQ (fun _ _ _ _ _ _ us hl => match us, hl with | [_, _, _], _ => rfl) (fun vs H Q E h => ?_) (fun cdv A outer s H vs Q E hr h => ⟨_, (pss_cons (ps_fldK (K := K) rfl (pv 0) (pv 1) rfl)
      (pss_cons (ps_fldK (K := K) rfl (pv 0) (pe_c (ok_nodes_in T) hr (by decide) rfl (pa_cons (pv 1) (pa_cons (pv 2) pa_nil))) rfl)
      (pss_one (ps_fldK (K := K) rfl (pv 0) (pe_ix (ix_tupK (K := K) rfl) (pv 2) pe_int (fun _ _ => rfl)) rfl)))), ?_⟩)
  · obtain ⟨x, dx, q, p, g, rfl, _⟩ := h
    rfl
  · obtain ⟨x, dx, q, p, g, rfl, hx, ⟨a, b, rfl, ha, hb⟩, o, k⟩ := h
    have ne : ∀ {c : Addr} {ys : List V}, H c = some (.tup ys) → c ≠ x := fun h1 e => by
      subst e
      rw [hx] at h1
      cases h1
    have na := ne ha
    have nb := ne hb
    have hl : g.l ≤ 10 := o.long
    walk_at "wl"
    refine w_sfldAt hx T.cl_Sums T.n_Sums_s_many (by show 0 < 1000; omega) ?_
    walk_at "wl"
    refine ⟨q, _, g, rfl, by have h2 : q = 2 ∨ q = 3 := o.q2; omega, ⟨a, b, rfl, ?_, ?_⟩, o.l1, by omega, ?_⟩
    · rw [upd_ne na]; exact ha
    · rw [upd_ne nb]; exact hb
    walk_at "wl"
    refine w_sfldAt upd_same T.cl_Sums T.n_Sums_s_size (by show 1 < 1000; omega) ?_
    walk_at "wl"
    refine w_ixT 1 rfl (by rw [upd_ne na, upd_ne na]; exact ha) rfl ?_
    walk_at "wl"
    refine w_sfldAt upd_same T.cl_Sums T.n_Sums_s_weights (by show 2 < 1000; omega) ?_
    walk_at "wl"
    have no : ∀ (f : Str), f ≠ "s_many" → f ≠ "s_size" → f ≠ "s_weights" → (putF "s_weights" (.ref b) (putF "s_size" (.int ((q ^ (g.l - 1) : Nat) : Int)) (putF "s_many" (.int q) []))).lookup f = none := fun f h1 h2 h3 => by
      rw [lookup_putF, if_neg h3, lookup_putF, if_neg h2, lookup_putF, if_neg h1]
      rfl
    refine k _ _ (fun a o ha h => ?_) upd_same ⟨?_, ?_, ⟨b, ?_, ?_⟩, no _ (by decide) (by decide) (by decide), no _ (by decide) (by decide) (by decide), no _ (by decide) (by decide) (by decide), no _ (by decide) (by decide) (by decide), no _ (by decide) (by decide) (by decide), no _ (by decide) (by decide) (by decide)⟩
    · rw [upd_ne ha, upd_ne ha, upd_ne ha]
      exact h
    · rw [lookup_putF, if_neg (by decide), lookup_putF, if_neg (by decide), lookup_putF, if_pos rfl]
    · rw [lookup_putF, if_neg (by decide), lookup_putF, if_pos rfl]
    · rw [lookup_putF, if_pos rfl]
    · rw [upd_ne nb, upd_ne nb, upd_ne nb]
      exact hb
theorem mk_Sums (T : Txt K mg) : Mak P w K mg base 3 "Sums" (He.ga K "Sums") (sp_Sums_init K) [] := mak_of (fn_Sums_init T) T.mk_Sums T.g_Sums
/-- a new state, for a caller -/
theorem make_sums {H1 : Hp} {q : Nat} {g : Ga} {p : V} {Q : VK} (hp : RG H1 p g) (o : (⟨q, g⟩ : Sm).Ok) (k : ∀ v H', Same H1 H' → RSums K H' v ⟨q, g⟩ → Q v H') :
    mkAt (He.ga K "Sums") (sp_Sums_init K) [.int q, p] H1 Q := fun x dx hx hdx hne => by
  have s1 : Same H1 (upd (upd H1 dx (.own x)) x (.ins (He.ga K "Sums") dx [])) := (same_upd hdx).trans (same_upd (by rw [upd_ne (Ne.symm hne)]; exact hx))
  refine ⟨x, dx, q, _, g, rfl, upd_same, mono_G _ _ _ _ s1 hp, o, fun H' fs bt hx' ra => ⟨rfl, k _ _ (fun a o h => bt a o (ne_of_none h hx) (s1 _ _ h)) ⟨x, dx, fs, rfl, hx', ra⟩⟩⟩
abbrev RWay : Rl (Int × Nat) := RP RInt RNat
theorem mono_way : Mono RWay := mono_p mono_int mono_nat
theorem firm_way : Firm RWay := firm_p firm_int firm_nat
abbrev sp_ways (K : PySem.W.Frag) : Sp := fun vs H Q _ => ∃ (v : V) (s : Sm) (u : Nat), vs = [v, .int u] ∧ RSums K H v s ∧ s.Ok ∧ u < s.n ∧ ∀ a' H', H a' = none → Same H H' → RLst RWay H' (.ref a') (waysOf s u) → Q (.ref a') H'
theorem ok_Sums_ways (T : Txt K mg) : Met P w K mg base 1 (He.ga K "Sums") "ways" (sp_ways K) [] := by
  refine met_of (d := d_Sums_ways) (ps := p_Sums_ways) ?_ T.cl_Sums T.m_Sums_ways
  refine fnok_of T.f_Sums_ways rfl rfl sc_Sums_ways (fun _ _ _ _ _ _ us hl => match us, hl with | [_, _], _ => rfl) (fun vs H Q E h => ?_) (fun cdv A outer s H vs Q E hr h => ⟨_, (pss_cons (ps_set (i := 2) sc_Sums_ways.nd rfl (Or.inl rfl) (pe_lst pa_nil))
      (pss_cons (ps_for PassesOwn.never rfl (pi_range1 rfl T.b_range (pa_cons (pe_fldK (K := K) rfl (pv 0) rfl) pa_nil)) (pg_name (i := 3) sc_Sums_ways.nd rfl (.inl rfl)) (pss_cons (ps_set (i := 4) sc_Sums_ways.nd rfl (Or.inl rfl) (pe_op op_add (pe_op op_mul (pv 1) (pe_fldK (K := K) rfl (pv 0) rfl)) (pv 3)))
      (pss_one (ps_expr (pe_bm PySem.F.plainAttrs_list PySem.F.slot_list_append PySem.F.type_list_append mt_append (pv 2) (pa_cons (pe_tup (pa_cons (pe_ix (ix_tupK (K := K) rfl) (pe_fldK (K := K) rfl (pv 0) rfl) (pv 4) (fun _ _ => rfl)) (pa_cons (pe_op op_mod (pv 4) (pe_fldK (K := K) rfl (pv 0) rfl)) pa_nil))) pa_nil))))))
      (pss_one (ps_ret (pv 2))))), ?_⟩)
  · obtain ⟨v, s, u, rfl, _⟩ := h
    rfl
  · obtain ⟨v, sm, u, rfl, ⟨a, dx, fs, rfl, ha, f1, f2, ⟨b, f3, hb⟩, m1, m2, m3, m4, m5, m6⟩, o, hu, k⟩ := h
    have hq := o.q2
    have hn := o.few
    have hp := o.pos
    walk_at "wl"
    rename_i D H1 hD s1 e1
    refine w_rngAt sm.q rfl (by omega) ?_
    refine f_rng (fun i σ H' => Same H H' ∧ ∃ z1 z2 xs, σ = [some (.ref a), some (.int u), some (.ref D), z1, z2] ∧ H' D = some (.lst xs) ∧ All2 (RWay H') xs ((List.range i).map fun k => (sm.g.at (u * sm.q + k), (u * sm.q + k) % sm.n))) ⟨s1, _, _, [], rfl, e1, All2.nil⟩ ?_ ?_
    · rintro i σ H' hi ⟨s2, z1, z2, xs, rfl, e2, al2⟩
      have hw := o.word hu hi
      walk_at "wl"
      refine w_ixT (u * sm.q + i) (by simp) (s2 _ _ hb) (int_get hw) ?_
      have f2' : fs.lookup ("s_size" : Str) = some (.int ((sm.n : Nat) : Int)) := f2
      walk_at "wl"
      rename_i p H2 s3 e3
      have hlen : xs.length = i := by rw [al2.1, List.length_map, List.length_range]
      refine w_app (s3 _ _ e2) (by omega) ?_
      obtain ⟨q1, q2⟩ := app_ok mono_way firm_way (y := .ref p) (d := (sm.g.at (u * sm.q + i), (u * sm.q + i) % sm.n)) hD s2 e2 al2 s3 ⟨p, _, _, rfl, e3, rfl, by show V.int _ = V.int _; congr 1⟩
      walk_at "wl"
      refine ⟨q1, _, _, xs ++ [.ref p], rfl, upd_same, ?_⟩
      rw [List.range_succ, List.map_append]
      exact q2
    · rintro σ H' ⟨s2, z1, z2, xs, rfl, e2, al2⟩
      walk_at "wl"
      exact k _ _ hD s2 ⟨D, xs, rfl, e2, al2⟩
end
end WL
/-! a row longer; the greatest fraction -/
namespace WL
open PySem PySem.Spec PyProof.Rows L2
open C8 (Cal Met Mak pe_c pe_mk pe_mt pe_mt0 pe_gc)
theorem oV_at {l : List (Option Int)} {i : Nat} {x : V} (e : (l.map oV)[i]? = some x) : ∃ n, x = oV n ∧ l[i]? = some n := by
  rw [List.getElem?_map] at e
  cases h : l[i]? with
  | none => rw [h] at e; cases e
  | some n => rw [h] at e; cases e; exact ⟨n, rfl, rfl⟩
theorem oV_get {l : List (Option Int)} {i : Nat} (h : i < l.length) : (l.map oV)[i]? = some (oV (l.getD i none)) := by
  rw [List.getElem?_map, List.getD_eq_getElem?_getD, List.getElem?_eq_getElem h] <;> rfl
/-- a row as a function -/
abbrev fnO (l : List (Option Int)) : Nat → Option Int := fun v => l.getD v none
theorem getD_set {α : Type} (l : List α) (i j : Nat) (x d : α) (h : i < l.length) : (l.set i x).getD j d = if i = j then x else l.getD j d := by
  rw [List.getD_eq_getElem?_getD, List.getElem?_set, List.getD_eq_getElem?_getD]
  by_cases e : i = j
  · subst e
    rw [if_pos rfl, if_pos h, if_pos rfl]
    rfl
  · rw [if_neg e, if_neg e]
/-- the row behind a row -/
def Longer (s : Sm) (row fs : List (Option Int)) : Prop := fs.length = s.n ∧ ∀ v, v < s.n → Into s.q s.n s.g.at (fnO row) v (s.n * s.q) (fnO fs v)
section
variable {P : Program} {w : World} {K : PySem.W.Frag} {mg : Str → Option Value} {base : Heap}
abbrev sp_longer (K : PySem.W.Frag) : Sp := fun vs H Q _ => ∃ (v : V) (s : Sm) (a : Addr) (row : List (Option Int)), vs = [v, .ref a] ∧ RSums K H v s ∧ s.Ok ∧ H a = some (.lst (row.map oV)) ∧ row.length = s.n ∧
  ∀ a' H' fs, H a' = none → Same H H' → H' a' = some (.lst (fs.map oV)) → Longer s row fs → Q (.ref a') H'
theorem ok_Sums_longer (T : Txt K mg) : Met P w K mg base 2 (He.ga K "Sums") "longer" (sp_longer K) [] := by
  refine met_of (d := d_Sums_longer) (ps := p_Sums_longer) ?_ T.cl_Sums T.m_Sums_longer
  refine fnok_of T.f_Sums_longer rfl rfl sc_Sums_longer (fun _ _ _ _ _ _ us hl => match us, hl with | [_, _], _ => rfl) (fun vs H Q E h => ?_) (fun cdv A outer s H vs Q E hr h => ⟨_, (pss_cons (ps_set (i := 2) sc_Sums_longer.nd rfl (Or.inl rfl) (pe_op op_rep (pe_lst (pa_cons pe_non pa_nil)) (pe_fldK (K := K) rfl (pv 0) rfl)))
      (pss_cons (ps_for PassesOwn.never rfl (pi_enumK (K := K) rfl (by rfl) T.b_enumerate (pa_cons (pv 1) pa_nil)) (pg_tupK (K := K) (n := 2) rfl rfl (pgs_cons (pg_name (i := 3) sc_Sums_longer.nd rfl (.inl rfl)) (pgs_cons (pg_name (i := 4) sc_Sums_longer.nd rfl (.inl rfl)) pgs_nil))) (pss_one (ps_if (pt_cmpR ol_notN (pv 4) pe_non (nomark _)) (pss_one (ps_for PassesOwn.never rfl (pi_listK (K := K) rfl (pe_mt (ok_Sums_ways T) hr (by decide) (pv 0) (pa_cons (pv 3) pa_nil))) (pg_tupK (K := K) (n := 2) rfl rfl (pgs_cons (pg_name (i := 5) sc_Sums_longer.nd rfl (.inl rfl)) (pgs_cons (pg_name (i := 6) sc_Sums_longer.nd rfl (.inl rfl)) pgs_nil))) (pss_one (ps_if (PW.pt (pw_or (pt_cmpR ol_isN (pe_ix (ix_listK (K := K) rfl) (pv 2) (pv 6) (fun _ _ => rfl)) pe_non (nomark _)) (pw_or1 (pt_cmpR op_lt (pe_ix (ix_listK (K := K) rfl) (pv 2) (pv 6) (fun _ _ => rfl)) (pe_op op_add (pv 4) (pv 5)) (nomark _))))) (pss_one (ps_asg (pe_op op_add (pv 4) (pv 5)) (pg_sub (pv 2) (pv 6) set_list))) pss_nil)))) pss_nil)))
      (pss_one (ps_ret (pv 2))))), ?_⟩)
  · obtain ⟨v, s, a, row, rfl, _⟩ := h
    rfl
  · obtain ⟨v, sm, c, row, rfl, hv, o, hc, hr0, k⟩ := h
    obtain ⟨a, dx, fs, rfl, ha, f1, f2, ⟨b, f3, hb⟩, m1, m2, m3, m4, m5, m6⟩ := id hv
    have hq := o.q2
    have hn := o.few
    have hp := o.pos
    walk_at "wl"
    rename_i p0 H0 hp0 s0 e0
    have f2' : fs.lookup ("s_size" : Str) = some (.int ((sm.n : Nat) : Int)) := f2
    refine w_rep sm.n rfl e0 (by omega) (by simp; omega) fun D H1 hD s1 e1 => ?_
    have e1' : H1 D = some (.lst ((List.replicate sm.n (none : Option Int)).map oV)) := by
      rw [e1]
      congr 2
      simp
    have s01 := s0.trans s1
    have hD0 : H D = none := by
      cases hh : H D with
      | none => rfl
      | some o => rw [s0 _ _ hh] at hD; cases hD
    walk_at "wl"
    have row_len : (row.map oV).length = sm.n := by rw [List.length_map]; exact hr0
    refine f_enum (xs := row.map oV) (fun i σ H' => Same H H' ∧ ∃ z1 z2 z3 z4 fd, σ = [some (.ref a), some (.ref c), some (.ref D), z1, z2, z3, z4] ∧ H' D = some (.lst (fd.map oV)) ∧ fd.length = sm.n ∧ ∀ v, v < sm.n → Into sm.q sm.n sm.g.at (fnO row) v (i * sm.q) (fnO fd v)) (fun i σ H' _ h => h.1 _ _ hc) ⟨s01, _, _, _, _, _, rfl, e1', by simp, fun v hv => ?_⟩ ?_ ?_
    · show Into _ _ _ _ _ _ ((List.replicate sm.n none).getD v none)
      rw [show (List.replicate sm.n (none : Option Int)).getD v none = none by simp [List.getD_eq_getElem?_getD, List.getElem?_replicate, hv]]
      intro x hx
      omega
    · rintro i x σ H2 H3 hi hx ⟨s2, z1, z2, z3, z4, fd, rfl, e2, hfl, hI⟩ s3
      obtain ⟨t, rfl, hx2⟩ := oV_at hx
      have hi2 : i < sm.n := by rw [row_len] at hi; exact hi
      have ht : fnO row i = t := by
        show row.getD i none = t
        rw [List.getD_eq_getElem?_getD, hx2]
        rfl
      walk_at "wl"
      cases t with
      | none =>
        rw [decide_eq_true (show oV none = V.non from rfl)]
        walk_at "wl"
        refine ⟨s2.trans s3, _, _, _, _, fd, rfl, s3 _ _ e2, hfl, fun v hv => ?_⟩
        have main : ∀ j, j ≤ sm.q → Into sm.q sm.n sm.g.at (fnO row) v (i * sm.q + j) (fnO fd v) := by
          intro j
          induction j with
          | zero => intro _; exact hI v hv
          | succ j ih =>
            intro hj
            refine into_none (ih (by omega)) (.inl ?_)
            show fnO row ((i * sm.q + j) / sm.q) = none
            rw [word_div (by omega)]
            exact ht
        rw [Nat.add_mul, Nat.one_mul]
        exact main sm.q (Nat.le_refl _)
      | some t =>
        rw [decide_eq_false (show ¬ oV (some t) = V.non from fun z => by cases z)]
        have hv3 : RSums K H3 (.ref a) sm := mono_sums _ _ _ _ (s2.trans s3) hv
        have s23 := s2.trans s3
        have ha3 := s23 _ _ ha
        walk_at "wl"
        refine ⟨_, sm, i, rfl, hv3, o, hi2, fun wa H4 hwn s4 hw => ?_⟩
        obtain ⟨_, ws, ew, hwa, al⟩ := hw
        cases ew
        have e4 : H4 D = some (.lst (fd.map oV)) := s4 _ _ (s3 _ _ e2)
        have hwD : wa ≠ D := fun e => by
          subst e
          rw [s3 _ _ e2] at hwn
          cases hwn
        have wl : ws.length = sm.q := by rw [al.1]; show ((List.range _).map _).length = _; rw [List.length_map, List.length_range]
        walk_at "wl"
        refine f_lst (xs := ws) (fun j σ H' => Same H H' ∧ But D H4 H' ∧ ∃ z3 z4 fd, σ = [some (.ref a), some (.ref c), some (.ref D), some (.int (i : Nat)), some (.int t), z3, z4] ∧ H' D = some (.lst (fd.map oV)) ∧ fd.length = sm.n ∧ ∀ v, v < sm.n → Into sm.q sm.n sm.g.at (fnO row) v (i * sm.q + j) (fnO fd v))
          (fun j σ H' _ h => h.2.1 _ _ hwD hwa) ⟨s23.trans s4, But.rfl', _, _, fd, rfl, e4, hfl, hI⟩ ?_ ?_
        · rintro j x σ H5 hj hxj ⟨s5, b5, z3, z4, fd5, rfl, e5, hl5, hI5⟩
          have hjq : j < sm.q := by rw [wl] at hj; exact hj
          obtain ⟨p, y, z, rfl, hp5, hy, hz⟩ := way_but b5 e4 (al.2 j x _ hxj (by unfold waysOf; rw [List.getElem?_map, List.getElem?_range hjq]; rfl))
          cases hy
          cases hz
          have hlt : (i * sm.q + j) % sm.n < sm.n := Nat.mod_lt _ hp
          have hrow : fnO row ((i * sm.q + j) / sm.q) = some t := by rw [word_div hjq]; exact ht
          walk_at "wl"
          refine w_ixL ((i * sm.q + j) % sm.n) rfl e5 (oV_get (by omega)) ?_
          walk_at "wl"
          have fin : ∀ o5, (∀ m, fnO fd5 ((i * sm.q + j) % sm.n) = some m → m < t + sm.g.at (i * sm.q + j)) → o5 = some (t + sm.g.at (i * sm.q + j)) →
              ∀ v, v < sm.n → Into sm.q sm.n sm.g.at (fnO row) v (i * sm.q + (j + 1)) (fnO (fd5.set ((i * sm.q + j) % sm.n) o5) v) := fun o5 hm ho v hv => by
            show Into _ _ _ _ _ _ ((fd5.set _ o5).getD v none)
            rw [getD_set _ _ _ _ _ (by omega)]
            by_cases e : (i * sm.q + j) % sm.n = v
            · rw [if_pos e, ho]
              subst e
              exact into_take (hI5 _ hv) rfl hrow hm
            · rw [if_neg e]
              exact into_none (hI5 v hv) (.inr e)
          have put : ∀ {Z : Prop}, Z = Z := rfl
          cases hc5 : fd5.getD ((i * sm.q + j) % sm.n) none with
          | none =>
            rw [decide_eq_true (show oV none = V.non from rfl)]
            walk_at "wl"
            refine w_setL ((i * sm.q + j) % sm.n) rfl e5 (by rw [List.length_map]; omega) ?_
            walk_at "wl"
            refine ⟨?_, b5.upd, _, _, fd5.set ((i * sm.q + j) % sm.n) (some (t + sm.g.at (i * sm.q + j))), rfl, ?_, by rw [List.length_set]; exact hl5, fin _ (fun m hm => ?_) rfl⟩
            · exact Same.mut s5 hD0
            · rw [upd_same, List.map_set]
            · rw [show fnO fd5 _ = none from hc5] at hm
              cases hm
          | some m =>
            rw [decide_eq_false (show ¬ oV (some m) = V.non from fun z => by cases z)]
            walk_at "wl"
            refine w_ixL ((i * sm.q + j) % sm.n) rfl e5 (oV_get (by omega)) ?_
            rw [hc5]
            walk_at "wl"
            refine w_iteD (fun hlt => ?_) (fun hge => ?_)
            · walk_at "wl"
              refine w_setL ((i * sm.q + j) % sm.n) rfl e5 (by rw [List.length_map]; omega) ?_
              walk_at "wl"
              refine ⟨Same.mut s5 hD0, b5.upd, _, _, fd5.set ((i * sm.q + j) % sm.n) (some (t + sm.g.at (i * sm.q + j))), rfl, ?_, by rw [List.length_set]; exact hl5, fin _ (fun m' hm => ?_) rfl⟩
              · rw [upd_same, List.map_set]
              · rw [show fnO fd5 _ = some m from hc5] at hm
                cases hm
                exact hlt
            · walk_at "wl"
              refine ⟨s5, b5, _, _, fd5, rfl, e5, hl5, fun v hv => ?_⟩
              by_cases e : (i * sm.q + j) % sm.n = v
              · subst e
                have hh := hI5 _ hv
                rw [show fnO fd5 _ = some m from hc5] at hh ⊢
                exact into_keep hh hrow (Int.not_lt.mp hge)
              · exact into_none (hI5 v hv) (.inr e)
        · rintro σ H5 ⟨s5, b5, z3, z4, fd5, rfl, e5, hl5, hI5⟩
          walk_at "wl"
          refine ⟨s5, _, _, _, _, fd5, rfl, e5, hl5, fun v hv => ?_⟩
          rw [Nat.add_mul, Nat.one_mul]
          rw [wl] at hI5
          exact hI5 v hv
    · rintro σ H' ⟨s2, z1, z2, z3, z4, fd, rfl, e2, hfl, hI⟩
      walk_at "wl"
      rw [row_len] at hI
      exact k _ _ fd hD0 s2 e2 ⟨hfl, hI⟩
end
end WL
/-! the greatest fraction -/
namespace WL
open PySem PySem.Spec PyProof.Rows L2
open C8 (Cal Met Mak pe_c pe_mk pe_mt pe_mt0 pe_gc)
theorem w_ixEnd {K : PySem.W.Frag} {H : Hp} {Q : VK} {a : Addr} {xs : List V} {v : V} (h : H a = some (.lst xs)) (e : xs[xs.length - 1]? = some v) (k : Q v H) : rIxL K (.ref a) (.int (-1)) H Q := by
  refine ⟨a, xs, _, v, rfl, rfl, sqL h, ?_, k⟩
  have hl : 0 < xs.length := by
    have := (List.getElem?_eq_some_iff.mp e).1
    omega
  unfold atI ixN
  rw [if_neg (by omega), if_pos (by omega)]
  show xs[((-1 : Int) + (xs.length : Int)).toNat]? = some v
  rw [show ((-1 : Int) + (xs.length : Int)).toNat = xs.length - 1 by omega]
  exact e
theorem take_init {H : Hp} {a : Addr} {xs : List V} (h : H a = some (.lst xs)) : H a = some (.lst xs) := h
theorem w_slInit {K : PySem.W.Frag} {H : Hp} {Q : VK} {a : Addr} {xs : List V} (h : H a = some (.lst xs)) (k : ∀ p H', H p = none → Same H H' → H' p = some (.lst (xs.take (xs.length - 1))) → Q (.ref p) H') : rSlL K (.ref a) none (some (-1)) H Q := by
  refine ⟨a, xs, rfl, sqL h, fun p hp => k p _ hp (same_upd hp) ?_⟩
  rw [upd_same]
  unfold cutV
  rw [HT.sIx_none]
  have e : HT.sIx xs.length xs.length (some (-1)) = xs.length - 1 := by
    show (if (-1 : Int) < 0 then ((-1 : Int) + (xs.length : Int)).toNat else min (-1 : Int).toNat xs.length) = xs.length - 1
    rw [if_pos (by omega)]
    omega
  rw [e]
  simp
theorem frac_trans {a' a m b b' c : Int} (hb : 0 < b) (hc : 0 ≤ c) (hb' : 0 ≤ b') (h1 : a' * b ≤ a * b') (h2 : a * c ≤ m * b) : a' * c ≤ m * b' := by
  refine Int.le_of_mul_le_mul_right (a := b) ?_ hb
  have e1 : a' * c * b = a' * b * c := by rw [Int.mul_assoc, Int.mul_comm c b, ← Int.mul_assoc]
  have e2 : a * b' * c = a * c * b' := by rw [Int.mul_assoc, Int.mul_comm b' c, ← Int.mul_assoc]
  have e3 : m * b * b' = m * b' * b := by rw [Int.mul_assoc, Int.mul_comm b b', ← Int.mul_assoc]
  have l1 : a' * b * c ≤ a * b' * c := Int.mul_le_mul_of_nonneg_right h1 hc
  have l2 : a * c * b' ≤ m * b * b' := Int.mul_le_mul_of_nonneg_right h2 hb'
  rw [e1, ← e3]
  rw [e2] at l1
  exact Int.le_trans l1 l2
theorem rows_reach {q l : Nat} {wt : Nat → Int} {rows : Nat → Nat → Option Int} (hq : 2 ≤ q) (h : Rows q (q ^ l) wt rows) : ∀ j, j ≤ l → ∀ v, v < q ^ j → rows j v ≠ none
  | 0, _, v, hv => by
    rw [Nat.pow_zero] at hv
    have e : v = 0 := by omega
    rw [h.1 v (by rw [e]; exact Nat.pow_pos (by omega)), if_pos e]
    intro z
    cases z
  | j + 1, hj, v, hv => by
    have hl : j < q ^ l := Nat.lt_of_lt_of_le (by omega : j < l) (Nat.le_of_lt (Nat.lt_pow_self (by omega)))
    have hvl : v < q ^ l := Nat.lt_of_lt_of_le hv (Nat.pow_le_pow_right (by omega) hj)
    have hi := h.2 j v hl hvl
    intro e
    rw [e] at hi
    have hn : v < q ^ l * q := Nat.lt_of_lt_of_le hvl (Nat.le_mul_of_pos_right _ (by omega))
    refine rows_reach hq h j (by omega) (v / q) ?_ (hi v hn (Nat.mod_eq_of_lt hvl))
    rw [Nat.pow_succ] at hv
    exact (Nat.div_lt_iff_lt_mul (by omega)).mpr hv
theorem rows_zero {q n : Nat} {wt : Nat → Int} {rows : Nat → Nat → Option Int} (hq : 0 < q) (hn : 0 < n) (h : Rows q n wt rows) : ∀ k, k ≤ n → rows k 0 ≠ none
  | 0, _ => by
    rw [h.1 0 hn, if_pos rfl]
    intro z
    cases z
  | k + 1, hk => fun e => by
    have hi := h.2 k 0 (by omega) hn
    rw [e] at hi
    refine rows_zero hq hn h k (by omega) ?_
    have := hi 0 (Nat.mul_pos hn hq) (Nat.zero_mod _)
    rwa [Nat.zero_div] at this
/-- the rows as a function -/
abbrev fnR (rr : Nat → List (Option Int)) : Nat → Nat → Option Int := fun k v => fnO (rr k) v
/-- what least is behind some rows -/
def LeastIn (n : Nat) (rows : Nat → Nat → Option Int) (v : Nat) (x : Int) (i : Nat) : Option (Int × Nat) → Prop
  | none => ∀ k, k < i → rows k v = none
  | some (a, b) => (∃ k y, k < i ∧ rows k v = some y ∧ a = x - y ∧ b = n - k) ∧ ∀ k y, k < i → rows k v = some y → a * ((n - k : Nat) : Int) ≤ (x - y) * b
def BestIn (n : Nat) (rows : Nat → Nat → Option Int) (i : Nat) : Option (Int × Nat) → Prop
  | none => ∀ v, v < i → rows n v = none
  | some (a, b) => (∃ v, v < i ∧ MeanAt n rows v a b) ∧ ∀ v a' b', v < i → MeanAt n rows v a' b' → a' * b ≤ a * b'
def RRow (D : Addr) : Rl (List (Option Int)) := fun H v row => ∃ a, v = .ref a ∧ a ≠ D ∧ H a = some (.lst (row.map oV))
theorem mono_row {D : Addr} : Mono (RRow D) := fun H H' v d s ⟨a, e, n, h⟩ => ⟨a, e, n, s _ _ h⟩
def ROF : Rl (Option (Int × Nat)) := ROpt RF
theorem mono_of : Mono ROF := mono_opt mono_F
section
variable {P : Program} {w : World} {K : PySem.W.Frag} {mg : Str → Option Value} {base : Heap}
abbrev sp_gf (K : PySem.W.Frag) : Sp := fun vs H Q _ => ∃ (v : V) (s : Sm), vs = [v] ∧ RSums K H v s ∧ s.Ok ∧
  ∀ v' H' rows a b, Same H H' → Rows s.q s.n s.g.at rows → Karp s.n rows a b → RF H' v' (lowestF a b) → Q v' H'
theorem ok_Sums_greatest_fraction (T : Txt K mg) : Met P w K mg base 3 (He.ga K "Sums") "greatest_fraction" (sp_gf K) [] := by
  refine met_of (d := d_Sums_greatest_fraction) (ps := p_Sums_greatest_fraction) ?_ T.cl_Sums T.m_Sums_greatest_fraction
  refine fnok_of T.f_Sums_greatest_fraction rfl rfl sc_Sums_greatest_fraction (fun _ _ _ _ _ _ us hl => match us, hl with | [_], _ => rfl) (fun vs H Q E h => ?_) (fun cdv A outer s H vs Q E hr h => ⟨_, (pss_cons (ps_set (i := 1) sc_Sums_greatest_fraction.nd rfl (Or.inl rfl) (pe_lst (pa_cons (pe_op op_cat (pe_lst (pa_cons pe_int pa_nil)) (pe_op op_rep (pe_lst (pa_cons pe_non pa_nil)) (pe_op op_sub (pe_fldK (K := K) rfl (pv 0) rfl) pe_int))) pa_nil)))
      (pss_cons (ps_for PassesOwn.never rfl (pi_range1 rfl T.b_range (pa_cons (pe_fldK (K := K) rfl (pv 0) rfl) pa_nil)) (pg_name (i := 2) sc_Sums_greatest_fraction.nd rfl (.inl rfl)) (pss_one (ps_expr (pe_bm PySem.F.plainAttrs_list PySem.F.slot_list_append PySem.F.type_list_append mt_append (pv 1) (pa_cons (pe_mt (ok_Sums_longer T) hr (by decide) (pv 0) (pa_cons (pe_ix (ix_listK (K := K) rfl) (pv 1) (pe_un un_neg pe_int) (fun _ _ => rfl)) pa_nil)) pa_nil)))))
      (pss_cons (ps_par (i := 3) (j := 4) rfl sc_Sums_greatest_fraction.nd rfl rfl (by decide) rfl rfl (pa_cons (pe_ix (ix_listK (K := K) rfl) (pv 1) (pe_un un_neg pe_int) (fun _ _ => rfl)) (pa_cons pe_non pa_nil)) (by rfl))
      (pss_cons (ps_for PassesOwn.never rfl (pi_range1 rfl T.b_range (pa_cons (pe_fldK (K := K) rfl (pv 0) rfl) pa_nil)) (pg_name (i := 5) sc_Sums_greatest_fraction.nd rfl (.inl rfl)) (pss_one (ps_if (pt_cmpR ol_notN (pe_ix (ix_listK (K := K) rfl) (pv 3) (pv 5) (fun _ _ => rfl)) pe_non (nomark _)) (pss_cons (ps_set (i := 6) sc_Sums_greatest_fraction.nd rfl (Or.inl rfl) pe_non)
      (pss_cons (ps_for PassesOwn.never rfl (pi_enumK (K := K) rfl (by rfl) T.b_enumerate (pa_cons (pe_slice (sl_listK (K := K) rfl) (pv 1) po_none (po_some (pe_un un_neg pe_int))) pa_nil)) (pg_tupK (K := K) (n := 2) rfl rfl (pgs_cons (pg_name (i := 2) sc_Sums_greatest_fraction.nd rfl (.inl rfl)) (pgs_cons (pg_name (i := 7) sc_Sums_greatest_fraction.nd rfl (.inl rfl)) pgs_nil))) (pss_one (ps_if (pt_cmpR ol_notN (pe_ix (ix_listK (K := K) rfl) (pv 7) (pv 5) (fun _ _ => rfl)) pe_non (nomark _)) (pss_cons (ps_set (i := 8) sc_Sums_greatest_fraction.nd rfl (Or.inl rfl) (pe_tup (pa_cons (pe_op op_sub (pe_ix (ix_listK (K := K) rfl) (pv 3) (pv 5) (fun _ _ => rfl)) (pe_ix (ix_listK (K := K) rfl) (pv 7) (pv 5) (fun _ _ => rfl))) (pa_cons (pe_op op_sub (pe_fldK (K := K) rfl (pv 0) rfl) (pv 2)) pa_nil))))
      (pss_one (ps_if (PW.pt (pw_or (pt_cmpR ol_isN (pv 6) pe_non (nomark _)) (pw_or1 (pt_cmpR op_lt (pe_op op_mul (pe_ix (ix_tupK (K := K) rfl) (pv 8) pe_int (fun _ _ => rfl)) (pe_ix (ix_tupK (K := K) rfl) (pv 6) pe_int (fun _ _ => rfl))) (pe_op op_mul (pe_ix (ix_tupK (K := K) rfl) (pv 6) pe_int (fun _ _ => rfl)) (pe_ix (ix_tupK (K := K) rfl) (pv 8) pe_int (fun _ _ => rfl))) (nomark _))))) (pss_one (ps_set (i := 6) sc_Sums_greatest_fraction.nd rfl (Or.inl rfl) (pv 8))) pss_nil))) pss_nil)))
      (pss_one (ps_if (PW.pt (pw_or (pt_cmpR ol_isN (pv 4) pe_non (nomark _)) (pw_or1 (pt_cmpR op_gt (pe_op op_mul (pe_ix (ix_tupK (K := K) rfl) (pv 6) pe_int (fun _ _ => rfl)) (pe_ix (ix_tupK (K := K) rfl) (pv 4) pe_int (fun _ _ => rfl))) (pe_op op_mul (pe_ix (ix_tupK (K := K) rfl) (pv 4) pe_int (fun _ _ => rfl)) (pe_ix (ix_tupK (K := K) rfl) (pv 6) pe_int (fun _ _ => rfl))) (nomark _))))) (pss_one (ps_set (i := 4) sc_Sums_greatest_fraction.nd rfl (Or.inl rfl) (pv 6))) pss_nil)))) pss_nil)))
      (pss_one (ps_ret (pe_c (ok_lowest T) hr (by decide) rfl (pa_cons (pe_ix (ix_tupK (K := K) rfl) (pv 4) pe_int (fun _ _ => rfl)) (pa_cons (pe_ix (ix_tupK (K := K) rfl) (pv 4) pe_int (fun _ _ => rfl)) pa_nil))))))))), ?_⟩)
  · obtain ⟨v, s, rfl, _⟩ := h
    rfl
  · obtain ⟨v, sm, rfl, hv, o, k⟩ := h
    obtain ⟨a, dx, fs, rfl, ha, f1, f2, ⟨b, f3, hb⟩, m1, m2, m3, m4, m5, m6⟩ := id hv
    have hq := o.q2
    have hn := o.few
    have hp := o.pos
    have f2' : fs.lookup ("s_size" : Str) = some (.int ((sm.n : Nat) : Int)) := f2
    walk_at "wl"
    rename_i p1 H1 hp1 s1 e1 p2 H2 hp2 s2 e2
    refine w_rep (sm.n - 1) (by omega) e2 (by omega) (by simp; omega) fun p3 H3 hp3 s3 e3 => ?_
    refine w_cat (s3 _ _ (s2 _ _ e1)) e3 (by simp; omega) fun p4 H4 hp4 s4 e4 => ?_
    have e4' : H4 p4 = some (.lst ((some 0 :: List.replicate (sm.n - 1) (none : Option Int)).map oV)) := by
      rw [e4]
      congr 2
      simp
    have s04 : Same H H4 := ((s1.trans s2).trans s3).trans s4
    walk_at "wl"
    rename_i D H5 hD s5 e5
    have hD0 : H D = none := by
      cases hh : H D with
      | none => rfl
      | some o => rw [s04 _ _ hh] at hD; cases hD
    have hne4 : p4 ≠ D := fun e => by rw [e] at e4; rw [hD] at e4; cases e4
    refine w_rngAt sm.n rfl (by omega) ?_
    refine f_rng (fun i σ H' => Same H H' ∧ ∃ z2 z3 z4 z5 z6 z7 z8 z9 xs rr, σ = [some (.ref a), some (.ref D), z2, z3, z4, z5, z6, z7, z8] ∧ z9 = () ∧ H' D = some (.lst xs) ∧ All2 (RRow D H') xs ((List.range (i + 1)).map rr) ∧ rr 0 = some 0 :: List.replicate (sm.n - 1) none ∧ ∀ k, k < i → Longer sm (rr k) (rr (k + 1))) ⟨s04.trans s5, _, _, _, _, _, _, _, _, _, fun _ => some 0 :: List.replicate (sm.n - 1) none, rfl, rfl, e5, ?_, rfl, fun k hk => by omega⟩ ?_ ?_
    · exact All2.nil.snoc ⟨p4, rfl, hne4, s5 _ _ e4'⟩
    · rintro i σ H6 hi ⟨s6, z2, z3, z4, z5, z6, z7, z8, z9, xs, rr, rfl, _, e6, al6, r0, hL⟩
      have hlen : xs.length = i + 1 := by rw [al6.1, List.length_map, List.length_range]
      have hrl : ∀ j, j ≤ i → (rr j).length = sm.n := fun j hj => by
        cases j with
        | zero =>
          rw [r0, List.length_cons, List.length_replicate]
          omega
        | succ j => exact (hL j (by omega)).1
      walk_at "wl"
      obtain ⟨x, hx, pr, rfl, hpr, hrow⟩ := al6.at (i := i) (d := rr i) (by rw [List.getElem?_map, List.getElem?_range (by omega)]; rfl)
      refine w_ixEnd e6 (by rw [hlen]; exact hx) ?_
      walk_at "wl"
      refine ⟨_, sm, pr, rr i, rfl, mono_sums _ _ _ _ s6 hv, o, hrow, hrl i (Nat.le_refl _), fun pn H7 fs7 hpn s7 e7 hL7 => ?_⟩
      walk_at "wl"
      have e67 : H7 D = some (.lst xs) := s7 _ _ e6
      have hnD : pn ≠ D := fun e => by rw [e, e6] at hpn; cases hpn
      refine w_app e67 (by omega) ?_
      walk_at "wl"
      refine ⟨Same.mut (s6.trans s7) hD0, _, _, _, _, _, _, _, (), xs ++ [.ref pn], fun k => if k = i + 1 then fs7 else rr k, rfl, rfl, upd_same, ?_, ?_, fun k hk => ?_⟩
      · rw [List.range_succ, List.map_append]
        have keep : ∀ x d, RRow D H6 x d → RRow D (upd H7 D (.lst (xs ++ [.ref pn]))) x d := fun x d ⟨a, e, n, h⟩ => ⟨a, e, n, by rw [upd_ne n]; exact s7 _ _ h⟩
        refine All2.snoc ?_ ⟨pn, rfl, hnD, ?_⟩
        · have ee : (List.range (i + 1)).map (fun k => if k = i + 1 then fs7 else rr k) = (List.range (i + 1)).map rr := List.map_congr_left fun k hk => by
            rw [List.mem_range] at hk
            rw [if_neg (by omega)]
          rw [ee]
          exact al6.imp keep
        · show _ = some (HO.lst (List.map oV (if i + 1 = i + 1 then fs7 else _)))
          rw [upd_ne hnD, if_pos rfl]
          exact e7
      · show (if 0 = i + 1 then fs7 else rr 0) = _
        rw [if_neg (by omega)]
        exact r0
      · show Longer sm (if k = i + 1 then fs7 else rr k) (if k + 1 = i + 1 then fs7 else rr (k + 1))
        rw [if_neg (by omega)]
        by_cases hki : k = i
        · subst hki
          rw [if_pos rfl]
          exact hL7
        · rw [if_neg (by omega)]
          exact hL k (by omega)
    · rintro σ H6 ⟨s6, z2, z3, z4, z5, z6, z7, z8, z9, xs, rr, rfl, _, e6, al6, r0, hL⟩
      have hlen : xs.length = sm.n + 1 := by rw [al6.1, List.length_map, List.length_range]
      have hrl : ∀ j, j ≤ sm.n → (rr j).length = sm.n := fun j hj => by
        cases j with
        | zero =>
          rw [r0, List.length_cons, List.length_replicate]
          omega
        | succ j => exact (hL j (by omega)).1
      have hR : Rows sm.q sm.n sm.g.at (fnR rr) := by
        refine ⟨fun v hv => ?_, fun k v hk hv => (hL k hk).2 v hv⟩
        show (rr 0).getD v none = _
        rw [r0]
        cases v with
        | zero => rfl
        | succ v =>
          rw [if_neg (by omega)]
          simp only [List.getD_cons_succ]
          rw [List.getD_eq_getElem?_getD, List.getElem?_replicate]
          split <;> rfl
      obtain ⟨x, hx, pl, rfl, hplD, hpl⟩ := al6.at (i := sm.n) (d := rr sm.n) (by rw [List.getElem?_map, List.getElem?_range (by omega)]; rfl)
      have hq0 : 2 ≤ sm.q := by omega
      have hl60 : sm.g.l - 1 < sm.n := Nat.lt_pow_self (by omega)
      walk_at "wl"
      refine w_ixEnd e6 (by rw [hlen]; exact hx) ?_
      walk_at "wl"
      refine w_rngAt sm.n rfl (by omega) ?_
      refine f_rng (fun v σ H' => Same H6 H' ∧ ∃ z2 z5 z6 z7 z8 fv best, σ = [some (.ref a), some (.ref D), z2, some (.ref pl), some fv, z5, z6, z7, z8] ∧ ROF H' fv best ∧ BestIn sm.n (fnR rr) v best) ⟨fun _ _ h => h, _, _, _, _, _, .non, none, rfl, rfl, fun v hv => by omega⟩ ?_ ?_
      · rintro v σ H7 hv ⟨s7, z2, z5, z6, z7, z8, fv, best, rfl, hfv, hB⟩
        have hpl7 := s7 _ _ hpl
        walk_at "wl"
        refine w_ixL v rfl hpl7 (oV_get (by rw [hrl _ (Nat.le_refl _)]; exact hv)) ?_
        walk_at "wl"
        cases hlast : (rr sm.n).getD v none with
        | none =>
          rw [decide_eq_true (show oV none = V.non from rfl)]
          walk_at "wl"
          refine ⟨s7, _, _, _, _, _, fv, best, rfl, hfv, ?_⟩
          have hno : ∀ a' b', ¬ MeanAt sm.n (fnR rr) v a' b' := fun a' b' ⟨x, hx, _⟩ => by
            rw [show fnR rr sm.n v = none from hlast] at hx
            cases hx
          cases best with
          | none =>
            intro u hu
            by_cases e : u = v
            · subst e
              exact hlast
            · exact hB u (by omega)
          | some p =>
            obtain ⟨⟨u, hu, hM⟩, hA⟩ := hB
            refine ⟨⟨u, by omega, hM⟩, fun u' a' b' hu' hM' => ?_⟩
            by_cases e : u' = v
            · subst e
              exact absurd hM' (hno _ _)
            · exact hA u' a' b' (by omega) hM'
        | some x =>
          rw [decide_eq_false (show ¬ oV (some x) = V.non from fun z => by cases z)]
          have e7 := s7 _ _ e6
          walk_at "wl"
          refine w_slInit e7 fun ps H8 hps s8 e8 => ?_
          walk_at "wl"
          rw [hlen, Nat.add_sub_cancel] at e8
          have s68 := s7.trans s8
          have tl : (xs.take sm.n).length = sm.n := by rw [List.length_take, hlen]; omega
          refine f_enum (xs := xs.take sm.n) (fun i σ H' => Same H8 H' ∧ ∃ z2 z7 z8 lv least, σ = [some (.ref a), some (.ref D), z2, some (.ref pl), some fv, some (.int (v : Nat)), some lv, z7, z8] ∧ ROF H' lv least ∧ LeastIn sm.n (fnR rr) v x i least)
            (fun i σ H' _ h => h.1 _ _ e8) ⟨fun _ _ h => h, _, _, _, .non, none, rfl, rfl, fun k hk => by omega⟩ ?_ ?_
          · rintro i rv σ H9 H10 hi hrv ⟨s9, z2, z7, z8, lv, least, rfl, hlv, hL9⟩ s10
            rw [tl] at hi
            have s610 := (s68.trans s9).trans s10
            have hrv2 : xs[i]? = some rv := by
              rw [List.getElem?_take, if_pos hi] at hrv
              exact hrv
            obtain ⟨pr, rfl, hprD, hpr⟩ := al6.2 i rv (rr i) hrv2 (by rw [List.getElem?_map, List.getElem?_range (by omega)]; rfl)
            walk_at "wl"
            refine w_ixL v rfl (s610 _ _ hpr) (oV_get (by rw [hrl _ (by omega)]; exact hv)) ?_
            walk_at "wl"
            cases hrow : (rr i).getD v none with
            | none =>
              rw [decide_eq_true (show oV none = V.non from rfl)]
              walk_at "wl"
              refine ⟨s9.trans s10, _, _, _, lv, least, rfl, mono_of _ _ _ _ s10 hlv, ?_⟩
              cases least with
              | none =>
                intro k hk
                by_cases e : k = i
                · subst e
                  exact hrow
                · exact hL9 k (by omega)
              | some p =>
                obtain ⟨⟨k, y, hk, hy, e1, e2⟩, hA⟩ := hL9
                refine ⟨⟨k, y, by omega, hy, e1, e2⟩, fun k' y' hk' hy' => ?_⟩
                by_cases e : k' = i
                · subst e
                  rw [show fnR rr k' v = none from hrow] at hy'
                  cases hy'
                · exact hA k' y' (by omega) hy'
            | some y =>
              rw [decide_eq_false (show ¬ oV (some y) = V.non from fun z => by cases z)]
              have f2'' := f2'
              have ha10 := s6.trans s610 _ _ ha
              walk_at "wl"
              refine w_ixL v rfl (s610 _ _ hpl) (oV_get (by rw [hrl _ (Nat.le_refl _)]; exact hv)) ?_
              rw [hlast]
              walk_at "wl"
              refine w_ixL v rfl (s610 _ _ hpr) (oV_get (by rw [hrl _ (by omega)]; exact hv)) ?_
              rw [hrow]
              walk_at "wl"
              rename_i pm H11 s11 e11
              have hnew : RF H11 (.ref pm) (x - y, sm.n - i) := ⟨pm, rfl, by rw [e11, show (sm.n : Int) - (i : Int) = ((sm.n - i : Nat) : Int) by omega]⟩
              have newL : (∀ k y', k < i → fnR rr k v = some y' → (x - y) * ((sm.n - k : Nat) : Int) ≤ (x - y') * ((sm.n - i : Nat) : Int)) → LeastIn sm.n (fnR rr) v x (i + 1) (some (x - y, sm.n - i)) := fun hA => by
                refine ⟨⟨i, y, by omega, hrow, rfl, rfl⟩, fun k' y' hk' hy' => ?_⟩
                by_cases e : k' = i
                · subst e
                  rw [show fnR rr k' v = some y from hrow] at hy'
                  cases hy'
                  exact Int.le_refl _
                · exact hA k' y' (by omega) hy'
              cases least with
              | none =>
                cases (show lv = .non from hlv)
                rw [decide_eq_true rfl]
                walk_at "wl"
                refine ⟨(s9.trans s10).trans s11, _, _, _, _, some (x - y, sm.n - i), rfl, ⟨hnew, fun z => by cases z⟩, newL fun k y' hk hy' => ?_⟩
                rw [hL9 k hk] at hy'
                cases hy'
              | some p =>
                obtain ⟨pa, pb⟩ := p
                obtain ⟨⟨al, rfl, hal⟩, hne⟩ := hlv
                rw [decide_eq_false hne]
                have hal11 := (s10.trans s11) _ _ hal
                obtain ⟨⟨k0, y0, hk0, hy0, ea, eb⟩, hA⟩ := hL9
                walk_at "wl"
                refine w_ixT 0 rfl e11 rfl ?_
                walk_at "wl"
                refine w_ixT 1 rfl hal11 rfl ?_
                walk_at "wl"
                refine w_ixT 0 rfl hal11 rfl ?_
                walk_at "wl"
                refine w_ixT 1 rfl e11 rfl ?_
                walk_at "wl"
                refine w_iteD (fun hlt => ?_) (fun hge => ?_)
                · walk_at "wl"
                  refine ⟨(s9.trans s10).trans s11, _, _, _, _, some (x - y, sm.n - i), rfl, ⟨hnew, fun z => by cases z⟩, newL fun k y' hk hy' => ?_⟩
                  have h1 := hA k y' hk hy'
                  refine frac_trans (a := pa) (b := (pb : Int)) (by rw [eb]; omega) (by omega) (by omega) ?_ h1
                  have e3 : ((sm.n - i : Nat) : Int) = (sm.n : Int) - (i : Int) := by omega
                  rw [e3]
                  exact Int.le_of_lt hlt
                · walk_at "wl"
                  refine ⟨(s9.trans s10).trans s11, _, _, _, _, some (pa, pb), rfl, ⟨⟨al, rfl, hal11⟩, hne⟩, ⟨k0, y0, by omega, hy0, ea, eb⟩, fun k' y' hk' hy' => ?_⟩
                  by_cases e : k' = i
                  · subst e
                    rw [show fnR rr k' v = some y from hrow] at hy'
                    cases hy'
                    have e3 : ((sm.n - k' : Nat) : Int) = (sm.n : Int) - (k' : Int) := by omega
                    rw [e3]
                    exact Int.not_lt.mp hge
                  · exact hA k' y' (by omega) hy'
          · rintro σ H9 ⟨s9, z2, z7, z8, lv, least, rfl, hlv, hL9⟩
            rw [tl] at hL9
            have s79 := s8.trans s9
            cases least with
            | none =>
              exfalso
              exact rows_reach hq0 hR (sm.g.l - 1) (Nat.le_refl _) v hv (hL9 _ hl60)
            | some p =>
              obtain ⟨pa, pb⟩ := p
              obtain ⟨⟨al, rfl, hal⟩, hne⟩ := hlv
              have hM : MeanAt sm.n (fnR rr) v pa pb := ⟨x, hlast, hL9.1, hL9.2⟩
              obtain ⟨⟨k0, y0, hk0, hy0, ea, eb⟩, hA⟩ := hL9
              have uniq : ∀ a' b', MeanAt sm.n (fnR rr) v a' b' → a' * pb ≤ pa * b' := fun a' b' ⟨x', hx', _, hA'⟩ => by
                rw [show fnR rr sm.n v = some x from hlast] at hx'
                cases hx'
                have := hA' k0 y0 hk0 hy0
                rw [eb, ea]
                exact this
              walk_at "wl"
              cases best with
              | none =>
                cases (show fv = .non from hfv)
                rw [decide_eq_true rfl]
                walk_at "wl"
                refine ⟨s7.trans s79, _, _, _, _, _, _, some (pa, pb), rfl, ⟨⟨al, rfl, hal⟩, hne⟩, ⟨v, by omega, hM⟩, fun u a' b' hu hM' => ?_⟩
                by_cases e : u = v
                · subst e
                  exact uniq _ _ hM'
                · obtain ⟨x', hx', _⟩ := hM'
                  rw [hB u (by omega)] at hx'
                  cases hx'
              | some p2 =>
                obtain ⟨fa, fb⟩ := p2
                obtain ⟨⟨fl, rfl, hfl⟩, hfne⟩ := hfv
                rw [decide_eq_false hfne]
                have hfl9 := s79 _ _ hfl
                obtain ⟨⟨u0, hu0, hM0⟩, hB2⟩ := hB
                have hfb : 0 < fb ∧ fb ≤ sm.n := by
                  obtain ⟨_, _, ⟨k1, _, hk1, _, _, e1⟩, _⟩ := hM0
                  omega
                walk_at "wl"
                refine w_ixT 0 rfl hal rfl ?_
                walk_at "wl"
                refine w_ixT 1 rfl hfl9 rfl ?_
                walk_at "wl"
                refine w_ixT 0 rfl hfl9 rfl ?_
                walk_at "wl"
                refine w_ixT 1 rfl hal rfl ?_
                walk_at "wl"
                refine w_iteD (fun hlt => ?_) (fun hge => ?_)
                · walk_at "wl"
                  refine ⟨s7.trans s79, _, _, _, _, _, _, some (pa, pb), rfl, ⟨⟨al, rfl, hal⟩, hne⟩, ⟨v, by omega, hM⟩, fun u a' b' hu hM' => ?_⟩
                  by_cases e : u = v
                  · subst e
                    exact uniq _ _ hM'
                  · have hlt' : fa * (pb : Int) < pa * (fb : Int) := hlt
                    have h1 := hB2 u a' b' (by omega) hM'
                    have hb' : 0 ≤ (b' : Int) := by omega
                    have h2 := frac_trans (a' := -pa) (a := -fa) (m := -a') (b := (fb : Int)) (b' := (pb : Int)) (c := (b' : Int)) (by omega) hb' (by omega) (by rw [Int.neg_mul, Int.neg_mul]; omega) (by rw [Int.neg_mul, Int.neg_mul]; omega)
                    rw [Int.neg_mul, Int.neg_mul] at h2
                    omega
                · walk_at "wl"
                  refine ⟨s7.trans s79, _, _, _, _, _, _, some (fa, fb), rfl, ⟨⟨fl, rfl, hfl9⟩, hfne⟩, ⟨u0, by omega, hM0⟩, fun u a' b' hu hM' => ?_⟩
                  by_cases e : u = v
                  · subst e
                    have hge' : ¬ fa * (pb : Int) < pa * (fb : Int) := hge
                    have h1 := uniq _ _ hM'
                    have h2 := frac_trans (a' := -fa) (a := -pa) (m := -a') (b := (pb : Int)) (b' := (fb : Int)) (c := (b' : Int)) (by omega) (by omega) (by omega) (by rw [Int.neg_mul, Int.neg_mul]; omega) (by rw [Int.neg_mul, Int.neg_mul]; omega)
                    rw [Int.neg_mul, Int.neg_mul] at h2
                    omega
                  · exact hB2 u a' b' (by omega) hM'
      · rintro σ H7 ⟨s7, z2, z5, z6, z7, z8, fv, best, rfl, hfv, hB⟩
        cases best with
        | none =>
          exfalso
          exact rows_zero (by omega) hp hR sm.n (Nat.le_refl _) (hB 0 hp)
        | some p =>
          obtain ⟨pa, pb⟩ := p
          obtain ⟨⟨al, rfl, hal⟩, hne⟩ := hfv
          have hpb : 0 < pb ∧ pb ≤ sm.n := by
            obtain ⟨⟨_, _, _, _, ⟨k1, _, hk1, _, _, e1⟩, _⟩, _⟩ := hB
            omega
          walk_at "wl"
          refine w_ixT 0 rfl hal rfl ?_
          walk_at "wl"
          refine w_ixT 1 rfl hal rfl ?_
          walk_at "wl"
          exact ⟨pa, pb, rfl, hpb.1, by omega, fun v' H' s' hf => k _ _ _ _ _ ((s6.trans s7).trans s') hR hB hf⟩
end
end WL
/-! numbers raised -/
namespace WL
open PySem PySem.Spec PyProof.Rows L2
open C8 (Cal Met Mak pe_c pe_mk pe_mt pe_mt0 pe_gc)
abbrev fnI (ps : List Int) : Nat → Int := fun v => ps.getD v 0
theorem cov_next {q n t : Nat} {c p p2 : Nat → Int} (hq : 0 < q) (h : Cov q n c t p) (hm : ∀ v, v < n → p v ≤ p2 v) (hs : ∀ x, x < n * q → p (x / q) + c x ≤ p2 (x % n)) : Cov q n c (t + 1) p2 := fun v k y hv hk w => by
  cases w with
  | nil _ => exact Int.le_trans (h v 0 0 hv (Nat.zero_le _) (.nil hv)) (hm v hv)
  | @step k x y hx w =>
    have h1 := h _ _ _ ((Nat.div_lt_iff_lt_mul hq).mpr hx) (by omega) w
    have h2 := hs x hx
    omega
section
variable {P : Program} {w : World} {K : PySem.W.Frag} {mg : Str → Option Value} {base : Heap}
abbrev sp_raised (K : PySem.W.Frag) : Sp := fun vs H Q _ => ∃ (v u : V) (s : Sm) (a : Int) (b : Nat), vs = [v, u] ∧ RSums K H v s ∧ s.Ok ∧ RF H u (a, b) ∧ b ≤ 1000 ∧ NoPos s.q s.n (costOf a b s.g.at) ∧
  ∀ a' H' ps, H a' = none → Same H H' → H' a' = some (.lst (ps.map V.int)) → ps.length = s.n → Feas s.q s.n (costOf a b s.g.at) (fnI ps) → Q (.ref a') H'
theorem ok_Sums_raised (T : Txt K mg) : Met P w K mg base 2 (He.ga K "Sums") "raised" (sp_raised K) [] := by
  refine met_of (d := d_Sums_raised) (ps := p_Sums_raised) ?_ T.cl_Sums T.m_Sums_raised
  refine fnok_of T.f_Sums_raised rfl rfl sc_Sums_raised (fun _ _ _ _ _ _ us hl => match us, hl with | [_, _], _ => rfl) (fun vs H Q E h => ?_) (fun cdv A outer s H vs Q E hr h => ⟨_, (pss_cons (ps_asg (pv 1) (pg_tupK (K := K) (n := 2) rfl rfl (pgs_cons (pg_name (i := 2) sc_Sums_raised.nd rfl (.inl rfl)) (pgs_cons (pg_name (i := 3) sc_Sums_raised.nd rfl (.inl rfl)) pgs_nil))))
      (pss_cons (ps_set (i := 4) sc_Sums_raised.nd rfl (Or.inl rfl) (pe_op op_rep (pe_lst (pa_cons pe_int pa_nil)) (pe_fldK (K := K) rfl (pv 0) rfl)))
      (pss_cons (ps_for PassesOwn.never rfl (pi_range1 rfl T.b_range (pa_cons (pe_op op_add (pe_fldK (K := K) rfl (pv 0) rfl) pe_int) pa_nil)) (pg_name (i := 5) sc_Sums_raised.nd rfl (.inl rfl)) (pss_cons (ps_set (i := 6) sc_Sums_raised.nd rfl (Or.inl rfl) pe_bl)
      (pss_cons (ps_for PassesOwn.never rfl (pi_range1 rfl T.b_range (pa_cons (pe_fldK (K := K) rfl (pv 0) rfl) pa_nil)) (pg_name (i := 7) sc_Sums_raised.nd rfl (.inl rfl)) (pss_one (ps_for PassesOwn.never rfl (pi_listK (K := K) rfl (pe_mt (ok_Sums_ways T) hr (by decide) (pv 0) (pa_cons (pv 7) pa_nil))) (pg_tupK (K := K) (n := 2) rfl rfl (pgs_cons (pg_name (i := 8) sc_Sums_raised.nd rfl (.inl rfl)) (pgs_cons (pg_name (i := 9) sc_Sums_raised.nd rfl (.inl rfl)) pgs_nil))) (pss_cons (ps_set (i := 10) sc_Sums_raised.nd rfl (Or.inl rfl) (pe_op op_sub (pe_op op_add (pe_ix (ix_listK (K := K) rfl) (pv 4) (pv 7) (fun _ _ => rfl)) (pe_op op_mul (pv 3) (pv 8))) (pv 2)))
      (pss_one (ps_if (pt_cmpR op_gt (pv 10) (pe_ix (ix_listK (K := K) rfl) (pv 4) (pv 9) (fun _ _ => rfl)) (nomark _)) (pss_cons (ps_asg (pv 10) (pg_sub (pv 4) (pv 9) set_list))
      (pss_one (ps_set (i := 6) sc_Sums_raised.nd rfl (Or.inl rfl) pe_bl))) pss_nil))))))
      (pss_one (ps_if (pt_val (pv 6)) (pss_one (ps_ret (pv 4))) pss_nil)))))
      (pss_one (ps_ret pe_non))))), ?_⟩)
  · obtain ⟨v, u, s, a, b, rfl, _⟩ := h
    rfl
  · obtain ⟨v, u, sm, ab, be, rfl, hv, o, ⟨pb, rfl, hpb⟩, hbe, np, k⟩ := h
    obtain ⟨a, dx, fs, rfl, ha, f1, f2, ⟨b, f3, hb⟩, m1, m2, m3, m4, m5, m6⟩ := id hv
    have hq := o.q2
    have hq0 : 0 < sm.q := by omega
    have hn := o.few
    have hp := o.pos
    have f2' : fs.lookup ("s_size" : Str) = some (.int ((sm.n : Nat) : Int)) := f2
    walk_at "wl"
    rename_i p0 H0 hp0 s0 e0
    refine w_rep sm.n rfl e0 (by omega) (by simp; omega) fun D H1 hD s1 e1 => ?_
    have e1' : H1 D = some (.lst ((List.replicate sm.n (0 : Int)).map V.int)) := by
      rw [e1]
      congr 2
      simp
    have hD0 : H D = none := by
      cases hh : H D with
      | none => rfl
      | some o => rw [s0 _ _ hh] at hD; cases hD
    have z0 : ∀ v, fnI (List.replicate sm.n (0 : Int)) v = 0 := fun v => by
      show (List.replicate sm.n (0 : Int)).getD v 0 = 0
      rw [List.getD_eq_getElem?_getD, List.getElem?_replicate]
      split <;> rfl
    walk_at "wl"
    refine w_rngAt (sm.n + 1) (by omega) (by omega) ?_
    refine f_rng (fun t σ H' => t ≤ sm.n ∧ Same H H' ∧ ∃ z5 z6 z7 z8 z9 z10 ps, σ = [some (.ref a), some (.ref pb), some (.int ab), some (.int be), some (.ref D), z5, z6, z7, z8, z9, z10] ∧ H' D = some (.lst (ps.map V.int)) ∧ ps.length = sm.n ∧ Att sm.q sm.n (costOf ab be sm.g.at) (fnI ps) ∧ Cov sm.q sm.n (costOf ab be sm.g.at) t (fnI ps)) ⟨Nat.zero_le _, s0.trans s1, _, _, _, _, _, _, _, rfl, e1', by simp, ?_, ?_⟩ ?_ ?_
    · intro v hv
      exact ⟨0, by rw [z0]; exact .nil hv⟩
    · intro v k y hv hk w
      have e : k = 0 := by omega
      subst e
      cases w
      rw [z0]
      exact Int.le_refl _
    · rintro t σ H2 ht ⟨htn, s2, z5, z6, z7, z8, z9, z10, ps, rfl, e2, hl2, hAtt, hCov⟩
      have ha2 := s2 _ _ ha
      have hfe : t = sm.n → Feas sm.q sm.n (costOf ab be sm.g.at) (fnI ps) := fun e => feas_of hq0 np (t := t) (by omega) hAtt hCov
      walk_at "wl"
      refine w_rngAt sm.n rfl (by omega) ?_
      refine f_rng (fun node σ H' => Same H H' ∧ ∃ z7 z8 z9 z10 ps2 st, σ = [some (.ref a), some (.ref pb), some (.int ab), some (.int be), some (.ref D), some (.int (t : Nat)), some (.bl st), z7, z8, z9, z10] ∧ H' D = some (.lst (ps2.map V.int)) ∧ ps2.length = sm.n ∧ Att sm.q sm.n (costOf ab be sm.g.at) (fnI ps2) ∧
        (∀ v, v < sm.n → fnI ps v ≤ fnI ps2 v) ∧ (∀ x, x < node * sm.q → fnI ps (x / sm.q) + costOf ab be sm.g.at x ≤ fnI ps2 (x % sm.n)) ∧ (st = true → ps2 = ps) ∧ (Feas sm.q sm.n (costOf ab be sm.g.at) (fnI ps) → st = true)) ⟨s2, _, _, _, _, ps, true, rfl, e2, hl2, hAtt, fun v hv => Int.le_refl _, fun x hx => by omega, fun _ => rfl, fun _ => rfl⟩ ?_ ?_
      · rintro node σ H3 hnode ⟨s3, z7, z8, z9, z10, ps2, st, rfl, e3, hl3, hA3, hM3, hS3, hE3, hF3⟩
        have hv3 := mono_sums _ _ _ _ s3 hv
        have ha3 := s3 _ _ ha
        walk_at "wl"
        refine ⟨_, sm, node, rfl, hv3, o, hnode, fun wa H4 hwn s4 hw => ?_⟩
        obtain ⟨_, ws, ew, hwa, al⟩ := hw
        cases ew
        have e4 : H4 D = some (.lst (ps2.map V.int)) := s4 _ _ e3
        have hwD : wa ≠ D := fun e => by
          subst e
          rw [e3] at hwn
          cases hwn
        have wl : ws.length = sm.q := by rw [al.1]; show ((List.range _).map _).length = _; rw [List.length_map, List.length_range]
        walk_at "wl"
        refine f_lst (xs := ws) (fun j σ H' => Same H H' ∧ But D H4 H' ∧ ∃ z8 z9 z10 ps2 st, σ = [some (.ref a), some (.ref pb), some (.int ab), some (.int be), some (.ref D), some (.int (t : Nat)), some (.bl st), some (.int (node : Nat)), z8, z9, z10] ∧ H' D = some (.lst (ps2.map V.int)) ∧ ps2.length = sm.n ∧ Att sm.q sm.n (costOf ab be sm.g.at) (fnI ps2) ∧
          (∀ v, v < sm.n → fnI ps v ≤ fnI ps2 v) ∧ (∀ x, x < node * sm.q + j → fnI ps (x / sm.q) + costOf ab be sm.g.at x ≤ fnI ps2 (x % sm.n)) ∧ (st = true → ps2 = ps) ∧ (Feas sm.q sm.n (costOf ab be sm.g.at) (fnI ps) → st = true))
          (fun j σ H' _ h => h.2.1 _ _ hwD hwa) ⟨s3.trans s4, But.rfl', _, _, _, ps2, st, rfl, e4, hl3, hA3, hM3, hS3, hE3, hF3⟩ ?_ ?_
        · rintro j x σ H5 hj hxj ⟨s5, b5, z8, z9, z10, ps5, st5, rfl, e5, hl5, hA5, hM5, hS5, hE5, hF5⟩
          have hjq : j < sm.q := by rw [wl] at hj; exact hj
          obtain ⟨p, y, z, rfl, hp5, hy, hz⟩ := way_but b5 e4 (al.2 j x _ hxj (by unfold waysOf; rw [List.getElem?_map, List.getElem?_range hjq]; rfl))
          cases hy
          cases hz
          have hlt : (node * sm.q + j) % sm.n < sm.n := Nat.mod_lt _ hp
          have hwd : (node * sm.q + j) / sm.q = node := word_div hjq
          have hwl : node * sm.q + j < sm.n * sm.q := word_lt hnode hjq
          walk_at "wl"
          refine w_ixL node rfl e5 (int_get (by omega)) ?_
          walk_at "wl"
          refine w_ixL ((node * sm.q + j) % sm.n) rfl e5 (int_get (by omega)) ?_
          walk_at "wl"
          have ew : ps5.getD node 0 + (be : Int) * sm.g.at (node * sm.q + j) - ab = fnI ps5 node + costOf ab be sm.g.at (node * sm.q + j) := by
            unfold costOf
            rw [Int.add_sub_assoc]
          refine w_iteD (fun hgt => ?_) (fun hle => ?_)
          · have hgt' : fnI ps5 ((node * sm.q + j) % sm.n) < ps5.getD node 0 + (be : Int) * sm.g.at (node * sm.q + j) - ab := hgt
            rw [ew] at hgt'
            walk_at "wl"
            refine w_setL ((node * sm.q + j) % sm.n) rfl e5 (by rw [List.length_map]; omega) ?_
            walk_at "wl"
            have gd : ∀ v, fnI (ps5.set ((node * sm.q + j) % sm.n) (fnI ps5 node + costOf ab be sm.g.at (node * sm.q + j))) v = if (node * sm.q + j) % sm.n = v then fnI ps5 node + costOf ab be sm.g.at (node * sm.q + j) else fnI ps5 v := fun v => getD_set _ _ _ _ _ (by omega)
            have up : ∀ v, fnI ps5 v ≤ fnI (ps5.set ((node * sm.q + j) % sm.n) (fnI ps5 node + costOf ab be sm.g.at (node * sm.q + j))) v := fun v => by
              rw [gd]
              split
              · rename_i e
                rw [← e]
                exact Int.le_of_lt hgt'
              · exact Int.le_refl _
            refine ⟨Same.mut s5 hD0, b5.upd, _, _, _, ps5.set ((node * sm.q + j) % sm.n) (fnI ps5 node + costOf ab be sm.g.at (node * sm.q + j)), false, rfl, ?_, by rw [List.length_set]; exact hl5, fun v hv => ?_, fun v hv => Int.le_trans (hM5 v hv) (up v), fun x hx => ?_, (fun z => by cases z), fun hfs => ?_⟩
            · rw [upd_same, List.map_set]
              congr 3
              exact congrArg V.int ew
            · rw [gd]
              split
              · rename_i e
                obtain ⟨kk, hk⟩ := hA5 node hnode
                refine ⟨kk + 1, ?_⟩
                rw [← e]
                refine Wk.step hwl ?_
                rw [hwd]
                exact hk
              · exact hA5 v hv
            · by_cases hx2 : x < node * sm.q + j
              · exact Int.le_trans (hS5 x hx2) (up _)
              · have e : x = node * sm.q + j := by omega
                subst e
                rw [gd, if_pos rfl, hwd]
                have := hM5 node hnode
                omega
            · exfalso
              have h1 := hE5 (hF5 hfs)
              have h2 := hfs _ hwl
              rw [hwd, ← h1] at h2
              omega
          · have hle' : ¬ fnI ps5 ((node * sm.q + j) % sm.n) < ps5.getD node 0 + (be : Int) * sm.g.at (node * sm.q + j) - ab := hle
            rw [ew] at hle'
            walk_at "wl"
            refine ⟨s5, b5, _, _, _, ps5, st5, rfl, e5, hl5, hA5, hM5, fun x hx => ?_, hE5, hF5⟩
            by_cases hx2 : x < node * sm.q + j
            · exact hS5 x hx2
            · have e : x = node * sm.q + j := by omega
              subst e
              rw [hwd]
              have := hM5 node hnode
              omega
        · rintro σ H5 ⟨s5, b5, z8, z9, z10, ps5, st5, rfl, e5, hl5, hA5, hM5, hS5, hE5, hF5⟩
          walk_at "wl"
          refine ⟨s5, _, _, _, _, ps5, st5, rfl, e5, hl5, hA5, hM5, fun x hx => hS5 x ?_, hE5, hF5⟩
          rw [Nat.add_mul, Nat.one_mul] at hx
          rw [wl]
          exact hx
      · rintro σ H3 ⟨s3, z7, z8, z9, z10, ps2, st, rfl, e3, hl3, hA3, hM3, hS3, hE3, hF3⟩
        walk_at "wl"
        cases st with
        | true =>
          have e := hE3 rfl
          subst e
          walk_at "wl"
          exact k _ _ ps2 hD0 s3 e3 hl3 hS3
        | false =>
          walk_at "wl"
          have hlt : t ≠ sm.n := fun e => by
            have := hF3 (hfe e)
            cases this
          exact ⟨by omega, s3, _, _, _, _, _, _, ps2, rfl, e3, hl3, hA3, cov_next hq0 hCov hM3 hS3⟩
    · rintro σ H2 ⟨htn, _⟩
      omega
end
end WL
/-! the least tight round of a size through a node -/
namespace WL
open PySem PySem.Spec PyProof.Rows L2
open C8 (Cal Met Mak pe_c pe_mk pe_mt pe_mt0 pe_gc)
/-- the tight ways out of u, of the first j kinds -/
def inn (s : Sm) (T : Nat → Bool) (u j : Nat) : List (Key × V) := ((List.range j).filter fun (k : Nat) => T (u * s.q + k)).map fun (k : Nat) => ((.inl (k : Int) : Key), nV ((u * s.q + k) % s.n))
theorem inn_succ (s : Sm) (T : Nat → Bool) (u j : Nat) : inn s T u (j + 1) = if T (u * s.q + j) = true then inn s T u j ++ [((.inl (j : Int) : Key), nV ((u * s.q + j) % s.n))] else inn s T u j := by
  unfold inn
  rw [List.range_succ, List.filter_append, List.map_append]
  cases h : T (u * s.q + j) with
  | true =>
    rw [if_pos rfl, List.filter_cons, if_pos h]
    rfl
  | false =>
    rw [if_neg (by decide), List.filter_cons, if_neg (by rw [h]; decide)]
    exact List.append_nil _
theorem inn_none (s : Sm) (T : Nat → Bool) (u : Nat) : ∀ j k, j ≤ k → valV (inn s T u j) (.inl (k : Int)) = none
  | 0, k, _ => rfl
  | j + 1, k, h => by
    have ih := inn_none s T u j
    rw [inn_succ]
    split
    · rw [valV_snoc _ _ _ _ (ih j (Nat.le_refl _)), if_neg (fun z => by injection z with z; omega)]
      exact ih k (by omega)
    · exact ih k (by omega)
theorem inn_get (s : Sm) (T : Nat → Bool) (u : Nat) : ∀ j k, k < j → valV (inn s T u j) (.inl (k : Int)) = if T (u * s.q + k) = true then some (nV ((u * s.q + k) % s.n)) else none
  | j + 1, k, h => by
    rw [inn_succ]
    by_cases e : k = j
    · subst e
      split
      · rw [valV_snoc _ _ _ _ (inn_none s T u k k (Nat.le_refl _)), if_pos rfl]
      · exact inn_none s T u k k (Nat.le_refl _)
    · have ih := inn_get s T u j k (by omega)
      split
      · rw [valV_snoc _ _ _ _ (inn_none s T u j j (Nat.le_refl _)), if_neg (fun z => by injection z with z; omega)]
        exact ih
      · exact ih
/-- the dict of dicts of tight ways -/
def TightAt (H : Hp) (d : Addr) (s : Sm) (T : Nat → Bool) : Prop := ∃ da : Nat → Addr, H d = some (.dK ((List.range s.n).map fun (u : Nat) => ((.inl (u : Int) : Key), V.ref (da u)))) ∧ ∀ u, u < s.n → da u ≠ d ∧ H (da u) = some (.dK (inn s T u s.q))
theorem outer_get (da : Nat → Addr) : ∀ (n u : Nat), u < n → valV ((List.range n).map fun (u : Nat) => ((.inl (u : Int) : Key), V.ref (da u))) (.inl (u : Int)) = some (.ref (da u))
  | n + 1, u, h => by
    have none_ : ∀ m k, m ≤ k → valV ((List.range m).map fun (u : Nat) => ((.inl (u : Int) : Key), V.ref (da u))) (.inl (k : Int)) = none := by
      intro m
      induction m with
      | zero => intro k _; rfl
      | succ m ih =>
        intro k hk
        rw [List.range_succ, List.map_append]
        show valV (_ ++ [((.inl (m : Int) : Key), V.ref (da m))]) _ = _
        rw [valV_snoc _ _ _ _ (ih m (Nat.le_refl _)), if_neg (fun z => by injection z with z; omega)]
        exact ih k (by omega)
    rw [List.range_succ, List.map_append]
    show valV (_ ++ [((.inl (n : Int) : Key), V.ref (da n))]) _ = _
    rw [valV_snoc _ _ _ _ (none_ n n (Nat.le_refl _))]
    by_cases e : u = n
    · subst e
      rw [if_pos rfl]
    · rw [if_neg (fun z => e (by injection z with z; omega))]
      exact outer_get da n u (by omega)
/-- a dict of ends: its nodes are told by S -/
def REnd (H0 : Hp) (D : Addr) (n : Nat) : Rl (Nat → Bool) := fun H v S => ∃ e kk, v = .ref e ∧ H0 e = none ∧ e ≠ D ∧ H e = some (.dK kk) ∧ ∀ u : Nat, u < n → (valV kk (.inl (u : Int))).isSome = S u
theorem any_items (L : List Nat) (g : Nat → Bool) : ((List.range L.length).map fun i => g (L.getD i 0)).any id = L.any g := by
  have e : (List.range L.length).map (fun i => g (L.getD i 0)) = L.map g := by
    refine List.ext_getElem? fun i => ?_
    rw [List.getElem?_map, List.getElem?_map]
    by_cases h : i < L.length
    · rw [List.getElem?_range h, List.getElem?_eq_getElem h]
      show some (g (L.getD i 0)) = some (g _)
      rw [List.getD_eq_getElem?_getD, List.getElem?_eq_getElem h]
      rfl
    · rw [List.getElem?_eq_none (by rw [List.length_range]; omega), List.getElem?_eq_none (by omega)]
      rfl
  rw [e, List.any_map]
  rfl
theorem any_filter (L : List Nat) (t g : Nat → Bool) : (L.filter t).any g = L.any fun k => t k && g k := by
  rw [List.any_filter]
section
variable {P : Program} {w : World} {K : PySem.W.Frag} {mg : Str → Option Value} {base : Heap}
def LrPost (s : Sm) (T : Nat → Bool) (goal size : Nat) : Option (List Nat) → Prop
  | none => ∀ c, c.length = size → ¬ Round s.q s.n (fun x => T x = true) goal c
  | some c => c.length = size ∧ Round s.q s.n (fun x => T x = true) goal c ∧ ∀ d, d.length = size → Round s.q s.n (fun x => T x = true) goal d → c = d ∨ lexLt c d
abbrev sp_least_round : Sp := fun vs H Q _ => ∃ (v : V) (s : Sm) (d : Addr) (T : Nat → Bool) (goal size : Nat), vs = [v, .ref d, .int goal, .int size] ∧ s.Ok ∧ TightAt H d s T ∧ goal < s.n ∧ size ≤ 100 ∧
  ∀ v' H' r, Same H H' → ROpt W H' v' r → LrPost s T goal size r → Q v' H'
theorem ok_Sums_least_round (T : Txt K mg) : Met P w K mg base 1 (He.ga K "Sums") "least_round" sp_least_round [] := by
  refine met_of (d := d_Sums_least_round) (ps := p_Sums_least_round) ?_ T.cl_Sums T.m_Sums_least_round
  refine fnok_of T.f_Sums_least_round rfl rfl sc_Sums_least_round (fun _ _ _ _ _ _ us hl => match us, hl with | [_, _, _, _], _ => rfl) (fun vs H Q E h => ?_) (fun cdv A outer s H vs Q E hr h => ⟨_, (pss_cons (ps_set (i := 4) sc_Sums_least_round.nd rfl (Or.inr rfl) (pe_lst (pa_cons (pe_disp (pps_cons (pv 2) pe_bl pps_nil) (by rfl) (by rfl) (fun z => by cases z) (by decide)) pa_nil)))
      (pss_cons (ps_for PassesOwn.never rfl (pi_range1 rfl T.b_range (pa_cons (pv 3) pa_nil)) (pg_name (i := 5) sc_Sums_least_round.nd rfl (.inl rfl)) (pss_one (ps_expr (pe_bm PySem.F.plainAttrs_list PySem.F.slot_list_append PySem.F.type_list_append mt_append (pv 4) (pa_cons (pe_lock (pe_dc (own := [("node", 6)]) (g := (gName 6)) (tt := _) rfl sc_Sums_least_round.nd (pi_keys (pv 1)) (blkOk_by (N := N_Sums_least_round) (sc := defScope s_Sums_least_round) (own := [("node", 6)]) (by decide +kernel)) (fun _ _ _ _ _ => (pg_name (i := 6) sc_Sums_least_round.nd rfl (.inl rfl))) (fun _ _ _ _ _ => (pts_one (pt_val (pe_callB (cl_anyK (K := K) rfl rfl) (by rfl) T.b_any (by decide +kernel) (pa_cons (pe_lock (pe_lc (own := [("later", 7)]) (g := (gName 7)) (tt := tYes) rfl sc_Sums_least_round.nd (pi_values (pe_dget (hu_of hr) (pv 1) (pv 6) (fun _ _ => rfl))) (blkOk_by (N := N_Sums_least_round) (sc := _) (own := [("later", 7)]) (by kernel_rfl)) (fun _ _ _ _ _ => (pg_name (i := 7) sc_Sums_least_round.nd rfl (.inl rfl))) (fun _ _ _ _ _ => pts_nil) (fun _ _ _ _ _ => (pe_cmp (pc_din (hu_of hr) (pv 7) (pe_ix (ix_listK (K := K) rfl) (pv 4) (pe_un un_neg pe_int) (fun _ _ => rfl))) rfl)))) pa_nil))))) (fun _ _ _ _ _ => (pv 6)) (fun _ _ _ _ _ => pe_bl))) pa_nil)))))
      (pss_cons (ps_if (pt_cmp (pc_dnotin (hu_of hr) (pv 2) (pe_ix (ix_listK (K := K) rfl) (pv 4) (pv 3) (fun _ _ => rfl))) rfl) (pss_one (ps_ret pe_non)) pss_nil)
      (pss_cons (ps_asg (pe_tup (pa_cons (pv 2) (pa_cons (pe_lst pa_nil) pa_nil))) (pg_tupK (K := K) (n := 2) rfl rfl (pgs_cons (pg_name (i := 8) sc_Sums_least_round.nd rfl (.inr rfl)) (pgs_cons (pg_name (i := 9) sc_Sums_least_round.nd rfl (.inl rfl)) pgs_nil))))
      (pss_cons (ps_for PassesOwn.never rfl (pi_range3 rfl T.b_range (pa_cons (pe_op op_sub (pv 3) pe_int) (pa_cons (pe_un un_neg pe_int) (pa_cons (pe_un un_neg pe_int) pa_nil)))) (pg_name (i := 10) sc_Sums_least_round.nd rfl (.inr rfl)) (pss_cons (ps_set (i := 11) sc_Sums_least_round.nd rfl (Or.inl rfl) (pe_ix (ix_listK (K := K) rfl) (pe_lc (own := [("kind", 11)]) (g := (gName 11)) (tt := _) rfl sc_Sums_least_round.nd (pi_listK (K := K) rfl (pe_callB (cl_sortD rfl) (by rfl) T.b_sorted (by decide +kernel) (pa_cons (pe_dget (hu_of hr) (pv 1) (pv 8) (fun _ _ => rfl)) pa_nil))) (blkOk_by (N := N_Sums_least_round) (sc := defScope s_Sums_least_round) (own := [("kind", 11)]) (by decide +kernel)) (fun _ _ _ _ _ => (pg_name (i := 11) sc_Sums_least_round.nd rfl (.inl rfl))) (fun _ _ _ _ _ => (pts_one (pt_cmp (pc_din (hu_of hr) (pe_dget (hu_of hr) (pe_dget (hu_of hr) (pv 1) (pv 8) (fun _ _ => rfl)) (pv 11) (fun _ _ => rfl)) (pe_ix (ix_listK (K := K) rfl) (pv 4) (pv 10) (fun _ _ => rfl))) rfl))) (fun _ _ _ _ _ => (pv 11))) pe_int (fun _ _ => rfl)))
      (pss_cons (ps_expr (pe_bm PySem.F.plainAttrs_list PySem.F.slot_list_append PySem.F.type_list_append mt_append (pv 9) (pa_cons (pv 11) pa_nil)))
      (pss_one (ps_set (i := 8) sc_Sums_least_round.nd rfl (Or.inr rfl) (pe_dget (hu_of hr) (pe_dget (hu_of hr) (pv 1) (pv 8) (fun _ _ => rfl)) (pv 11) (fun _ _ => rfl)))))))
      (pss_one (ps_ret (pe_callTy (cl_tupleK (K := K) rfl) (by rfl) T.b_tuple (by decide +kernel) (pa_cons (pv 9) pa_nil))))))))), ?_⟩)
  · obtain ⟨v, s, d, T, goal, size, rfl, _⟩ := h
    rfl
  · obtain ⟨v, sm, d, Tb, goal, size, rfl, o, ⟨da, hd, hda⟩, hgoal, hsize, k⟩ := h
    have hq := o.q2
    have hq0 : 0 < sm.q := by omega
    have hn := o.few
    have hp := o.pos
    walk_at "wl"
    refine w_disp1 fun p hp0 => ?_
    walk_at "wl"
    refine ⟨upd_same, .inl (goal : Int), rfl, ?_⟩
    have s1 : Same H (upd (upd H p (.dK [])) p (.dK [((.inl (goal : Int) : Key), .bl true)])) := Same.mut (same_upd hp0) hp0
    generalize hH1 : upd (upd H p (.dK [])) p (.dK [((.inl (goal : Int) : Key), .bl true)]) = H1 at s1
    have e1 : H1 p = some (.dK [((.inl (goal : Int) : Key), .bl true)]) := by rw [← hH1, upd_same]
    walk_at "wl"
    rename_i D H2 hD s2 e2
    have hD0 : H D = none := by
      cases hh : H D with
      | none => rfl
      | some o => rw [s1 _ _ hh] at hD; cases hD
    have hpD : p ≠ D := fun e => by rw [e, hD] at e1; cases e1
    refine w_rngAt size rfl (by omega) ?_
    refine f_rng (fun i σ H' => Same H H' ∧ ∃ z5 z6 z7 z8 z9 z10 z11 xs, σ = [some v, some (.ref d), some (.int (goal : Nat)), some (.int (size : Nat)), some (.ref D), z5, z6, z7, z8, z9, z10, z11] ∧ H' D = some (.lst xs) ∧ All2 (REnd H D sm.n H') xs ((List.range (i + 1)).map fun j => Eb sm.q sm.n Tb goal j)) ⟨s1.trans s2, _, _, _, _, _, _, _, _, rfl, e2, All2.nil.snoc ⟨p, _, rfl, hp0, hpD, s2 _ _ e1, fun u hu => ?_⟩⟩ ?_ ?_
    · by_cases e : goal = u
      · subst e
        rw [valV_pos rfl]
        show true = (goal == goal)
        simp
      · rw [valV_neg (fun z => e (by injection z with z; omega))]
        show false = (u == goal)
        symm
        simpa using fun h => e h.symm
    · rintro i σ H3 hi ⟨s3, z5, z6, z7, z8, z9, z10, z11, xs, rfl, e3, al3⟩
      have hlen : xs.length = i + 1 := by rw [al3.1, List.length_map, List.length_range]
      have hd3 := s3 _ _ hd
      have hDd : D ≠ d := fun e => by rw [e, hd] at hD0; cases hD0
      walk_at "wl"
      refine w_lock hd3 fun od H4 hb4 hf4 h4 => ?_
      walk_at "wl"
      refine dc_keys (fun u => Eb sm.q sm.n Tb goal (i + 1) u) h4 (fun j kk x hx => ?_) (by rw [List.length_map, List.length_range]; omega) (by decide) (fun _ => rfl) (fun _ => rfl) (fun u H5 hu s5 B hB => ?_) (fun e H5 kk he s5 ee hkk => ?_)
      · rw [List.getElem?_map] at hx
        by_cases hj : j < sm.n
        · rw [List.getElem?_range hj] at hx
          cases hx
          rfl
        · rw [List.getElem?_eq_none (by rw [List.length_range]; omega)] at hx
          cases hx
      · rw [List.length_map, List.length_range] at hu
        obtain ⟨hdu, hdau⟩ := hda u hu
        have h5u : H5 (da u) = some (.dK (inn sm Tb u sm.q)) := s5 _ _ (hb4 _ _ hdu (s3 _ _ hdau))
        walk_at "wl"
        refine w_lock h5u fun od2 H6 hb6 hf6 h6 => ?_
        walk_at "wl"
        refine w_dgetAt (.inr ⟨od, hb6 _ _ (Ne.symm hdu) (s5 _ _ h4)⟩) (outer_get da sm.n u hu) ?_
        walk_at "wl"
        have iat : ∀ (j : Nat) (kk : Key) (x : V), (inn sm Tb u sm.q)[j]? = some (kk, x) → x = nV ((u * sm.q + ((List.range sm.q).filter fun k => Tb (u * sm.q + k)).getD j 0) % sm.n) := fun j kk x hx => by
          unfold inn at hx
          rw [List.getElem?_map] at hx
          rw [List.getD_eq_getElem?_getD]
          cases hh : ((List.range sm.q).filter fun k => Tb (u * sm.q + k))[j]? with
          | none => rw [hh] at hx; cases hx
          | some k => rw [hh] at hx; cases hx; rfl
        have il : (inn sm Tb u sm.q).length = ((List.range sm.q).filter fun k => Tb (u * sm.q + k)).length := by
          unfold inn
          rw [List.length_map]
        have il2 : ((List.range sm.q).filter fun k => Tb (u * sm.q + k)).length ≤ sm.q := by
          have := List.length_filter_le (fun k => Tb (u * sm.q + k)) (List.range sm.q)
          rw [List.length_range] at this
          exact this
        have hDda : D ≠ da u := fun e => by rw [e, hdau] at hD0; cases hD0
        have h6D : H6 D = some (.lst xs) := hb6 _ _ hDda (s5 _ _ (hb4 _ _ hDd e3))
        obtain ⟨xe, hxe, e, kk, rfl, he0, heD, hee, hS⟩ := al3.at (i := i) (d := fun u => Eb sm.q sm.n Tb goal i u) (by rw [List.getElem?_map, List.getElem?_range (by omega)]; rfl)
        have hed : e ≠ d := fun z => by rw [z, hd] at he0; cases he0
        have heda : e ≠ da u := fun z => by rw [z, hdau] at he0; cases he0
        have h6e : H6 e = some (.dK kk) := hb6 _ _ heda (s5 _ _ (hb4 _ _ hed hee))
        refine lc_vals RBool mono_bool firm_bool (fun j => Eb sm.q sm.n Tb goal i ((u * sm.q + ((List.range sm.q).filter fun k => Tb (u * sm.q + k)).getD j 0) % sm.n)) h6 (by omega) (fun _ => rfl) (fun j kk2 x H7 hx s7 A hA => ?_) (fun lb ys H7 hlb s7 e7 al7 => ?_)
        · have := iat j kk2 x hx
          subst this
          walk_at "wl"
          refine w_ixEnd (s7 _ _ h6D) (by rw [hlen]; exact hxe) ?_
          refine w_dinAt (.inl (s7 _ _ h6e)) ?_
          refine hA _ _ (fun _ _ h => h) ?_
          show V.bl _ = V.bl _
          congr 1
          exact hS _ (Nat.mod_lt _ hp)
        · have s57 := same_unlock hb6 h5u s7
          refine ⟨s7 _ _ h6, ?_⟩
          walk_at "wl"
          have hlbd : lb ≠ da u := fun z => by rw [z, h6] at hlb; cases hlb
          refine ⟨lb, _, rfl, sqL (by rw [upd_ne hlbd, e7, bool_items al7]), ?_⟩
          walk_at "wl"
          have eb : (((List.range (inn sm Tb u sm.q).length).map fun j => Eb sm.q sm.n Tb goal i ((u * sm.q + ((List.range sm.q).filter fun k => Tb (u * sm.q + k)).getD j 0) % sm.n)).any id) = Eb sm.q sm.n Tb goal (i + 1) u := by
            rw [il, any_items _ (fun k => Eb sm.q sm.n Tb goal i ((u * sm.q + k) % sm.n)), any_filter]
            show _ = (decide (u < sm.n) && _)
            rw [decide_eq_true hu, Bool.true_and]
          rw [eb]
          exact hB _ s57
      · have s35 := same_unlock hb4 hd3 s5
        refine ⟨s5 _ _ h4, ?_⟩
        walk_at "wl"
        have hed : e ≠ d := fun z => by rw [z, h4] at he; cases he
        have heD : e ≠ D := fun z => by
          rw [z] at he
          have := hb4 _ _ hDd e3
          rw [he] at this
          cases this
        have he0 : H e = none := by
          cases hh : H e with
          | none => rfl
          | some o =>
            have := hb4 _ _ hed (s3 _ _ hh)
            rw [he] at this
            cases this
        refine w_app (s35 _ _ e3) (by omega) ?_
        walk_at "wl"
        refine ⟨Same.mut (s3.trans s35) hD0, _, _, _, _, _, _, _, xs ++ [.ref e], rfl, upd_same, ?_⟩
        rw [List.range_succ, List.map_append]
        have keep : ∀ x S, REnd H D sm.n H3 x S → REnd H D sm.n (upd (upd H5 d (.dK ((List.range sm.n).map fun (u : Nat) => ((.inl (u : Int) : Key), V.ref (da u))))) D (.lst (xs ++ [.ref e]))) x S := fun x S ⟨e', kk', h1, h2, h3, h4, h5⟩ => ⟨e', kk', h1, h2, h3, by rw [upd_ne h3]; exact s35 _ _ h4, h5⟩
        refine All2.snoc (al3.imp keep) ⟨e, kk, rfl, he0, heD, by rw [upd_ne heD, upd_ne hed]; exact ee, fun u hu => ?_⟩
        rw [hkk u, List.length_map, List.length_range, decide_eq_true hu, Bool.true_and]
    · rintro σ H3 ⟨s3, z5, z6, z7, z8, z9, z10, z11, xs, rfl, e3, al3⟩
      have hlen : xs.length = size + 1 := by rw [al3.1, List.length_map, List.length_range]
      have hd3 := s3 _ _ hd
      walk_at "wl"
      obtain ⟨xe, hxe, e, kk, rfl, he0, heD, hee, hS⟩ := al3.at (i := size) (d := fun u => Eb sm.q sm.n Tb goal size u) (by rw [List.getElem?_map, List.getElem?_range (by omega)]; rfl)
      refine w_ixL size rfl e3 hxe ?_
      refine w_dninAt (.inl hee) ?_
      have hS' : (valV kk (.inl (goal : Int))).isSome = Eb sm.q sm.n Tb goal size goal := hS goal hgoal
      rw [hS']
      walk_at "wl"
      cases hE : Eb sm.q sm.n Tb goal size goal with
      | false =>
        walk_at "wl"
        refine k _ _ none s3 rfl fun c hc hr => ?_
        rw [(eb_iff hp size goal hgoal).mpr ⟨c, hc, hr.2.1, hr.2.2.1, hr.2.2.2⟩] at hE
        cases hE
      | true =>
        walk_at "wl"
        rename_i F H4 hF s4 e4 pt H5 s5 e5
        walk_at "wl"
        have s35 := s4.trans s5
        have hF5 : H5 F = some (.lst ([].map nV)) := s5 _ _ e4
        have hF0 : H F = none := by
          cases hh : H F with
          | none => rfl
          | some o => rw [s3 _ _ hh] at hF; cases hF
        refine w_rngDown size rfl rfl (by omega) ?_
        refine f_down (fun i σ H' => Same H H' ∧ But F H5 H' ∧ ∃ z10 z11 c, σ = [some v, some (.ref d), some (.int (goal : Nat)), some (.int (size : Nat)), some (.ref D), z5, z6, z7, some (nV (goTo sm.q sm.n goal c)), some (.ref F), z10, z11] ∧ H' F = some (.lst (c.map nV)) ∧ c.length = i ∧ Kinds sm.q c ∧
          tightTo sm.q sm.n (fun x => Tb x = true) goal c ∧ Eb sm.q sm.n Tb goal (size - i) (goTo sm.q sm.n goal c) = true ∧ ∀ d, d.length = size → Round sm.q sm.n (fun x => Tb x = true) goal d → c = d.take i ∨ lexLt c (d.take i)) ⟨s3.trans s35, But.rfl', _, _, [], rfl, hF5, rfl, fun x hx => (by cases hx), trivial, hE, fun d _ _ => .inl rfl⟩ ?_ ?_
        · rintro i σ H6 hi ⟨s6, b6, z10, z11, c, rfl, eF, hcl, hck, hct, hcE, hcL⟩
          have hhere : goTo sm.q sm.n goal c < sm.n := goTo_lt hp c goal hgoal
          generalize hh : goTo sm.q sm.n goal c = here at *
          obtain ⟨hdu, hdau⟩ := hda here hhere
          have hd6 := s6 _ _ hd
          have h6u := s6 _ _ hdau
          walk_at "wl"
          refine w_dgetAt (.inl hd6) (outer_get da sm.n here hhere) ?_
          walk_at "wl"
          have ikeys : (inn sm Tb here sm.q).map (·.1) = (((List.range sm.q).filter fun (k : Nat) => Tb (here * sm.q + k)).map fun (k : Nat) => (k : Int)).map Sum.inl := by
            unfold inn
            rw [List.map_map, List.map_map]
            rfl
          have il2 : ((List.range sm.q).filter fun k => Tb (here * sm.q + k)).length ≤ sm.q := by
            have := List.length_filter_le (fun k => Tb (here * sm.q + k)) (List.range sm.q)
            rw [List.length_range] at this
            exact this
          refine ⟨da here, _, _, rfl, .inl h6u, ikeys, by rw [List.length_map]; omega, fun ys p hperm hsort hp6 => ?_⟩
          have s7 : Same H6 (upd H6 p (.lst (ys.map V.int))) := same_upd hp6
          have e7 : upd H6 p (.lst (ys.map V.int)) p = some (.lst (ys.map V.int)) := upd_same
          generalize upd H6 p (.lst (ys.map V.int)) = H7 at s7 e7
          walk_at "wl"
          have hyl : ys.length ≤ sm.q := by rw [hperm.length_eq, List.length_map]; exact il2
          have hmem : ∀ (y : Int), y ∈ ys ↔ ∃ k : Nat, y = k ∧ k < sm.q ∧ Tb (here * sm.q + k) = true := fun y => by
            rw [hperm.mem_iff, List.mem_map]
            constructor
            · rintro ⟨k, hk, rfl⟩
              rw [List.mem_filter, List.mem_range] at hk
              exact ⟨k, rfl, hk.1, hk.2⟩
            · rintro ⟨k, rfl, h1, h2⟩
              exact ⟨k, by rw [List.mem_filter, List.mem_range]; exact ⟨h1, h2⟩, rfl⟩
          let g : Int → Bool := fun y => Eb sm.q sm.n Tb goal (size - 1 - i) ((here * sm.q + y.toNat) % sm.n)
          obtain ⟨xe2, hxe2, e2', kk2, rfl, he20, he2D, hee2, hS2⟩ := al3.at (i := size - 1 - i) (d := fun u => Eb sm.q sm.n Tb goal (size - 1 - i) u) (by rw [List.getElem?_map, List.getElem?_range (by omega)]; rfl)
          have hDF : D ≠ F := fun z => by rw [z, hF] at e3; cases e3
          have heF : e2' ≠ F := fun z => by rw [z, hF] at hee2; cases hee2
          have e6D : H6 D = some (.lst xs) := b6 _ _ hDF (s35 _ _ e3)
          have e6e : H6 e2' = some (.dK kk2) := b6 _ _ heF (s35 _ _ hee2)
          refine lc_lstF RInt mono_int firm_int (fun j => g (ys.getD j 0)) (fun j => ys.getD j 0) e7 (by rw [List.length_map]; omega) (fun _ => rfl) (fun j x H8 hj hx s8 A B hA hB => ?_) (fun lb zs H8 hlb s8 e8 al8 => ?_)
          · obtain ⟨y, rfl, hy⟩ := int_at hx
            obtain ⟨kq, rfl, hkq, hkT⟩ := (hmem y).mp (List.mem_of_getElem? hy)
            have gy : ys.getD j 0 = (kq : Int) := by
              rw [List.getD_eq_getElem?_getD, hy]
              rfl
            have s68 := s7.trans s8
            walk_at "wl"
            refine w_dgetAt (.inl (s68 _ _ hd6)) (outer_get da sm.n here hhere) ?_
            walk_at "wl"
            refine w_dgetAt (.inl (s68 _ _ h6u)) (by rw [inn_get _ _ _ _ _ hkq, if_pos hkT]) ?_
            walk_at "wl"
            refine w_ixL (size - 1 - i) rfl (s68 _ _ e6D) hxe2 ?_
            refine w_dinAt (.inl (s68 _ _ e6e)) ?_
            have hS2' : (valV kk2 (.inl (((here * sm.q + kq) % sm.n : Nat) : Int))).isSome = Eb sm.q sm.n Tb goal (size - 1 - i) ((here * sm.q + kq) % sm.n) := hS2 _ (Nat.mod_lt _ hp)
            rw [hS2']
            walk_at "wl"
            have gg : g (ys.getD j 0) = Eb sm.q sm.n Tb goal (size - 1 - i) ((here * sm.q + kq) % sm.n) := by
              rw [gy]
              show Eb _ _ _ _ _ ((here * sm.q + ((kq : Int)).toNat) % sm.n) = _
              rw [Int.toNat_natCast]
            cases hb : Eb sm.q sm.n Tb goal (size - 1 - i) ((here * sm.q + kq) % sm.n) with
            | true =>
              rw [if_pos rfl]
              walk_at "wl"
              exact hA _ _ (gg.trans hb) (fun _ _ h => h) (by show V.int _ = V.int _; rw [gy])
            | false =>
              rw [if_neg (by decide)]
              exact hB _ (gg.trans hb) (fun _ _ h => h)
          · have hz : zs = (ys.filter g).map V.int := by
              have := int_items al8
              rw [List.length_map] at this
              rw [this, filter_items]
            have hex : ∃ k, k < sm.q ∧ Tb (here * sm.q + k) = true ∧ Eb sm.q sm.n Tb goal (size - 1 - i) ((here * sm.q + k) % sm.n) = true := by
              rw [show size - i = (size - 1 - i) + 1 by omega] at hcE
              unfold Eb at hcE
              rw [Bool.and_eq_true, List.any_eq_true] at hcE
              obtain ⟨_, k, hk, hk2⟩ := hcE
              rw [List.mem_range] at hk
              rw [Bool.and_eq_true] at hk2
              exact ⟨k, hk, hk2⟩
            cases hM : ys.filter g with
            | nil =>
              exfalso
              obtain ⟨k, hk1, hk2, hk3⟩ := hex
              have : (k : Int) ∈ ys.filter g := by
                rw [List.mem_filter]
                refine ⟨(hmem _).mpr ⟨k, rfl, hk1, hk2⟩, ?_⟩
                show Eb _ _ _ _ _ ((here * sm.q + ((k : Int)).toNat) % sm.n) = true
                rw [Int.toNat_natCast]
                exact hk3
              rw [hM] at this
              cases this
            | cons m0 rest =>
              have hm0 : m0 ∈ ys.filter g := by rw [hM]; exact List.mem_cons_self
              rw [List.mem_filter] at hm0
              obtain ⟨km, rfl, hkm, hkT⟩ := (hmem m0).mp hm0.1
              have hkE : Eb sm.q sm.n Tb goal (size - 1 - i) ((here * sm.q + km) % sm.n) = true := by
                have := hm0.2
                rw [show g (km : Int) = Eb sm.q sm.n Tb goal (size - 1 - i) ((here * sm.q + ((km : Int)).toNat) % sm.n) from rfl, Int.toNat_natCast] at this
                exact this
              have hleast : ∀ k, k < sm.q → Tb (here * sm.q + k) = true → Eb sm.q sm.n Tb goal (size - 1 - i) ((here * sm.q + k) % sm.n) = true → km ≤ k := fun k h1 h2 h3 => by
                have hk : (k : Int) ∈ ys.filter g := by
                  rw [List.mem_filter]
                  refine ⟨(hmem _).mpr ⟨k, rfl, h1, h2⟩, ?_⟩
                  show Eb _ _ _ _ _ ((here * sm.q + ((k : Int)).toNat) % sm.n) = true
                  rw [Int.toNat_natCast]
                  exact h3
                have hs2 := hsort.filter g
                rw [hM] at hk hs2
                rcases List.mem_cons.mp hk with h | h
                · omega
                · have := (List.pairwise_cons.mp hs2).1 _ h
                  omega
              have s68 := s7.trans s8
              refine w_ixL 0 rfl e8 (by rw [hz, hM]; rfl) ?_
              have hF8 := s68 _ _ eF
              walk_at "wl"
              refine w_app hF8 (by rw [List.length_map]; omega) ?_
              walk_at "wl"
              have hFd : d ≠ F := fun z => by rw [z, hF0] at hd; cases hd
              have hFda : da here ≠ F := fun z => by rw [z, hF0] at hdau; cases hdau
              refine w_dgetAt (.inl (by rw [upd_ne hFd]; exact s68 _ _ hd6)) (outer_get da sm.n here hhere) ?_
              walk_at "wl"
              refine w_dgetAt (.inl (by rw [upd_ne hFda]; exact s68 _ _ h6u)) (by rw [inn_get _ _ _ _ _ hkm, if_pos hkT]) ?_
              walk_at "wl"
              have hgo : goTo sm.q sm.n goal (c ++ [km]) = (here * sm.q + km) % sm.n := by
                rw [goTo_append, hh]
                rfl
              refine ⟨Same.mut (s6.trans s68) hF0, fun a x hne hx => by rw [upd_ne hne]; exact s68 _ _ (b6 a x hne hx), some (.int ((size - 1 - i : Nat) : Int)), some (.int (km : Int)), c ++ [km], ?_, ?_, ?_, ?_, ?_, ?_, fun dd hdl hdr => ?_⟩
              · rw [hgo]
                rfl
              · rw [upd_same, List.map_append]
                rfl
              · rw [List.length_append, hcl]
                rfl
              · exact hck.append fun x hx => by rw [List.mem_singleton] at hx; rw [hx]; exact hkm
              · rw [tightTo_append]
                refine ⟨hct, ?_, trivial⟩
                show Tb (goTo sm.q sm.n goal c * sm.q + km) = true
                rw [hh]
                exact hkT
              · rw [hgo, show size - (i + 1) = size - 1 - i by omega]
                exact hkE
              · have hdi : i < dd.length := by omega
                have hsp : dd.take (i + 1) = dd.take i ++ [dd[i]] := by rw [List.take_succ, List.getElem?_eq_getElem hdi]; rfl
                rw [hsp]
                rcases hcL dd hdl hdr with h | h
                · obtain ⟨hr1, hr2, hr3, hr4⟩ := hdr
                  have hdd : dd = c ++ (dd[i] :: dd.drop (i + 1)) := by
                    rw [h, ← List.drop_eq_getElem_cons hdi, List.take_append_drop]
                  have hr4' := hr4
                  have hr3' := hr3
                  rw [hdd, tightTo_append, hh] at hr4'
                  rw [hdd, goTo_append, hh] at hr3'
                  have h1 := hr2 _ (List.getElem_mem hdi)
                  have h2 : Eb sm.q sm.n Tb goal (size - 1 - i) ((here * sm.q + dd[i]) % sm.n) = true := (eb_iff hp _ _ (Nat.mod_lt _ hp)).mpr ⟨dd.drop (i + 1), by rw [List.length_drop]; omega, fun x hx => hr2 x (List.mem_of_mem_drop hx), hr3', hr4'.2.2⟩
                  have h3 := hleast _ h1 hr4'.2.1 h2
                  rw [← h]
                  by_cases heq : km = dd[i]
                  · left
                    rw [heq]
                  · right
                    exact lexLt_same c (.inl (by omega))
                · right
                  exact lexLt_append _ _ h
        · rintro σ H6 ⟨s6, b6, z10, z11, c, rfl, eF, hcl, hck, hct, hcE, hcL⟩
          walk_at "wl"
          rename_i pr H7 s7 e7
          refine k _ _ (some c) (s6.trans s7) ⟨⟨pr, rfl, e7⟩, fun z => by cases z⟩ ⟨hcl, ⟨hgoal, hck, ?_, hct⟩, fun dd hdl hdr => ?_⟩
          · rw [Nat.sub_self] at hcE
            have : (goTo sm.q sm.n goal c == goal) = true := hcE
            simpa using this
          · have := hcL dd hdl hdr
            rw [← hdl, List.take_length] at this
            exact this
end
end WL
/-! the least of the shortest tight rounds -/
namespace WL
open PySem PySem.Spec PyProof.Rows L2
open C8 (Cal Met Mak pe_c pe_mk pe_mt pe_mt0 pe_gc)
/-! data in the heap, told by PyData -/
abbrev wD (w : List Nat) : PyData := .tuple (w.map fun (n : Nat) => PyData.int n)
theorem dp_ints {K : PySem.W.Frag} {H : Hp} : ∀ w : List Nat, DpAll K H (w.map nV) (w.map fun (n : Nat) => PyData.int n)
  | [] => .nil
  | n :: w => .cons (.int _) (dp_ints w)
theorem dp_word {K : PySem.W.Frag} {H : Hp} {v : V} {w : List Nat} (h : W H v w) : Dp K H v (wD w) := by
  obtain ⟨a, rfl, ha⟩ := h
  exact .tup (sqT ha) (dp_ints w)
theorem dp_words {K : PySem.W.Frag} {H : Hp} : ∀ (xs : List V) (ws : List (List Nat)), All2 (W H) xs ws → DpAll K H xs (ws.map wD)
  | [], [], _ => .nil
  | [], _ :: _, h => by cases h.1
  | _ :: _, [], h => by cases h.1
  | x :: xs, w :: ws, h => .cons (dp_word (h.2 0 x w rfl rfl)) (dp_words xs ws ⟨by simpa using h.1, fun i y d h1 h2 => h.2 (i + 1) y d h1 h2⟩)
theorem lay_ints : ∀ w : List Nat, PyData.canLayAll0 (w.map fun (n : Nat) => PyData.int n) = true ∧ PyData.depthAll (w.map fun (n : Nat) => PyData.int n) ≤ 1
  | [] => ⟨by simp [PyData.canLayAll0], by simp [PyData.depthAll]⟩
  | n :: w => by
    have h := lay_ints w
    simp only [List.map_cons, PyData.canLayAll0, PyData.canLay0, PyData.depthAll, PyData.depth, Bool.true_and]
    exact ⟨h.1, by have := h.2; omega⟩
theorem lay_word (w : List Nat) : (wD w).canLay0 = true ∧ (wD w).depth ≤ 2 := by
  have h := lay_ints w
  simp only [PyData.canLay0, PyData.depth]
  exact ⟨h.1, by have := h.2; omega⟩
theorem lay_words : ∀ ws : List (List Nat), PyData.canLayAll0 (ws.map wD) = true ∧ PyData.depthAll (ws.map wD) ≤ 2
  | [] => ⟨by simp [PyData.canLayAll0], by simp [PyData.depthAll]⟩
  | w :: ws => by
    have h1 := lay_word w
    have h := lay_words ws
    rw [List.map_cons]
    unfold PyData.canLayAll0 PyData.depthAll
    rw [h1.1, h.1]
    exact ⟨rfl, by have := h.2; have := h1.2; omega⟩
theorem shaped_of {d : PyData} (h : d.canLay0 = true) (h2 : d.depth ≤ 64) : SeqAt.shaped d = true := by
  unfold SeqAt.shaped
  rw [h, decide_eq_true h2]
  rfl
theorem shaped_words (ws : List (List Nat)) : SeqAt.shaped (.list (ws.map wD)) = true := by
  have h := lay_words ws
  refine shaped_of ?_ ?_
  · unfold PyData.canLay0
    exact h.1
  · unfold PyData.depth
    have := h.2
    omega
theorem eqv_nil (ws : List (List Nat)) : PyData.eqv (.list (ws.map wD)) (.list []) = ws.isEmpty := by
  cases ws with
  | nil => simp [PyData.eqv, PyData.eqvAll]
  | cons w ws => simp [PyData.eqv, PyData.eqvAll]
theorem htLt_of : ∀ {a b : List Nat}, lexLt a b → HT.lexLt (a.map fun (n : Nat) => (n : Int)) (b.map fun (n : Nat) => (n : Int)) = true
  | [], _, h => by cases h
  | _ :: _, [], h => by cases h
  | x :: a, y :: b, h => by
    rw [List.map_cons, List.map_cons, HT.lexLt_cons]
    rcases h with h | ⟨h1, h2⟩
    · rw [if_neg (by omega)]
      exact decide_eq_true (by omega)
    · rw [if_pos (by rw [h1])]
      exact htLt_of h2
theorem ri_word {H : Hp} {v : V} {w : List Nat} (h : W H v w) : RI H v (w.map fun (n : Nat) => (n : Int)) := by
  obtain ⟨a, rfl, ha⟩ := h
  refine ⟨a, _, rfl, ha, ?_⟩
  have := all2_int (H := H) (w.map fun (n : Nat) => (n : Int))
  rw [List.map_map] at this
  exact this
/-- words chosen for values -/
theorem all2_choose {H : Hp} {P : Nat → List Nat → Prop} : ∀ (zs : List V) (is : List Nat), All2 (fun x i => ∃ c, W H x c ∧ P i c) zs is → ∃ cs, All2 (W H) zs cs ∧ (∀ c ∈ cs, ∃ i ∈ is, P i c) ∧ ∀ i ∈ is, ∃ c ∈ cs, P i c
  | [], [], _ => ⟨[], All2.nil, fun c hc => (by cases hc), fun i hi => (by cases hi)⟩
  | [], _ :: _, h => by cases h.1
  | _ :: _, [], h => by cases h.1
  | z :: zs, i :: is, h => by
    obtain ⟨c, hc, hP⟩ := h.2 0 z i rfl rfl
    obtain ⟨cs, h1, h2, h3⟩ := all2_choose zs is ⟨by simpa using h.1, fun j y d a b => h.2 (j + 1) y d a b⟩
    refine ⟨c :: cs, h1.cons hc, fun d hd => ?_, fun j hj => ?_⟩
    · rcases List.mem_cons.mp hd with e | e
      · exact ⟨i, List.mem_cons_self, e ▸ hP⟩
      · obtain ⟨j, hj, hp⟩ := h2 d e
        exact ⟨j, List.mem_cons_of_mem _ hj, hp⟩
    · rcases List.mem_cons.mp hj with e | e
      · exact ⟨c, List.mem_cons_self, e ▸ hP⟩
      · obtain ⟨d, hd, hp⟩ := h3 j e
        exact ⟨d, List.mem_cons_of_mem _ hd, hp⟩
theorem outer_none (da : Nat → Addr) : ∀ (m k : Nat), m ≤ k → valV ((List.range m).map fun (u : Nat) => ((.inl (u : Int) : Key), V.ref (da u))) (.inl (k : Int)) = none
  | 0, _, _ => rfl
  | m + 1, k, hk => by
    rw [List.range_succ, List.map_append]
    show valV (_ ++ [((.inl (m : Int) : Key), V.ref (da m))]) _ = _
    rw [valV_snoc _ _ _ _ (outer_none da m m (Nat.le_refl _)), if_neg (fun z => by injection z with z; omega)]
    exact outer_none da m k (by omega)
theorem f_rngFrom {lo nn : Nat} {σ : L2.St} {H : Hp} {D : Ends} {gg : TG} {tb : TS} (Pv : Nat → L2.St → Hp → Prop) (h0 : Pv 0 σ H)
    (hs : ∀ (i : Nat) σ H, i < nn → Pv i σ H → gg (.int ((lo + i : Nat) : Int)) σ H fun σ2 H2 => tb { D with nx := Pv (i + 1), ct := Pv (i + 1), bk := D.nx } σ2 H2) (hd : ∀ σ H, Pv nn σ H → D.nx σ H) : ForW (Itr (lo : Int) nn) gg tb D σ H :=
  for_range Pv h0 (fun i σ H hi p => by
    have e : V.int ((lo : Int) + (i : Int)) = V.int ((lo + i : Nat) : Int) := by rw [Int.natCast_add]
    rw [e]
    exact hs i σ H hi p) hd
section
variable {P : Program} {w : World} {K : PySem.W.Frag} {mg : Str → Option Value} {base : Heap}
/-- a walk goes round with the sum 0 -/
def ZeroRound (s : Sm) (c : Nat → Int) : Prop := ∃ u w, u < s.n ∧ Kinds s.q w ∧ 1 ≤ w.length ∧ w.length ≤ s.n ∧ goTo s.q s.n u w = u ∧ sumTo s.q s.n c u w = 0
abbrev sp_shortest (K : PySem.W.Frag) : Sp := fun vs H Q _ => ∃ (v u : V) (s : Sm) (a : Int) (b : Nat), vs = [v, u] ∧ RSums K H v s ∧ s.Ok ∧ RF H u (a, b) ∧ b ≤ 1000 ∧ NoPos s.q s.n (costOf a b s.g.at) ∧ ZeroRound s (costOf a b s.g.at) ∧
  ∀ v' H' p c, Same H H' → Feas s.q s.n (costOf a b s.g.at) p → LeastRound s.q s.n (fun x => p (x / s.q) + costOf a b s.g.at x = p (x % s.n)) c → W H' v' c → Q v' H'
theorem ok_Sums_shortest (T : Txt K mg) : Met P w K mg base 3 (He.ga K "Sums") "shortest" (sp_shortest K) [] := by
  refine met_of (d := d_Sums_shortest) (ps := p_Sums_shortest) ?_ T.cl_Sums T.m_Sums_shortest
  refine fnok_of T.f_Sums_shortest rfl rfl sc_Sums_shortest (fun _ _ _ _ _ _ us hl => match us, hl with | [_, _], _ => rfl) (fun vs H Q E h => ?_) (fun cdv A outer s H vs Q E hr h => ⟨_, (pss_cons (ps_asg (pv 1) (pg_tupK (K := K) (n := 2) rfl rfl (pgs_cons (pg_name (i := 2) sc_Sums_shortest.nd rfl (.inl rfl)) (pgs_cons (pg_name (i := 3) sc_Sums_shortest.nd rfl (.inl rfl)) pgs_nil))))
      (pss_cons (ps_asg (pe_tup (pa_cons (pe_mt (ok_Sums_raised T) hr (by decide) (pv 0) (pa_cons (pv 1) pa_nil)) (pa_cons pe_dnewK pa_nil))) (pg_tupK (K := K) (n := 2) rfl rfl (pgs_cons (pg_name (i := 4) sc_Sums_shortest.nd rfl (.inl rfl)) (pgs_cons (pg_name (i := 5) sc_Sums_shortest.nd rfl (.inr rfl)) pgs_nil))))
      (pss_cons (ps_for PassesOwn.never rfl (pi_range1 rfl T.b_range (pa_cons (pe_fldK (K := K) rfl (pv 0) rfl) pa_nil)) (pg_name (i := 6) sc_Sums_shortest.nd rfl (.inl rfl)) (pss_cons (ps_dput (hu_of hr) (pv 5) (pv 6) pe_dnewK rfl)
      (pss_one (ps_for PassesOwn.never rfl (pi_enumK (K := K) rfl (by rfl) T.b_enumerate (pa_cons (pe_mt (ok_Sums_ways T) hr (by decide) (pv 0) (pa_cons (pv 6) pa_nil)) pa_nil)) (pg_tupK (K := K) (n := 2) rfl rfl (pgs_cons (pg_name (i := 7) sc_Sums_shortest.nd rfl (.inl rfl)) (pgs_cons (pg_tupK (K := K) (n := 2) rfl rfl (pgs_cons (pg_name (i := 8) sc_Sums_shortest.nd rfl (.inl rfl)) (pgs_cons (pg_name (i := 9) sc_Sums_shortest.nd rfl (.inl rfl)) pgs_nil))) pgs_nil))) (pss_one (ps_if (pt_cmpR op_eq (pe_op op_sub (pe_op op_add (pe_ix (ix_listK (K := K) rfl) (pv 4) (pv 6) (fun _ _ => rfl)) (pe_op op_mul (pv 3) (pv 8))) (pv 2)) (pe_ix (ix_listK (K := K) rfl) (pv 4) (pv 9) (fun _ _ => rfl)) (nomark _)) (pss_one (ps_dput (hu_of hr) (pe_dget (hu_of hr) (pv 5) (pv 6) (fun _ _ => rfl)) (pv 7) (pv 9) rfl)) pss_nil))))))
      (pss_cons (ps_for PassesOwn.never rfl (pi_range2 rfl T.b_range (pa_cons pe_int (pa_cons (pe_op op_add (pe_fldK (K := K) rfl (pv 0) rfl) pe_int) pa_nil))) (pg_name (i := 10) sc_Sums_shortest.nd rfl (.inr rfl)) (pss_cons (ps_setLc (i := 11) (own := [("node", 6)]) (g := (gName 6)) (tt := tYes) rfl sc_Sums_shortest.nd rfl rfl (sw_true rfl rfl rfl (by decide +kernel)) (pi_range1 rfl T.b_range (pa_cons (pe_fldK (K := K) rfl (pv 0) rfl) pa_nil)) (blkOk_by (N := N_Sums_shortest) (sc := defScope s_Sums_shortest) (own := [("node", 6)]) (by decide +kernel)) (fun _ _ _ _ _ => (pg_name (i := 6) sc_Sums_shortest.nd rfl (.inl rfl))) (fun _ _ _ _ _ => pts_nil) (fun _ _ _ _ _ => (pe_mt (ok_Sums_least_round T) hr (by decide) (pv 0) (pa_cons (pv 5) (pa_cons (pv 6) (pa_cons (pv 10) pa_nil))))))
      (pss_cons (ps_setLc (i := 12) (own := [("cells", 13)]) (g := (gName 13)) (tt := _) rfl sc_Sums_shortest.nd rfl rfl (sw_true rfl rfl rfl (by decide +kernel)) (pi_listK (K := K) rfl (pv 11)) (blkOk_by (N := N_Sums_shortest) (sc := defScope s_Sums_shortest) (own := [("cells", 13)]) (by decide +kernel)) (fun _ _ _ _ _ => (pg_name (i := 13) sc_Sums_shortest.nd rfl (.inl rfl))) (fun _ _ _ _ _ => (pts_one (pt_cmpR ol_notN (pv 13) pe_non (nomark _)))) (fun _ _ _ _ _ => (pv 13)))
      (pss_one (ps_if (pt_cmpR (op_neDK (K := K) rfl hr.units) (pv 12) (pe_lst pa_nil) (nomark _)) (pss_one (ps_ret (pe_callB (cr_minT hr rfl) (by rfl) T.b_min (by decide +kernel) (pa_cons (pv 12) pa_nil)))) pss_nil)))))
      (pss_one (ps_ret pe_non)))))), ?_⟩)
  · obtain ⟨v, u, s, a, b, rfl, _⟩ := h
    rfl
  · obtain ⟨v, u, sm, ab, be, rfl, hv, o, ⟨pb, rfl, hpb⟩, hbe, np, ⟨zu, zw, hz1, hz2, hz3, hz4, hz5, hz6⟩, k⟩ := h
    obtain ⟨a, dx, fs, rfl, ha, f1, f2, ⟨b, f3, hb⟩, m1, m2, m3, m4, m5, m6⟩ := id hv
    have hq := o.q2
    have hq0 : 0 < sm.q := by omega
    have hn := o.few
    have hp := o.pos
    have f2' : fs.lookup ("s_size" : Str) = some (.int ((sm.n : Nat) : Int)) := f2
    walk_at "wl"
    refine ⟨_, _, sm, ab, be, rfl, hv, o, ⟨pb, rfl, hpb⟩, hbe, np, fun na H1 ps hna0 s1 e1 hpl hF => ?_⟩
    let Tb : Nat → Bool := fun x => decide (fnI ps (x / sm.q) + costOf ab be sm.g.at x = fnI ps (x % sm.n))
    walk_at "wl"
    rename_i d H2 hd1 s2 e2 pt H3 s3 e3
    walk_at "wl"
    refine w_rngAt sm.n rfl (by omega) ?_
    refine f_rng (fun i σ H' => Same H1 H' ∧ ∃ z6 z7 z8 z9 z10 z11 z12 z13 da, σ = [some (.ref a), some (.ref pb), some (.int ab), some (.int be), some (.ref na), some (.ref d), z6, z7, z8, z9, z10, z11, z12, z13] ∧ H' d = some (.dK ((List.range i).map fun (u : Nat) => ((.inl (u : Int) : Key), V.ref (da u)))) ∧ ∀ u, u < i → da u ≠ d ∧ H' (da u) = some (.dK (inn sm Tb u sm.q)))
      ⟨s2.trans s3, _, _, _, _, _, _, _, _, fun _ => 0, rfl, s3 _ _ e2, fun u hu => by omega⟩ ?_ ?_
    · rintro node σ H4 hnode ⟨s4, z6, z7, z8, z9, z10, z11, z12, z13, da, rfl, e4, hda⟩
      walk_at "wl"
      rename_i e H5 he s5 ee
      have hed : e ≠ d := fun z => by rw [z, e4] at he; cases he
      have he1 : H1 e = none := by
        cases hh : H1 e with
        | none => rfl
        | some o => rw [s4 _ _ hh] at he; cases he
      refine w_dputAt (s5 _ _ e4) (by rw [List.length_map, List.length_range]; omega) ?_
      rw [putK_new (outer_none da node node (Nat.le_refl _))]
      have s6 : Same H1 (upd H5 d (.dK ((List.range node).map (fun (u : Nat) => ((.inl (u : Int) : Key), V.ref (da u))) ++ [((.inl (node : Int) : Key), V.ref e)]))) := Same.mut (s4.trans s5) hd1
      have b6 : ∀ c x, c ≠ d → H5 c = some x → upd H5 d (.dK ((List.range node).map (fun (u : Nat) => ((.inl (u : Int) : Key), V.ref (da u))) ++ [((.inl (node : Int) : Key), V.ref e)])) c = some x := fun c x hc h => by rw [upd_ne hc]; exact h
      have e6 : upd H5 d (.dK ((List.range node).map (fun (u : Nat) => ((.inl (u : Int) : Key), V.ref (da u))) ++ [((.inl (node : Int) : Key), V.ref e)])) d = some (.dK ((List.range (node + 1)).map fun (u : Nat) => ((.inl (u : Int) : Key), V.ref (if u = node then e else da u)))) := by
        rw [upd_same, List.range_succ, List.map_append]
        congr 3
        · refine List.map_congr_left fun u hu => ?_
          rw [List.mem_range] at hu
          rw [if_neg (by omega)]
        · show _ = [((.inl (node : Int) : Key), V.ref (if node = node then e else da node))]
          rw [if_pos rfl]
      generalize upd H5 d (.dK ((List.range node).map (fun (u : Nat) => ((.inl (u : Int) : Key), V.ref (da u))) ++ [((.inl (node : Int) : Key), V.ref e)])) = H6 at s6 b6 e6
      have s06 := s1.trans s6
      have hv6 := mono_sums _ _ _ _ s06 hv
      have ha6 := s06 _ _ ha
      have ee6 : H6 e = some (.dK []) := b6 _ _ hed ee
      have hda6 : ∀ u, u < node → da u ≠ d ∧ da u ≠ e ∧ H6 (da u) = some (.dK (inn sm Tb u sm.q)) := fun u hu => by
        obtain ⟨h1, h2⟩ := hda u hu
        refine ⟨h1, fun z => ?_, b6 _ _ h1 (s5 _ _ h2)⟩
        rw [z, he] at h2
        cases h2
      walk_at "wl"
      refine ⟨_, sm, node, rfl, hv6, o, hnode, fun wa H7 hwn s7 hw => ?_⟩
      obtain ⟨_, ws, ew, hwa, al⟩ := hw
      cases ew
      have wl : ws.length = sm.q := by rw [al.1]; show ((List.range _).map _).length = _; rw [List.length_map, List.length_range]
      have ee7 := s7 _ _ ee6
      have hwe : wa ≠ e := fun z => by rw [z, ee6] at hwn; cases hwn
      walk_at "wl"
      refine f_enum (xs := ws) (fun j σ H' => Same H1 H' ∧ But e H7 H' ∧ ∃ z7 z8 z9, σ = [some (.ref a), some (.ref pb), some (.int ab), some (.int be), some (.ref na), some (.ref d), some (.int (node : Nat)), z7, z8, z9, z10, z11, z12, z13] ∧ H' e = some (.dK (inn sm Tb node j)))
        (fun j σ H' _ h => h.2.1 _ _ hwe hwa) ⟨s6.trans s7, But.rfl', _, _, _, rfl, ee7⟩ ?_ ?_
      · rintro j x σ H8 H9 hj hxj ⟨s8, b8, z7, z8, z9, rfl, e8⟩ s9
        have hjq : j < sm.q := by rw [wl] at hj; exact hj
        have hne : ∀ (c : Addr) (y z : V), H7 c = some (.tup [y, z]) → c ≠ e := fun c y z h z2 => by rw [z2, ee7] at h; cases h
        obtain ⟨p, y, z, rfl, hp7, hy, hz⟩ := al.2 j x _ hxj (by unfold waysOf; rw [List.getElem?_map, List.getElem?_range hjq]; rfl)
        cases hy
        cases hz
        have hp9 := s9 _ _ (b8 _ _ (hne _ _ _ hp7) hp7)
        have s19 := s8.trans s9
        have e19 := s19 _ _ e1
        have hlt : (node * sm.q + j) % sm.n < sm.n := Nat.mod_lt _ hp
        walk_at "wl"
        refine w_ixL node rfl e19 (int_get (by omega)) ?_
        walk_at "wl"
        refine w_ixL ((node * sm.q + j) % sm.n) rfl e19 (int_get (by omega)) ?_
        have ew : ps.getD node 0 + (be : Int) * sm.g.at (node * sm.q + j) - ab = fnI ps node + costOf ab be sm.g.at (node * sm.q + j) := by
          unfold costOf
          rw [Int.add_sub_assoc]
        have hTb : Tb (node * sm.q + j) = decide (ps.getD node 0 + (be : Int) * sm.g.at (node * sm.q + j) - ab = ps.getD ((node * sm.q + j) % sm.n) 0) := by
          show decide (fnI ps ((node * sm.q + j) / sm.q) + _ = _) = _
          rw [word_div hjq, ew]
        walk_at "wl"
        refine w_iteD (fun heq => ?_) (fun hneq => ?_)
        · have hT : Tb (node * sm.q + j) = true := by rw [hTb]; exact decide_eq_true heq
          have hd7 := s7 _ _ e6
          have hd9 : H9 d = some (.dK ((List.range (node + 1)).map fun (u : Nat) => ((.inl (u : Int) : Key), V.ref (if u = node then e else da u)))) := s9 _ _ (b8 _ _ (Ne.symm hed) hd7)
          walk_at "wl"
          refine w_dgetAt (.inl hd9) (outer_get (fun u => if u = node then e else da u) (node + 1) node (by omega)) ?_
          rw [if_pos rfl]
          walk_at "wl"
          refine w_dputAt (s9 _ _ e8) ?_ ?_
          · have : (inn sm Tb node j).length ≤ j := by
              unfold inn
              rw [List.length_map]
              have := List.length_filter_le (fun (k : Nat) => Tb (node * sm.q + k)) (List.range j)
              rw [List.length_range] at this
              exact this
            omega
          walk_at "wl"
          refine ⟨Same.mut s19 he1, fun c x hc h => by rw [upd_ne hc]; exact s9 _ _ (b8 c x hc h), _, _, _, rfl, ?_⟩
          rw [upd_same, putK_new (inn_none sm Tb node j j (Nat.le_refl _)), inn_succ, if_pos hT]
        · have hT : Tb (node * sm.q + j) = false := by rw [hTb]; exact decide_eq_false hneq
          walk_at "wl"
          refine ⟨s19, fun c x hc h => s9 _ _ (b8 c x hc h), _, _, _, rfl, ?_⟩
          rw [inn_succ, if_neg (by rw [hT]; decide)]
          exact s9 _ _ e8
      · rintro σ H8 ⟨s8, b8, z7, z8, z9, rfl, e8⟩
        walk_at "wl"
        refine ⟨s8, _, _, _, _, _, _, _, _, fun u => if u = node then e else da u, rfl, b8 _ _ (Ne.symm hed) (s7 _ _ e6), fun u hu => ?_⟩
        by_cases c : u = node
        · subst c
          show (if u = u then e else da u) ≠ d ∧ H8 (if u = u then e else da u) = _
          rw [if_pos rfl]
          rw [wl] at e8
          exact ⟨hed, e8⟩
        · show (if u = node then e else da u) ≠ d ∧ H8 (if u = node then e else da u) = _
          rw [if_neg c]
          obtain ⟨h1, h2, h3⟩ := hda6 u (by omega)
          exact ⟨h1, b8 _ _ h2 (s7 _ _ h3)⟩
    · rintro σ H4 ⟨s4, z6, z7, z8, z9, z10, z11, z12, z13, da, rfl, e4, hda⟩
      have ha4 := (s1.trans s4) _ _ ha
      have hT4 : TightAt H4 d sm Tb := ⟨da, e4, hda⟩
      walk_at "wl"
      refine w_rng2At 1 sm.n rfl (by omega) (by omega) ?_
      refine f_rngFrom (fun i σ H' => Same H4 H' ∧ (∀ u c, 1 ≤ c.length → c.length ≤ i → ¬ Round sm.q sm.n (fun x => Tb x = true) u c) ∧ ∃ z6 z10 z11 z12 z13, σ = [some (.ref a), some (.ref pb), some (.int ab), some (.int be), some (.ref na), some (.ref d), z6, z7, z8, z9, z10, z11, z12, z13]) ⟨fun _ _ h => h, fun u c h1 h2 => by omega, _, _, _, _, _, rfl⟩ ?_ ?_
      · rintro i σ H5 hi ⟨s5, hno, z6, z10, z11, z12, z13, rfl⟩
        have ha5 := s5 _ _ ha4
        walk_at "wl"
        refine w_rngAt sm.n rfl (by omega) ?_
        let R : Rl Nat := fun H v u => ∃ r, ROpt W H v r ∧ LrPost sm Tb u (1 + i) r
        have mR : Mono R := fun H H' v u s ⟨r, h1, h2⟩ => ⟨r, mono_opt mono_W _ _ _ _ s h1, h2⟩
        have fR : Firm R := fun H D xs zs v u e ⟨r, h1, h2⟩ => ⟨r, firm_opt firm_W H D xs zs v r e h1, h2⟩
        refine lc_rng R mR fR (fun u => u) (by omega) (fun _ => rfl) (fun u H6 hu s6 A hA => ?_) (fun fa ys H6 hfa s6 e6 al6 => ?_)
        · have s56 := s5.trans s6
          have ha6 := s56 _ _ ha4
          walk_at "wl"
          refine ⟨_, sm, d, Tb, u, 1 + i, rfl, o, ⟨da, s56 _ _ e4, fun u hu => ⟨(hda u hu).1, s56 _ _ (hda u hu).2⟩⟩, hu, by omega, fun v' H' r s' hr hp' => hA _ _ s' ⟨r, hr, hp'⟩⟩
        · rw [List.map_id'] at al6
          have yl : ys.length = sm.n := by rw [al6.1, List.length_range]
          walk_at "wl"
          refine lc_lstF R mR fR (fun j => !decide (ys.getD j .non = V.non)) (fun j => j) e6 (by omega) (fun _ => rfl) (fun j x H7 hj hx s7 A B hA hB => ?_) (fun sa zs H7 hsa s7 e7 al7 => ?_)
          · have gx : ys.getD j .non = x := by
              rw [List.getD_eq_getElem?_getD, hx]
              rfl
            have hRx : R H7 x j := mR _ _ _ _ s7 (al6.2 j x j hx (by rw [List.getElem?_range (by omega)]))
            walk_at "wl"
            by_cases c : x = V.non
            · rw [decide_eq_true c]
              walk_at "wl"
              exact hB _ (by rw [gx, decide_eq_true c]; rfl) (fun _ _ h => h)
            · rw [decide_eq_false c]
              walk_at "wl"
              exact hA _ _ (by rw [gx, decide_eq_false c]; rfl) (fun _ _ h => h) hRx
          · rw [List.map_id'] at al7
            rw [yl] at al7
            have hys : ∀ v, v < sm.n → ∃ r, ROpt W H6 (ys.getD v .non) r ∧ LrPost sm Tb v (1 + i) r := fun v hv => by
              obtain ⟨x, hx, hr⟩ := al6.at (i := v) (d := v) (List.getElem?_range hv)
              rw [List.getD_eq_getElem?_getD, hx]
              exact hr
            have hall : All2 (fun x v => ∃ c, W H7 x c ∧ LrPost sm Tb v (1 + i) (some c)) zs ((List.range sm.n).filter fun j => !decide (ys.getD j .non = V.non)) := ⟨al7.1, fun j x v hx hv => by
              obtain ⟨r, hr, hpost⟩ := al7.2 j x v hx hv
              have hm := List.mem_of_getElem? hv
              rw [List.mem_filter, List.mem_range] at hm
              obtain ⟨r', hr', hpost'⟩ := hys v hm.1
              cases r with
              | some c => exact ⟨c, hr.1, hpost⟩
              | none =>
                cases r' with
                | none =>
                  have hn0 : ys.getD v .non = V.non := hr'
                  have := hm.2
                  rw [hn0] at this
                  simp at this
                | some c => exact absurd hpost'.2.1 (hpost c hpost'.1)⟩
            obtain ⟨cs, hcs, hcs1, hcs2⟩ := all2_choose zs _ hall
            have hround : ∀ v c, c.length = 1 + i → Round sm.q sm.n (fun x => Tb x = true) v c → ∃ c' ∈ cs, LrPost sm Tb v (1 + i) (some c') := fun v c hcl hr => by
              obtain ⟨r', hr', hpost'⟩ := hys v hr.1
              cases r' with
              | none => exact absurd hr (hpost' c hcl)
              | some c' =>
                refine hcs2 v ?_
                rw [List.mem_filter, List.mem_range, decide_eq_false hr'.2]
                exact ⟨hr.1, rfl⟩
            walk_at "wl"
            rename_i pn H8 hpn s8 e8
            have hcs8 : All2 (W H8) zs cs := hcs.imp fun x c h => mono_W _ _ _ _ s8 h
            have nil_shaped : SeqAt.shaped (.list []) = true := shaped_words []
            refine ⟨.list (cs.map wD), .list [], .lst (sqL (s8 _ _ e7)) (dp_words zs cs hcs8), .lst (sqL e8) .nil, shaped_words cs, nil_shaped, ?_⟩
            rw [eqv_nil]
            walk_at "wl"
            cases cs with
            | nil =>
              show if (!true) = true then _ else _
              walk_at "wl"
              refine ⟨((s5.trans s6).trans s7).trans s8, fun v c h1 h2 hr => ?_, _, _, _, _, _, rfl⟩
              by_cases hc : c.length ≤ i
              · exact hno v c h1 hc hr
              · obtain ⟨c', hc', _⟩ := hround v c (by omega) hr
                cases hc'
            | cons c0 rest =>
              show if (!false) = true then _ else _
              walk_at "wl"
              refine ⟨sa, zs, (c0 :: rest).map fun c => c.map fun (n : Nat) => (n : Int), rfl, s8 _ _ e7, ⟨by rw [List.length_map]; exact hcs8.1, fun j x m hx hm => ?_⟩, by simp, fun j x m hx hm hmin => ?_⟩
              · rw [List.getElem?_map] at hm
                cases hh : (c0 :: rest)[j]? with
                | none => rw [hh] at hm; cases hm
                | some c => rw [hh] at hm; cases hm; exact ri_word (hcs8.2 j x c hx hh)
              · rw [List.getElem?_map] at hm
                cases hh : (c0 :: rest)[j]? with
                | none => rw [hh] at hm; cases hm
                | some c =>
                  rw [hh] at hm
                  cases hm
                  obtain ⟨v, hv, hpost⟩ := hcs1 c (List.mem_of_getElem? hh)
                  have hless : ∀ y ∈ (c0 :: rest), ¬ lexLt y c := fun y hy hl => by
                    have h1 := hmin _ (List.mem_map.mpr ⟨y, hy, rfl⟩)
                    rw [htLt_of hl] at h1
                    cases h1
                  refine k _ _ (fnI ps) c (s1.trans ((((s4.trans s5).trans s6).trans s7).trans s8)) hF ?_ (hcs8.2 j x c hx hh)
                  have cv : ∀ v c, Round sm.q sm.n (fun x => fnI ps (x / sm.q) + costOf ab be sm.g.at x = fnI ps (x % sm.n)) v c ↔ Round sm.q sm.n (fun x => Tb x = true) v c := fun v c => by simp [Tb]
                  obtain ⟨hl1, hr1, hmin1⟩ := hpost
                  refine ⟨by omega, by omega, ⟨v, (cv _ _).mpr hr1⟩, fun v' c' h1 hr => ?_⟩
                  have hr' := (cv _ _).mp hr
                  by_cases hc : c'.length ≤ i
                  · exact absurd hr' (hno v' c' h1 hc)
                  · by_cases hc2 : c'.length = 1 + i
                    · right
                      refine ⟨by omega, fun hl => ?_⟩
                      obtain ⟨c2, hc2m, hp2⟩ := hround v' c' hc2 hr'
                      have h2 := hless c2 hc2m
                      rcases hp2.2.2 c' hc2 hr' with e | e
                      · exact h2 (e ▸ hl)
                      · exact h2 (lexLt_trans' e hl)
                    · left
                      omega
      · rintro σ H5 ⟨s5, hno, _⟩
        exfalso
        refine hno zu zw hz3 hz4 ?_
        obtain ⟨r1, r2, r3, r4⟩ := round_of_zero hp hF hz1 hz2 hz5 hz6
        exact ⟨r1, r2, r3, by simpa [Tb] using r4⟩
end
end WL
/-! the greatest mean of all rounds, by the rows of greatest sums -/
namespace WL
theorem exists_max {α : Type} (f : α → Int) (g : α → Nat) : ∀ (L : List α), L ≠ [] → (∀ x ∈ L, 0 < g x) → ∃ x ∈ L, ∀ y ∈ L, f y * (g x : Int) ≤ f x * (g y : Int)
  | [], h, _ => absurd rfl h
  | [a], _, _ => ⟨a, List.mem_cons_self, fun y hy => by
    rw [List.mem_singleton] at hy
    rw [hy]
    exact Int.le_refl _⟩
  | a :: b :: L, _, hp => by
    obtain ⟨x, hx, hm⟩ := exists_max f g (b :: L) (by simp) fun x hx => hp x (List.mem_cons_of_mem _ hx)
    have ga := hp a List.mem_cons_self
    have gx := hp x (List.mem_cons_of_mem _ hx)
    by_cases c : f x * (g a : Int) ≤ f a * (g x : Int)
    · refine ⟨a, List.mem_cons_self, fun y hy => ?_⟩
      rcases List.mem_cons.mp hy with e | e
      · rw [e]
        exact Int.le_refl _
      · have h1 := hm y e
        have gy := hp y hy
        have h2 := frac_trans (a' := -f a) (a := -f x) (m := -f y) (b := (g x : Int)) (b' := (g a : Int)) (c := (g y : Int)) (by omega) (by omega) (by omega) (by rw [Int.neg_mul, Int.neg_mul]; omega) (by rw [Int.neg_mul, Int.neg_mul]; omega)
        rw [Int.neg_mul, Int.neg_mul] at h2
        omega
    · refine ⟨x, List.mem_cons_of_mem _ hx, fun y hy => ?_⟩
      rcases List.mem_cons.mp hy with e | e
      · rw [e]
        omega
      · exact hm y e
/-- all words of at most m kinds -/
def upTo (q : Nat) : Nat → List (List Nat)
  | 0 => [[]]
  | m + 1 => [] :: ((List.range q).flatMap fun k => (upTo q m).map fun w => k :: w)
theorem mem_upTo {q : Nat} : ∀ (m : Nat) (w : List Nat), w ∈ upTo q m ↔ Kinds q w ∧ w.length ≤ m
  | 0, w => by
    unfold upTo
    rw [List.mem_singleton]
    constructor
    · rintro rfl
      exact ⟨fun x hx => (by cases hx), Nat.le_refl _⟩
    · intro h
      exact List.length_eq_zero_iff.mp (by omega)
  | m + 1, w => by
    unfold upTo
    rw [List.mem_cons, List.mem_flatMap]
    constructor
    · rintro (rfl | ⟨k, hk, h⟩)
      · exact ⟨fun x hx => (by cases hx), Nat.zero_le _⟩
      · rw [List.mem_map] at h
        obtain ⟨v, hv, rfl⟩ := h
        obtain ⟨h1, h2⟩ := (mem_upTo m v).mp hv
        refine ⟨fun x hx => ?_, by rw [List.length_cons]; omega⟩
        rcases List.mem_cons.mp hx with e | e
        · rw [e]
          exact List.mem_range.mp hk
        · exact h1 x e
    · rintro ⟨h1, h2⟩
      cases w with
      | nil => exact .inl rfl
      | cons k w =>
        refine .inr ⟨k, List.mem_range.mpr (h1 k List.mem_cons_self), List.mem_map.mpr ⟨w, (mem_upTo m w).mpr ⟨fun x hx => h1 x (List.mem_cons_of_mem _ hx), by rw [List.length_cons] at h2; omega⟩, rfl⟩⟩
/-- a closed way -/
def Closed (q n u : Nat) (w : List Nat) : Prop := u < n ∧ Kinds q w ∧ goTo q n u w = u
/-- a / b is the greatest mean of all closed ways -/
structure MaxMean (q n : Nat) (wt : Nat → Int) (a : Int) (b : Nat) : Prop where
  pos : 0 < b
  most : ∀ u w, Closed q n u w → sumTo q n wt u w * b ≤ a * w.length
  has : ∃ u w, Closed q n u w ∧ 1 ≤ w.length ∧ w.length ≤ n ∧ sumTo q n wt u w * b = a * w.length
theorem MaxMean.scale {q n : Nat} {wt : Nat → Int} {a a' : Int} {b b' : Nat} (h : MaxMean q n wt a b) (hb : 0 < b') (e : a' * b = a * b') : MaxMean q n wt a' b' := by
  have hbp := h.pos
  refine ⟨hb, fun u w hc => ?_, ?_⟩
  · have h1 := h.most u w hc
    refine Int.le_of_mul_le_mul_right (a := (b : Int)) ?_ (by omega)
    have h2 : sumTo q n wt u w * (b : Int) * (b' : Int) ≤ a * (w.length : Int) * (b' : Int) := Int.mul_le_mul_of_nonneg_right h1 (by omega)
    have e1 : sumTo q n wt u w * (b' : Int) * (b : Int) = sumTo q n wt u w * (b : Int) * (b' : Int) := by rw [Int.mul_assoc, Int.mul_comm (b' : Int), ← Int.mul_assoc]
    have e2 : a' * (w.length : Int) * (b : Int) = a * (w.length : Int) * (b' : Int) := by rw [Int.mul_assoc, Int.mul_comm (w.length : Int), ← Int.mul_assoc, e, Int.mul_assoc, Int.mul_comm (b' : Int), ← Int.mul_assoc]
    rw [e1, e2]
    exact h2
  · obtain ⟨u, w, hc, h1, h2, h3⟩ := h.has
    refine ⟨u, w, hc, h1, h2, ?_⟩
    refine Int.eq_of_mul_eq_mul_right (a := (b : Int)) (by omega) ?_
    have e1 : sumTo q n wt u w * (b' : Int) * (b : Int) = sumTo q n wt u w * (b : Int) * (b' : Int) := by rw [Int.mul_assoc, Int.mul_comm (b' : Int), ← Int.mul_assoc]
    have e2 : a' * (w.length : Int) * (b : Int) = a * (w.length : Int) * (b' : Int) := by rw [Int.mul_assoc, Int.mul_comm (w.length : Int), ← Int.mul_assoc, e, Int.mul_assoc, Int.mul_comm (b' : Int), ← Int.mul_assoc]
    rw [e1, e2, h3]
theorem most_of_short {q n : Nat} {wt : Nat → Int} {a : Int} {b : Nat} (hn : 0 < n) (h : ∀ u w, Closed q n u w → 1 ≤ w.length → w.length ≤ n → sumTo q n wt u w * b ≤ a * w.length) : ∀ (m : Nat) u w, w.length ≤ m → Closed q n u w → sumTo q n wt u w * b ≤ a * w.length
  | 0, u, w, hm, hc => by
    have e : w = [] := List.length_eq_zero_iff.mp (by omega)
    subst e
    show (0 : Int) * b ≤ a * ((0 : Nat) : Int)
    simp
  | m + 1, u, w, hm, hc => by
    by_cases c : w.length = 0
    · exact most_of_short hn h m u w (by omega) hc
    · by_cases hl : w.length ≤ n
      · exact h u w hc (by omega) hl
      · obtain ⟨hu, hk, hg⟩ := hc
        obtain ⟨x, y, z, e, hy, hyl, hr⟩ := round_in (q := q) hn hu (show n ≤ w.length by omega)
        have hyp : 0 < y.length := List.length_pos_iff.mpr hy
        subst e
        have hx := goTo_lt (q := q) hn x u hu
        have h1 := h (goTo q n u x) y ⟨hx, hk.right.left, hr⟩ (by omega) hyl
        have h2 := most_of_short hn h m u (x ++ z) (by
          rw [List.length_append, List.length_append] at hm
          rw [List.length_append]
          omega) ⟨hu, hk.left.append hk.right.right, by
          rw [goTo_append, goTo_append, hr] at hg
          rw [goTo_append]
          exact hg⟩
        rw [sumTo_append, sumTo_append, hr, List.length_append, List.length_append]
        rw [sumTo_append, List.length_append] at h2
        have e1 : (sumTo q n wt u x + (sumTo q n wt (goTo q n u x) y + sumTo q n wt (goTo q n u x) z)) * (b : Int) = (sumTo q n wt u x + sumTo q n wt (goTo q n u x) z) * b + sumTo q n wt (goTo q n u x) y * b := by
          rw [← Int.add_mul]
          congr 1
          omega
        have e2 : a * ((x.length + (y.length + z.length) : Nat) : Int) = a * ((x.length + z.length : Nat) : Int) + a * (y.length : Int) := by
          rw [← Int.mul_add]
          congr 1
          omega
        rw [e1, e2]
        omega
/-- there is a greatest mean -/
theorem max_mean {q n : Nat} (hq : 0 < q) (hn : 0 < n) (wt : Nat → Int) : ∃ a b, MaxMean q n wt a b := by
  let L : List (Nat × List Nat) := (List.range n).flatMap fun u => ((upTo q n).filter fun w => decide (goTo q n u w = u) && decide (1 ≤ w.length)).map fun w => (u, w)
  have hL : ∀ u w, (u, w) ∈ L ↔ Closed q n u w ∧ 1 ≤ w.length ∧ w.length ≤ n := fun u w => by
    show (u, w) ∈ (List.range n).flatMap _ ↔ _
    rw [List.mem_flatMap]
    constructor
    · rintro ⟨v, hv, h⟩
      rw [List.mem_map] at h
      obtain ⟨x, hx, e⟩ := h
      cases e
      rw [List.mem_filter, mem_upTo, Bool.and_eq_true, decide_eq_true_eq, decide_eq_true_eq] at hx
      exact ⟨⟨List.mem_range.mp hv, hx.1.1, hx.2.1⟩, hx.2.2, hx.1.2⟩
    · rintro ⟨⟨h1, h2, h3⟩, h4, h5⟩
      refine ⟨u, List.mem_range.mpr h1, List.mem_map.mpr ⟨w, ?_, rfl⟩⟩
      rw [List.mem_filter, mem_upTo, Bool.and_eq_true, decide_eq_true_eq, decide_eq_true_eq]
      exact ⟨⟨h2, h5⟩, h3, h4⟩
  have h0 : (0, [0]) ∈ L := (hL _ _).mpr ⟨⟨hn, fun x hx => by rw [List.mem_singleton] at hx; omega, by show (0 * q + 0) % n = 0; simp⟩, Nat.le_refl _, hn⟩
  obtain ⟨⟨u, w⟩, hx, hm⟩ := exists_max (fun x : Nat × List Nat => sumTo q n wt x.1 x.2) (fun x => x.2.length) L (fun z => by rw [z] at h0; cases h0) fun x hx => ((hL x.1 x.2).mp hx).2.1
  obtain ⟨hc, h1, h2⟩ := (hL u w).mp hx
  refine ⟨sumTo q n wt u w, w.length, h1, fun v y hy => ?_, u, w, hc, h1, h2, rfl⟩
  exact most_of_short hn (fun v y hy h3 h4 => hm (v, y) ((hL v y).mpr ⟨hy, h3, h4⟩)) y.length v y (Nat.le_refl _) hy
/-! ### costs -/
theorem sumTo_cost {q n : Nat} (wt : Nat → Int) (a : Int) (b : Nat) : ∀ (w : List Nat) (u : Nat), sumTo q n (costOf a b wt) u w = b * sumTo q n wt u w - a * w.length
  | [], u => by
    show (0 : Int) = b * 0 - a * ((0 : Nat) : Int)
    simp
  | k :: w, u => by
    show costOf a b wt (u * q + k) + sumTo q n (costOf a b wt) _ w = b * (wt (u * q + k) + sumTo q n wt _ w) - a * ((w.length + 1 : Nat) : Int)
    rw [sumTo_cost wt a b w, Int.mul_add, Int.natCast_add, Int.mul_add]
    show (b * wt (u * q + k) - a) + _ = _
    simp
    omega
theorem MaxMean.noPos {q n : Nat} {wt : Nat → Int} {a : Int} {b : Nat} (h : MaxMean q n wt a b) : NoPos q n (costOf a b wt) := fun u w hu hk hg => by
  have := h.most u w ⟨hu, hk, hg⟩
  rw [sumTo_cost, Int.mul_comm (b : Int)]
  omega
theorem MaxMean.zero {q n : Nat} {wt : Nat → Int} {a : Int} {b : Nat} (h : MaxMean q n wt a b) : ∃ u w, u < n ∧ Kinds q w ∧ 1 ≤ w.length ∧ w.length ≤ n ∧ goTo q n u w = u ∧ sumTo q n (costOf a b wt) u w = 0 := by
  obtain ⟨u, w, ⟨h1, h2, h3⟩, h4, h5, h6⟩ := h.has
  refine ⟨u, w, h1, h2, h4, h5, h3, ?_⟩
  rw [sumTo_cost, Int.mul_comm (b : Int), h6]
  omega
/-! ### the rows -/
section
variable {q n : Nat} {wt : Nat → Int} {rows : Nat → Nat → Option Int}
theorem rows_way (hq : 0 < q) (hn : 0 < n) (h : Rows q n wt rows) : ∀ (k v : Nat) (y : Int), k ≤ n → v < n → rows k v = some y → ∃ w, Kinds q w ∧ w.length = k ∧ goTo q n 0 w = v ∧ sumTo q n wt 0 w = y
  | 0, v, y, _, hv, e => by
    rw [h.1 v hv] at e
    by_cases c : v = 0
    · rw [if_pos c] at e
      cases e
      exact ⟨[], fun x hx => (by cases hx), rfl, c.symm, rfl⟩
    · rw [if_neg c] at e
      cases e
  | k + 1, v, y, hk, hv, e => by
    have hi := h.2 k v (by omega) hv
    rw [e] at hi
    obtain ⟨⟨x, t, hx, hxv, hr, he⟩, _⟩ := hi
    obtain ⟨w, h1, h2, h3, h4⟩ := rows_way hq hn h k (x / q) t (by omega) ((Nat.div_lt_iff_lt_mul hq).mpr hx) hr
    refine ⟨w ++ [x % q], h1.append (fun z hz => ?_), by rw [List.length_append, h2]; rfl, ?_, ?_⟩
    · rw [List.mem_singleton] at hz
      rw [hz]
      exact Nat.mod_lt _ hq
    · rw [goTo_append, h3]
      show (x / q * q + x % q) % n = v
      rw [Nat.mul_comm, Nat.div_add_mod]
      exact hxv
    · rw [sumTo_append, h3, h4, he]
      show t + (wt (x / q * q + x % q) + 0) = _
      rw [Nat.mul_comm, Nat.div_add_mod, Int.add_zero]
theorem rows_most (hq : 0 < q) (hn : 0 < n) (h : Rows q n wt rows) : ∀ (k v : Nat) (y : Int), k ≤ n → Wk q n wt k v y → (∃ u w, u = 0 ∧ Kinds q w ∧ w.length = k ∧ goTo q n u w = v ∧ sumTo q n wt u w = y) → ∃ z, rows k v = some z ∧ y ≤ z := by
  have main : ∀ (k : Nat) (w : List Nat), w.length = k → k ≤ n → Kinds q w → ∃ z, rows k (goTo q n 0 w) = some z ∧ sumTo q n wt 0 w ≤ z := by
    intro k
    induction k with
    | zero =>
      intro w hw _ _
      have e : w = [] := List.length_eq_zero_iff.mp hw
      subst e
      refine ⟨0, ?_, Int.le_refl _⟩
      show rows 0 0 = some 0
      rw [h.1 0 hn, if_pos rfl]
    | succ k ih =>
      intro w hw hk hkd
      have hne : w ≠ [] := fun z => by rw [z] at hw; cases hw
      have e := List.dropLast_concat_getLast hne
      generalize w.dropLast = w0 at e
      generalize w.getLast hne = x at e
      subst e
      rw [List.length_append] at hw
      obtain ⟨z, hz, hle⟩ := ih w0 (by simpa using hw) (by omega) hkd.left
      have hx : x < q := hkd.right x (List.mem_singleton.mpr rfl)
      have hu : goTo q n 0 w0 < n := goTo_lt hn w0 0 hn
      have hd : (goTo q n 0 w0 * q + x) / q = goTo q n 0 w0 := by rw [Nat.mul_comm, Nat.mul_add_div (by omega), Nat.div_eq_of_lt hx, Nat.add_zero]
      have hi := h.2 k ((goTo q n 0 w0 * q + x) % n) (by omega) (Nat.mod_lt _ hn)
      rw [goTo_append, sumTo_append]
      show ∃ z, rows (k + 1) ((goTo q n 0 w0 * q + x) % n) = some z ∧ sumTo q n wt 0 w0 + (wt (goTo q n 0 w0 * q + x) + 0) ≤ z
      cases hr : rows (k + 1) ((goTo q n 0 w0 * q + x) % n) with
      | none =>
        rw [hr] at hi
        have := hi _ (word_lt hu hx) rfl
        rw [hd, hz] at this
        cases this
      | some m =>
        rw [hr] at hi
        have := hi.2 _ z (word_lt hu hx) rfl (by rw [hd]; exact hz)
        exact ⟨m, rfl, by omega⟩
  rintro k v y hk _ ⟨u, w, rfl, h1, h2, h3, h4⟩
  obtain ⟨z, hz, hle⟩ := main k w h2 hk h1
  rw [h3] at hz
  rw [h4] at hle
  exact ⟨z, hz, hle⟩
theorem rows_ge (hq : 0 < q) (hn : 0 < n) (h : Rows q n wt rows) {w : List Nat} (hw : w.length ≤ n) (hk : Kinds q w) : ∃ z, rows w.length (goTo q n 0 w) = some z ∧ sumTo q n wt 0 w ≤ z :=
  rows_most hq hn h w.length _ _ hw (wk_of hn w 0 hn hk) ⟨0, w, rfl, hk, rfl, rfl, rfl⟩
end
end WL
/-! Karp's theorem on these graphs -/
namespace WL
section
variable {q n : Nat} {wt : Nat → Int} {rows : Nat → Nat → Option Int}
/-- the best way from 0 to a node -/
theorem best_way (hn : 0 < n) {c : Nat → Int} (np : NoPos q n c) {v : Nat} (hv : ∃ w, Kinds q w ∧ goTo q n 0 w = v) : ∃ w, Kinds q w ∧ w.length < n ∧ goTo q n 0 w = v ∧ ∀ y, Kinds q y → goTo q n 0 y = v → sumTo q n c 0 y ≤ sumTo q n c 0 w := by
  obtain ⟨w0, hk0, hg0⟩ := hv
  obtain ⟨w1, h1, h2, h3, _⟩ := way_short hn np w0.length w0 0 (Nat.le_refl _) hn hk0
  let L := (upTo q (n - 1)).filter fun w => decide (goTo q n 0 w = v)
  have hL : ∀ w, w ∈ L ↔ Kinds q w ∧ w.length < n ∧ goTo q n 0 w = v := fun w => by
    show w ∈ (upTo q (n - 1)).filter _ ↔ _
    rw [List.mem_filter, mem_upTo, decide_eq_true_eq]
    constructor
    · rintro ⟨⟨a, b⟩, c⟩
      exact ⟨a, by omega, c⟩
    · rintro ⟨a, b, c⟩
      exact ⟨⟨a, by omega⟩, c⟩
  have hw1 : w1 ∈ L := (hL w1).mpr ⟨h2, h1, h3.trans hg0⟩
  obtain ⟨x, hx, hm⟩ := exists_max (fun w => sumTo q n c 0 w) (fun _ => 1) L (fun z => by rw [z] at hw1; cases hw1) fun _ _ => Nat.one_pos
  obtain ⟨ha, hb, hc⟩ := (hL x).mp hx
  refine ⟨x, ha, hb, hc, fun y hy hg => ?_⟩
  obtain ⟨y', k1, k2, k3, k4⟩ := way_short hn np y.length y 0 (Nat.le_refl _) hn hy
  have := hm y' ((hL y').mpr ⟨k2, k1, k3.trans hg⟩)
  have e : ((1 : Nat) : Int) = 1 := rfl
  rw [e, Int.mul_one, Int.mul_one] at this
  omega
theorem closed_rep (u : Nat) (w : List Nat) (h : goTo q n u w = u) : ∀ m, goTo q n u (List.replicate m w).flatten = u
  | 0 => rfl
  | m + 1 => by
    rw [List.replicate_succ, List.flatten_cons, goTo_append, h]
    exact closed_rep u w h m
theorem sum_rep (c : Nat → Int) (u : Nat) (w : List Nat) (h : goTo q n u w = u) (h0 : sumTo q n c u w = 0) : ∀ m, sumTo q n c u (List.replicate m w).flatten = 0
  | 0 => rfl
  | m + 1 => by
    rw [List.replicate_succ, List.flatten_cons, sumTo_append, h, h0, sum_rep c u w h h0 m]
    rfl
theorem rep_kinds {w : List Nat} (h : Kinds q w) (m : Nat) : Kinds q (List.replicate m w).flatten := fun x hx => by
  rw [List.mem_flatten] at hx
  obtain ⟨l, hl, hxl⟩ := hx
  rw [List.eq_of_mem_replicate hl] at hxl
  exact h x hxl
theorem rep_length (w : List Nat) (m : Nat) : (List.replicate m w).flatten.length = m * w.length := by
  rw [List.length_flatten, List.map_replicate, List.sum_replicate_nat]
/-- the least mean at a node is there -/
theorem least_mean {v : Nat} {x : Int} (hx : rows n v = some x) (hs : ∃ k, k < n ∧ rows k v ≠ none) : ∃ a b, MeanAt n rows v a b := by
  let L : List (Int × Nat) := (List.range n).filterMap fun k => (rows k v).map fun y => (x - y, n - k)
  have hL : ∀ p, p ∈ L ↔ ∃ k y, k < n ∧ rows k v = some y ∧ p = (x - y, n - k) := fun p => by
    show p ∈ (List.range n).filterMap _ ↔ _
    rw [List.mem_filterMap]
    constructor
    · rintro ⟨k, hk, h⟩
      rw [Option.map_eq_some_iff] at h
      obtain ⟨y, hy, e⟩ := h
      exact ⟨k, y, List.mem_range.mp hk, hy, e.symm⟩
    · rintro ⟨k, y, hk, hy, e⟩
      exact ⟨k, List.mem_range.mpr hk, by rw [Option.map_eq_some_iff]; exact ⟨y, hy, e.symm⟩⟩
  obtain ⟨k0, hk0, hr0⟩ := hs
  cases hr : rows k0 v with
  | none => exact absurd hr hr0
  | some y0 =>
    have h0 : (x - y0, n - k0) ∈ L := (hL _).mpr ⟨k0, y0, hk0, hr, rfl⟩
    obtain ⟨p, hp, hm⟩ := exists_max (fun p : Int × Nat => -p.1) (fun p => p.2) L (fun z => by rw [z] at h0; cases h0) fun p hp => by
      obtain ⟨k, y, hk, _, e⟩ := (hL p).mp hp
      rw [e]
      show 0 < n - k
      omega
    obtain ⟨k, y, hk, hy, e⟩ := (hL p).mp hp
    refine ⟨p.1, p.2, x, hx, ⟨k, y, hk, hy, by rw [e], by rw [e]⟩, fun k' y' hk' hy' => ?_⟩
    have := hm (x - y', n - k') ((hL _).mpr ⟨k', y', hk', hy', rfl⟩)
    have h2 : -(x - y') * (p.2 : Int) ≤ -p.1 * ((n - k' : Nat) : Int) := this
    rw [Int.neg_mul, Int.neg_mul] at h2
    omega
theorem karp {l : Nat} (hq : 2 ≤ q) (hnl : n = q ^ l) (h : Rows q n wt rows) {a : Int} {b : Nat} (hk : Karp n rows a b) : MaxMean q n wt a b := by
  have hq0 : 0 < q := by omega
  have hn : 0 < n := by rw [hnl]; exact Nat.pow_pos hq0
  obtain ⟨P, Q, hM⟩ := max_mean hq0 hn wt
  have hQ := hM.pos
  have reach := rows_reach (l := l) hq (hnl ▸ h)
  have hl : l < n := by rw [hnl]; exact Nat.lt_pow_self (by omega)
  have hbpos : ∀ v a b, MeanAt n rows v a b → 0 < b := fun v a b ⟨_, _, ⟨k, _, hk, _, _, e⟩, _⟩ => by omega
  -- no mean of the rows is greater
  have upper : ∀ v a' b', v < n → MeanAt n rows v a' b' → a' * Q ≤ P * b' := by
    intro v a' b' hv hm
    have hb' := hbpos _ _ _ hm
    obtain ⟨x, hx, _, hall⟩ := hm
    obtain ⟨w, hw1, hw2, hw3, hw4⟩ := rows_way hq0 hn h n v x (Nat.le_refl _) hv hx
    obtain ⟨α, β, γ, e, hβ, _, hr⟩ := round_in (q := q) hn hn (show n ≤ w.length by omega)
    have hβl : 0 < β.length := List.length_pos_iff.mpr hβ
    subst e
    have hlen : (α ++ γ).length = n - β.length ∧ β.length ≤ n := by
      rw [List.length_append, List.length_append] at hw2
      rw [List.length_append]
      omega
    obtain ⟨z, hz, hle⟩ := rows_ge hq0 hn h (w := α ++ γ) (by omega) (hw1.left.append hw1.right.right)
    have hgv : goTo q n 0 (α ++ γ) = v := by
      rw [goTo_append, goTo_append, hr] at hw3
      rw [goTo_append]
      exact hw3
    rw [hgv, hlen.1] at hz
    have h1 := hall _ z (by omega) hz
    have e1 : n - (n - β.length) = β.length := by omega
    rw [e1] at h1
    have h2 := hM.most _ β ⟨goTo_lt hn α 0 hn, hw1.right.left, hr⟩
    rw [sumTo_append, sumTo_append, hr] at hw4
    rw [sumTo_append] at hle
    have h3 : x - z ≤ sumTo q n wt (goTo q n 0 α) β := by omega
    have h4 : (x - z) * Q ≤ P * (β.length : Int) := Int.le_trans (Int.mul_le_mul_of_nonneg_right h3 (by omega)) h2
    -- a' * len ≤ (x-z) * b', (x-z) * Q ≤ P * len
    have h5 : (x - z) * (b' : Int) * Q ≤ P * (β.length : Int) * b' := by
      have := Int.mul_le_mul_of_nonneg_right h4 (show (0 : Int) ≤ (b' : Int) by omega)
      have e : (x - z) * (b' : Int) * Q = (x - z) * Q * b' := by rw [Int.mul_assoc, Int.mul_comm (b' : Int), ← Int.mul_assoc]
      rw [e]
      exact this
    have h6 := Int.mul_le_mul_of_nonneg_right h1 (show (0 : Int) ≤ (Q : Int) by omega)
    refine Int.le_of_mul_le_mul_right (a := (β.length : Int)) ?_ (by omega)
    have e3 : a' * (Q : Int) * (β.length : Int) = a' * (β.length : Int) * Q := by rw [Int.mul_assoc, Int.mul_comm (Q : Int), ← Int.mul_assoc]
    have e4 : P * (b' : Int) * (β.length : Int) = P * (β.length : Int) * b' := by rw [Int.mul_assoc, Int.mul_comm (b' : Int), ← Int.mul_assoc]
    rw [e3, e4]
    exact Int.le_trans h6 h5
  -- and one is as great
  have lower : ∃ v a' b', v < n ∧ MeanAt n rows v a' b' ∧ P * b' ≤ a' * Q := by
    obtain ⟨u, w, hu, hwk, hw1, hwn, hwg, hws⟩ := hM.zero
    have np := hM.noPos
    have hru : ∃ y, Kinds q y ∧ goTo q n 0 y = u := by
      cases hr : rows l u with
      | none => exact absurd hr (reach l (Nat.le_refl _) u (hnl ▸ hu))
      | some y =>
        obtain ⟨y', h1, _, h3, _⟩ := rows_way hq0 hn h l u y (by omega) hu hr
        exact ⟨y', h1, h3⟩
    obtain ⟨w0, hk0, hl0, hg0, hbest⟩ := best_way hn np hru
    -- along the round to the length n
    let Z := (List.replicate n w).flatten
    have hZk : Kinds q Z := rep_kinds hwk n
    have hZl : n ≤ Z.length := by
      show n ≤ (List.replicate n w).flatten.length
      rw [rep_length]
      exact Nat.le_mul_of_pos_right _ hw1
    have hZg : goTo q n u Z = u := closed_rep u w hwg n
    have hZs : sumTo q n (costOf P Q wt) u Z = 0 := sum_rep _ u w hwg hws n
    let B := Z.take (n - w0.length)
    let C := Z.drop (n - w0.length)
    have hBC : B ++ C = Z := List.take_append_drop _ _
    have hBl : B.length = n - w0.length := by
      show (Z.take _).length = _
      rw [List.length_take]
      omega
    rw [← hBC] at hZk hZg hZs
    have hv : goTo q n u B < n := goTo_lt hn B u hu
    have bestv : ∀ y, Kinds q y → goTo q n 0 y = goTo q n u B → sumTo q n (costOf P Q wt) 0 y ≤ sumTo q n (costOf P Q wt) 0 (w0 ++ B) := fun y hy hg => by
      have h1 := hbest (y ++ C) (hy.append hZk.right) (by rw [goTo_append, hg, ← goTo_append]; exact hZg)
      rw [sumTo_append, hg] at h1
      rw [sumTo_append, hg0]
      rw [sumTo_append] at hZs
      omega
    obtain ⟨x, hx, hxle⟩ := rows_ge hq0 hn h (w := w0 ++ B) (by rw [List.length_append]; omega) (hk0.append hZk.left)
    have hlen : (w0 ++ B).length = n := by rw [List.length_append]; omega
    rw [hlen, goTo_append, hg0] at hx
    have hs : ∃ k, k < n ∧ rows k (goTo q n u B) ≠ none := ⟨l, hl, reach l (Nat.le_refl _) _ (hnl ▸ hv)⟩
    obtain ⟨a', b', hm⟩ := least_mean hx hs
    refine ⟨_, a', b', hv, hm, ?_⟩
    obtain ⟨x', hx', ⟨k, y, hk, hy, ea, eb⟩, _⟩ := hm
    rw [hx] at hx'
    cases hx'
    obtain ⟨yw, y1, y2, y3, y4⟩ := rows_way hq0 hn h k _ y (by omega) hv hy
    have h1 := bestv yw y1 y3
    rw [sumTo_cost, sumTo_cost, y4, y2, hlen] at h1
    have h2 : (Q : Int) * sumTo q n wt 0 (w0 ++ B) ≤ Q * x := Int.mul_le_mul_of_nonneg_left hxle (by omega)
    rw [ea, eb, Int.sub_mul, Int.mul_comm x, Int.mul_comm y, show ((n - k : Nat) : Int) = (n : Int) - k by omega, Int.mul_sub]
    omega
  obtain ⟨⟨v0, hv0, hm0⟩, hall⟩ := hk
  obtain ⟨v1, a1, b1, hv1, hm1, hle1⟩ := lower
  have hb := hbpos _ _ _ hm0
  have hb1 := hbpos _ _ _ hm1
  have h1 := upper v0 a b hv0 hm0
  have h2 := hall v1 a1 b1 hv1 hm1
  -- P/Q ≤ a1/b1 ≤ a/b
  have h3 : P * b ≤ a * Q := by
    have h4 := frac_trans (a' := -a) (a := -a1) (m := -P) (b := (b1 : Int)) (b' := (b : Int)) (c := (Q : Int)) (by omega) (by omega) (by omega) (by rw [Int.neg_mul, Int.neg_mul]; omega) (by rw [Int.neg_mul, Int.neg_mul]; omega)
    rw [Int.neg_mul, Int.neg_mul] at h4
    omega
  exact hM.scale hb (by omega)
theorem gcd_pos' (a : Int) {b : Nat} (hb : 0 < b) : 0 < Nat.gcd a.natAbs b := Nat.gcd_pos_of_pos_right _ hb
theorem lowestF_spec (a : Int) {b : Nat} (hb : 0 < b) : 0 < (lowestF a b).2 ∧ (lowestF a b).2 ≤ b ∧ (lowestF a b).1 * b = a * (lowestF a b).2 := by
  unfold lowestF
  have hg := gcd_pos' a hb
  obtain ⟨y, hy⟩ := Nat.gcd_dvd_right a.natAbs b
  have hd : ((Nat.gcd a.natAbs b : Nat) : Int) ∣ a := Int.ofNat_dvd_left.mpr (Nat.gcd_dvd_left _ _)
  obtain ⟨x, hx⟩ := hd
  generalize Nat.gcd a.natAbs b = g at *
  have e1 : b / g = y := by rw [hy]; exact Nat.mul_div_cancel_left _ hg
  have e2 : a / (g : Int) = x := by rw [hx]; exact Int.mul_ediv_cancel_left _ (by omega)
  show 0 < b / g ∧ b / g ≤ b ∧ a / (g : Int) * b = a * ((b / g : Nat) : Int)
  rw [e1, e2]
  refine ⟨?_, ?_, ?_⟩
  · rcases Nat.eq_zero_or_pos y with e | e
    · rw [e] at hy; omega
    · exact e
  · rw [hy]
    exact Nat.le_mul_of_pos_left _ hg
  · rw [hx, hy, Int.natCast_mul, ← Int.mul_assoc, Int.mul_comm x]
theorem MaxMean.low {a : Int} {b : Nat} (h : MaxMean q n wt a b) : MaxMean q n wt (lowestF a b).1 (lowestF a b).2 := by
  obtain ⟨h1, _, h2⟩ := lowestF_spec a h.pos
  exact h.scale h1 h2
end
end WL
/-! the best round -/
namespace WL
structure IsBest (q n : Nat) (wt : Nat → Int) (a : Int) (b : Nat) (c : List Nat) : Prop where
  l1 : 1 ≤ c.length
  ln : c.length ≤ n
  has : ∃ u, Closed q n u c ∧ sumTo q n wt u c * b = a * c.length
  least : ∀ u d, 1 ≤ d.length → Closed q n u d → sumTo q n wt u d * b = a * d.length → c.length < d.length ∨ c.length = d.length ∧ ¬ lexLt d c
theorem best_of {q n : Nat} {wt p : Nat → Int} {a : Int} {b : Nat} {c : List Nat} (hn : 0 < n) (hf : Feas q n (costOf a b wt) p) (h : LeastRound q n (fun x => p (x / q) + costOf a b wt x = p (x % n)) c) : IsBest q n wt a b c := by
  obtain ⟨h1, h2, ⟨u, hu, hk, hg, ht⟩, h4⟩ := h
  refine ⟨h1, h2, ⟨u, ⟨hu, hk, hg⟩, ?_⟩, fun v d hd hc he => ?_⟩
  · have h5 := zero_of_round hn c u hu hk ht
    rw [hg, sumTo_cost, Int.mul_comm (b : Int)] at h5
    omega
  · refine h4 v d hd (round_of_zero hn hf hc.1 hc.2.1 hc.2.2 ?_)
    rw [sumTo_cost, Int.mul_comm (b : Int), he]
    omega
/-- the greatest mean in lowest terms, and the least of the shortest rounds that have it -/
def BestR (q n : Nat) (wt : Nat → Int) (fr : Int × Nat) (c : List Nat) : Prop := ∃ a b, MaxMean q n wt a b ∧ fr = lowestF a b ∧ IsBest q n wt fr.1 fr.2 c
def ledN (r : Ru) : Nat → Ga → Ga
  | 0, g => g
  | h + 1, g => gaugeLed r (ledN r h g)
def laterN (r : Ru) : Nat → List Nat → List Nat
  | 0, c => c
  | h + 1, c => roundOf r (laterN r h c)
theorem ledN_l (r : Ru) (g : Ga) (hw : 1 ≤ r.w) : ∀ h, (ledN r h g).l = g.l + h * (r.w - 1)
  | 0 => by simp [ledN]
  | h + 1 => by
    show (ledN r h g).l + r.w - 1 = _
    rw [ledN_l r g hw h, Nat.add_mul, Nat.one_mul]
    omega
end WL
/-! means: the program's own -/
namespace WL
open PySem PySem.Spec PyProof.Rows L2
open C8 (Cal Met Mak pe_c pe_mk pe_mt pe_mt0 pe_gc)
theorem pow_split {q a b : Nat} (hq : q = 2 ∨ q = 3) (h : q ^ (a - 1) ≤ 60) (hb : b ≤ a) : q ^ b ≤ 180 := by
  cases a with
  | zero =>
    have e : b = 0 := by omega
    subst e
    simp
  | succ a =>
    have h1 : q ^ b ≤ q ^ (a + 1) := Nat.pow_le_pow_right (by omega) hb
    have h2 : q ^ (a + 1) = q ^ a * q := Nat.pow_succ ..
    have h3 : q ^ a ≤ 60 := h
    have h4 : q ^ a * q ≤ 60 * 3 := Nat.mul_le_mul h3 (by omega)
    omega
theorem round_kinds {r : Ru} (o : r.Ok) (c : List Nat) : Kinds r.q (roundOf r c) := fun x hx => by
  unfold roundOf at hx
  rw [List.mem_map] at hx
  obtain ⟨i, _, rfl⟩ := hx
  exact toldK_lt o _
theorem round_length (r : Ru) (c : List Nat) : (roundOf r c).length = c.length := by
  unfold roundOf
  rw [List.length_map, List.length_range]
theorem later_ok {r : Ru} (o : r.Ok) {c : List Nat} (hc : Kinds r.q c) : ∀ h, Kinds r.q (laterN r h c) ∧ (laterN r h c).length = c.length
  | 0 => ⟨hc, rfl⟩
  | h + 1 => ⟨round_kinds o _, by show (roundOf r _).length = _; rw [round_length]; exact (later_ok o hc h).2⟩
theorem led_okN {r : Ru} {g : Ga} (o : r.Ok) (og : g.Ok r.q) : ∀ h, r.q ^ (g.l + h * (r.w - 1)) ≤ 729 → (ledN r h g).Ok r.q
  | 0, _ => og
  | h + 1, hs => by
    have hle : r.q ^ (g.l + h * (r.w - 1)) ≤ 729 := Nat.le_trans (Nat.pow_le_pow_right (by have := o.q2; omega) (by rw [Nat.add_mul]; omega)) hs
    refine led_ok o (led_okN o og h hle) ?_
    rw [ledN_l r g o.w1]
    have := o.w1
    rw [show g.l + h * (r.w - 1) + r.w - 1 = g.l + (h + 1) * (r.w - 1) by rw [Nat.add_mul, Nat.one_mul]; omega]
    exact hs
section
variable {P : Program} {w : World} {K : PySem.W.Frag} {mg : Str → Option Value} {base : Heap}
abbrev sp_need_few : Sp := fun vs H Q _ => ∃ n : Nat, vs = [.int n] ∧ n ≤ 60 ∧ Q .non H
theorem ok_need_few (T : Txt K mg) : Cal P w K mg base 1 "need_few" sp_need_few [] := by
  refine cal_of T.f_need_few T.g_need_few rfl rfl sc_need_few (fun _ _ _ _ _ _ us hl => match us, hl with | [_], _ => rfl) (fun vs H Q E h => ?_) (fun cdv A outer s H vs Q E hr h => ⟨_, (pss_one (ps_if (pt_cmpR op_gt (pv 0) (pe_gc rfl (gci T.i_MOST_NODES_means)) (nomark _)) pss_never pss_nil)), ?_⟩)
  · obtain ⟨n, rfl, _⟩ := h
    rfl
  · obtain ⟨n, rfl, hn, k⟩ := h
    walk_at "wl"
    rw [decide_eq_false (by omega)]
    walk_at "wl"
    exact k
abbrev RBest : Rl ((Int × Nat) × List Nat) := RP RF W
abbrev sp_best_ring : Sp := fun vs H Q _ => ∃ (q : Nat) (v : V) (g : Ga), vs = [.int q, v] ∧ RG H v g ∧ (⟨q, g⟩ : Sm).Ok ∧ ∀ v' H' fr c, Same H H' → BestR q (q ^ (g.l - 1)) g.at fr c → RBest H' v' (fr, c) → Q v' H'
theorem ok_best_ring (T : Txt K mg) : Cal P w K mg base 5 "best_ring" sp_best_ring [] := by
  refine cal_of T.f_best_ring T.g_best_ring rfl rfl sc_best_ring (fun _ _ _ _ _ _ us hl => match us, hl with | [_, _], _ => rfl) (fun vs H Q E h => ?_) (fun cdv A outer s H vs Q E hr h => ⟨_, (pss_cons (ps_set (i := 2) sc_best_ring.nd rfl (Or.inl rfl) (pe_mk (mk_Sums T) hr (by decide) rfl (pa_cons (pv 0) (pa_cons (pv 1) pa_nil))))
      (pss_cons (ps_set (i := 3) sc_best_ring.nd rfl (Or.inl rfl) (pe_mt0 (ok_Sums_greatest_fraction T) hr (by decide) (pv 2)))
      (pss_one (ps_ret (pe_tup (pa_cons (pv 3) (pa_cons (pe_mt (ok_Sums_shortest T) hr (by decide) (pv 2) (pa_cons (pv 3) pa_nil)) pa_nil))))))), ?_⟩)
  · obtain ⟨q, v, g, rfl, _⟩ := h
    rfl
  · obtain ⟨q, v, g, rfl, hg, o, k⟩ := h
    have hq : q = 2 ∨ q = 3 := o.q2
    have hn : q ^ (g.l - 1) ≤ 60 := o.few
    have hp : 0 < q ^ (g.l - 1) := o.pos
    walk_at "wl"
    refine make_sums hg o fun v1 H1 s1 h1 => ?_
    obtain ⟨a, dx, fs, rfl, ha, f1, f2, f3, m1, m2, m3, m4, m5, m6⟩ := id h1
    walk_at "wl"
    refine ⟨_, ⟨q, g⟩, rfl, h1, o, fun v2 H2 rows aa bb s2 hR hK h2 => ?_⟩
    have hM : MaxMean q (q ^ (g.l - 1)) g.at aa bb := karp (l := g.l - 1) (show 2 ≤ q by omega) rfl hR hK
    have hL := hM.low
    have hbb : (lowestF aa bb).2 ≤ 60 := by
      have h3 := (lowestF_spec aa hM.pos).2.1
      obtain ⟨⟨_, _, _, _, ⟨k0, _, hk0, _, _, e0⟩, _⟩, _⟩ := hK
      have : bb ≤ q ^ (g.l - 1) := by
        have e1 : bb = (q ^ (g.l - 1)) - k0 := e0
        omega
      omega
    obtain ⟨fa, rfl, hfa⟩ := id h2
    have ha2 := s2 _ _ ha
    walk_at "wl"
    refine ⟨_, _, ⟨q, g⟩, (lowestF aa bb).1, (lowestF aa bb).2, rfl, mono_sums _ _ _ _ s2 h1, o, ⟨fa, rfl, hfa⟩, by omega, hL.noPos, hL.zero, fun v3 H3 p c s3 hF hLR h3 => ?_⟩
    walk_at "wl"
    rename_i pt H4 s4 e4
    refine k _ _ (lowestF aa bb) c (((s1.trans s2).trans s3).trans s4) ⟨aa, bb, hM, rfl, best_of hp hF hLR⟩ ⟨pt, _, _, rfl, e4, mono_F _ _ _ _ (s3.trans s4) ⟨fa, rfl, hfa⟩, mono_W _ _ _ _ s4 h3⟩
abbrev sp_greatest_mean (K : PySem.W.Frag) : Sp := fun vs H Q _ => ∃ (q : Nat) (v : V) (g : Ga), vs = [.int q, v] ∧ RG H v g ∧ (q = 2 ∨ q = 3) ∧ g.Ok q ∧ q ^ (g.l - 1) ≤ 60 ∧ ∀ v' H' fr c, Same H H' → BestR q (q ^ (g.l - 1)) g.at fr c → RP RF (RRing K) H' v' (fr, (q, c)) → Q v' H'
theorem ok_greatest_mean (T : Txt K mg) : Cal P w K mg base 6 "greatest_mean" (sp_greatest_mean K) [] := by
  refine cal_of T.f_greatest_mean T.g_greatest_mean rfl rfl sc_greatest_mean (fun _ _ _ _ _ _ us hl => match us, hl with | [_, _], _ => rfl) (fun vs H Q E h => ?_) (fun cdv A outer s H vs Q E hr h => ⟨_, (pss_cons (ps_expr (pe_c (ok_need_kinds T) hr (by decide) rfl (pa_cons (pv 0) pa_nil)))
      (pss_cons (ps_expr (pe_c (ok_need_gauge T) hr (by decide) rfl (pa_cons (pv 0) (pa_cons (pv 1) pa_nil))))
      (pss_cons (ps_expr (pe_c (ok_need_few T) hr (by decide) rfl (pa_cons (pe_c (ok_nodes_in T) hr (by decide) rfl (pa_cons (pv 0) (pa_cons (pv 1) pa_nil))) pa_nil)))
      (pss_cons (ps_asg (pe_c (ok_best_ring T) hr (by decide) rfl (pa_cons (pv 0) (pa_cons (pv 1) pa_nil))) (pg_tupK (K := K) (n := 2) rfl rfl (pgs_cons (pg_name (i := 2) sc_greatest_mean.nd rfl (.inl rfl)) (pgs_cons (pg_name (i := 3) sc_greatest_mean.nd rfl (.inl rfl)) pgs_nil))))
      (pss_one (ps_ret (pe_tup (pa_cons (pv 2) (pa_cons (pe_mk (mk_Ring T) hr (by decide) rfl (pa_cons (pv 0) (pa_cons (pv 3) pa_nil))) pa_nil))))))))), ?_⟩)
  · obtain ⟨q, v, g, rfl, _⟩ := h
    rfl
  · obtain ⟨q, v, g, rfl, hg, hq, og, hn, k⟩ := h
    have hl1 := og.l1
    walk_at "wl"
    refine ⟨q, rfl, hq, ?_⟩
    walk_at "wl"
    refine ⟨q, _, g, rfl, hq, hg, og, fun H1 s1 => ?_⟩
    have hg1 := mono_G _ _ _ _ s1 hg
    walk_at "wl"
    refine ⟨q, _, g, rfl, by omega, hg1, hl1, by have := pow_big hq og.small (by decide); omega, ?_⟩
    walk_at "wl"
    refine ⟨_, rfl, hn, ?_⟩
    walk_at "wl"
    refine ⟨q, _, g, rfl, hg1, ⟨hq, hl1, og.len, hn⟩, fun v2 H2 fr c s2 hB h2 => ?_⟩
    obtain ⟨pt, x, y, rfl, hpt, hx, hy⟩ := h2
    obtain ⟨_, _, _, _, hIs⟩ := id hB
    obtain ⟨u, hc, _⟩ := hIs.has
    walk_at "wl"
    refine make_ring (c := c) hy hq hc.2.1 hIs.l1 (by have := hIs.ln; omega) fun v3 H3 s3 h3 => ?_
    walk_at "wl"
    rename_i p4 H4 s4 e4
    exact k _ _ fr c (((s1.trans s2).trans s3).trans s4) hB ⟨p4, _, _, rfl, e4, mono_F _ _ _ _ (s3.trans s4) hx, mono_ring _ _ _ _ s4 h3⟩
abbrev sp_led_for (K : PySem.W.Frag) : Sp := fun vs H Q _ => ∃ (v u : V) (r : Ru) (g : Ga) (h : Nat), vs = [v, u, .int h] ∧ RRule K H v r ∧ r.Ok ∧ RG H u g ∧ g.Ok r.q ∧ h ≤ 4 ∧ r.q ^ (g.l + h * (r.w - 1) - 1) ≤ 60 ∧ ∀ v' H', Same H H' → RG H' v' (ledN r h g) → Q v' H'
theorem ok_led_for (T : Txt K mg) : Cal P w K mg base 5 "led_for" (sp_led_for K) [] := by
  refine cal_of T.f_led_for T.g_led_for rfl rfl sc_led_for (fun _ _ _ _ _ _ us hl => match us, hl with | [_, _, _], _ => rfl) (fun vs H Q E h => ?_) (fun cdv A outer s H vs Q E hr h => ⟨_, (pss_cons (ps_expr (pe_c (ok_need_few T) hr (by decide) rfl (pa_cons (pe_c (ok_power_of T) hr (by decide) rfl (pa_cons (pe_fldK (K := K) rfl (pv 0) rfl) (pa_cons (pe_op op_sub (pe_op op_add (pe_ix (ix_tupK (K := K) rfl) (pv 1) pe_int (fun _ _ => rfl)) (pe_op op_mul (pv 2) (pe_op op_sub (pe_fldK (K := K) rfl (pv 0) rfl) pe_int))) pe_int) pa_nil))) pa_nil)))
      (pss_cons (ps_for PassesOwn.never rfl (pi_range1 rfl T.b_range (pa_cons (pv 2) pa_nil)) (pg_name (i := 3) sc_led_for.nd rfl (.inl rfl)) (pss_one (ps_set (i := 1) sc_led_for.nd rfl (Or.inl rfl) (pe_c (ok_gauge_led T) hr (by decide) rfl (pa_cons (pv 0) (pa_cons (pv 1) pa_nil))))))
      (pss_one (ps_ret (pv 1))))), ?_⟩)
  · obtain ⟨v, u, r, g, h, rfl, _⟩ := h
    rfl
  · obtain ⟨v, u, r, g, hh, rfl, hv, o, hg, og, h4, hs, k⟩ := h
    obtain ⟨a, dx, fs, rfl, ha, f1, f2, f3, b, ht, hb⟩ := id hv
    obtain ⟨ga, gb, rfl, hga, hgb⟩ := id hg
    have hw := o.w1
    have hwd := o.wide
    have hq := o.q2
    have hl := og.l1
    have hm : hh * (r.w - 1) ≤ 4 * 4 := Nat.mul_le_mul h4 (by omega)
    have h9 := pow_big hq og.small (by decide)
    walk_at "wl"
    refine w_ixT 0 rfl hga rfl ?_
    walk_at "wl"
    refine ⟨r.q, g.l + hh * (r.w - 1) - 1, ?_, by omega, by omega, ?_⟩
    · rw [Int.natCast_sub (by omega), Int.natCast_add, Int.natCast_mul, Int.natCast_sub (by omega)]
      rfl
    walk_at "wl"
    refine ⟨_, rfl, hs, ?_⟩
    walk_at "wl"
    refine w_rngAt hh rfl (by omega) ?_
    refine f_rng (fun i σ H' => Same H H' ∧ ∃ z3 gv, σ = [some (.ref a), some gv, some (.int hh), z3] ∧ RG H' gv (ledN r i g)) ⟨fun _ _ h => h, _, _, rfl, hg⟩ ?_ ?_
    · rintro i σ H1 hi ⟨s1, z3, gv, rfl, h1⟩
      have hle : r.q ^ (g.l + (i + 1) * (r.w - 1)) ≤ 180 := pow_split hq hs (Nat.add_le_add_left (Nat.mul_le_mul_right _ (by omega)) _)
      have hle2 : r.q ^ (g.l + i * (r.w - 1)) ≤ 180 := pow_split hq hs (Nat.add_le_add_left (Nat.mul_le_mul_right _ (by omega)) _)
      walk_at "wl"
      refine ⟨_, _, r, ledN r i g, rfl, mono_rule _ _ _ _ s1 hv, o, h1, led_okN o og i (by omega), ?_, fun v2 H2 s2 h2 => ?_⟩
      · rw [ledN_l r g hw, show g.l + i * (r.w - 1) + r.w - 1 = g.l + (i + 1) * (r.w - 1) by rw [Nat.add_mul, Nat.one_mul]; omega]
        omega
      · walk_at "wl"
        exact ⟨s1.trans s2, _, _, rfl, h2⟩
    · rintro σ H1 ⟨s1, z3, gv, rfl, h1⟩
      walk_at "wl"
      exact k _ _ s1 h1
/-- a fraction and two rings -/
def RAft (K : PySem.W.Frag) (q : Nat) : Rl ((Int × Nat) × List Nat × List Nat) := fun H v d => ∃ a x y z, v = .ref a ∧ H a = some (.tup [x, y, z]) ∧ RF H x d.1 ∧ RRing K H y (q, d.2.1) ∧ RRing K H z (q, d.2.2)
abbrev sp_greatest_after (K : PySem.W.Frag) : Sp := fun vs H Q _ => ∃ (v u : V) (r : Ru) (g : Ga) (h : Nat), vs = [v, u, .int h] ∧ RRule K H v r ∧ r.Ok ∧ RG H u g ∧ g.Ok r.q ∧ h ≤ 4 ∧ r.q ^ (g.l + h * (r.w - 1) - 1) ≤ 60 ∧
  ∀ v' H' fr c, Same H H' → BestR r.q (r.q ^ ((ledN r h g).l - 1)) (ledN r h g).at fr c → RAft K r.q H' v' (fr, c, laterN r h c) → Q v' H'
theorem fd_greatest_after (T : Txt K mg) : FND P w K mg base 6 d_greatest_after ["rule", "gauge", "hours"] (sp_greatest_after K) := by
  refine fnd_of T.f_greatest_after rfl rfl sc_greatest_after (fun vs H Q E h => ?_) (fun cdv A outer s H vs Q E hr h => ⟨_, (pss_cons (ps_expr (pe_c (ok_need_rule T) hr (by decide) rfl (pa_cons (pv 0) pa_nil)))
      (pss_cons (ps_expr (pe_c (ok_need_gauge T) hr (by decide) rfl (pa_cons (pe_fldK (K := K) rfl (pv 0) rfl) (pa_cons (pv 1) pa_nil))))
      (pss_cons (ps_if (pt_not (pt_val (pe_c (ok_is_between T) hr (by decide) rfl (pa_cons (pv 2) (pa_cons pe_int (pa_cons (pe_gc rfl (gci T.i_MOST_HOURS)) pa_nil)))))) pss_never pss_nil)
      (pss_cons (ps_expr (pe_c (ok_need_size T) hr (by decide) rfl (pa_cons (pv 0) pa_nil)))
      (pss_cons (ps_asg (pe_c (ok_best_ring T) hr (by decide) rfl (pa_cons (pe_fldK (K := K) rfl (pv 0) rfl) (pa_cons (pe_c (ok_led_for T) hr (by decide) rfl (pa_cons (pv 0) (pa_cons (pv 1) (pa_cons (pv 2) pa_nil)))) pa_nil))) (pg_tupK (K := K) (n := 2) rfl rfl (pgs_cons (pg_name (i := 3) sc_greatest_after.nd rfl (.inl rfl)) (pgs_cons (pg_name (i := 4) sc_greatest_after.nd rfl (.inl rfl)) pgs_nil))))
      (pss_cons (ps_set (i := 5) sc_greatest_after.nd rfl (Or.inl rfl) (pv 4))
      (pss_cons (ps_for PassesOwn.never rfl (pi_range1 rfl T.b_range (pa_cons (pv 2) pa_nil)) (pg_name (i := 6) sc_greatest_after.nd rfl (.inl rfl)) (pss_one (ps_set (i := 5) sc_greatest_after.nd rfl (Or.inl rfl) (pe_c (ok_ring_step T) hr (by decide) rfl (pa_cons (pv 0) (pa_cons (pv 5) pa_nil))))))
      (pss_one (ps_ret (pe_tup (pa_cons (pv 3) (pa_cons (pe_mk (mk_Ring T) hr (by decide) rfl (pa_cons (pe_fldK (K := K) rfl (pv 0) rfl) (pa_cons (pv 4) pa_nil))) (pa_cons (pe_mk (mk_Ring T) hr (by decide) rfl (pa_cons (pe_fldK (K := K) rfl (pv 0) rfl) (pa_cons (pv 5) pa_nil))) pa_nil))))))))))))), ?_⟩)
  · obtain ⟨v, u, r, g, h, rfl, _⟩ := h
    rfl
  · obtain ⟨v, u, r, g, hh, rfl, hv, o, hg, og, h4, hs, k⟩ := h
    obtain ⟨a, dx, fs, rfl, ha, f1, f2, f3, b, ht, hb⟩ := id hv
    have hw := o.w1
    have hq := o.q2
    have hs2 : r.q ^ (g.l + hh * (r.w - 1)) ≤ 180 := pow_split hq hs (Nat.le_refl _)
    have oL := led_okN o og hh (by omega)
    walk_at "wl"
    refine ⟨_, r, rfl, hv, ?_⟩
    walk_at "wl"
    refine ⟨r.q, _, g, rfl, hq, hg, og, fun H1 s1 => ?_⟩
    have hv1 := mono_rule _ _ _ _ s1 hv
    have hg1 := mono_G _ _ _ _ s1 hg
    have ha1 := s1 _ _ ha
    walk_at "wl"
    refine ⟨_, _, _, rfl, ?_⟩
    rw [btw ⟨by omega, by omega⟩]
    walk_at "wl"
    refine ⟨_, r, rfl, hv1, o, ?_⟩
    walk_at "wl"
    refine ⟨_, _, r, g, hh, rfl, hv1, o, hg1, og, h4, hs, fun v2 H2 s2 h2 => ?_⟩
    walk_at "wl"
    have hn : r.q ^ ((ledN r hh g).l - 1) ≤ 60 := by rw [ledN_l r g hw]; exact hs
    refine ⟨r.q, _, ledN r hh g, rfl, h2, ⟨hq, oL.l1, oL.len, hn⟩, fun v3 H3 fr c s3 hB h3 => ?_⟩
    obtain ⟨pt, x, y, rfl, hpt, hx, hy⟩ := h3
    obtain ⟨_, _, _, _, hIs⟩ := id hB
    obtain ⟨u0, hc, _⟩ := hIs.has
    have hcl : c.length ≤ 60 := by have := hIs.ln; omega
    have hc1 := hIs.l1
    have s13 := s2.trans s3
    walk_at "wl"
    refine w_rngAt hh rfl (by omega) ?_
    refine f_rng (fun i σ H' => Same H3 H' ∧ ∃ z6 lv, σ = [some (.ref a), some u, some (.int hh), some x, some y, some lv, z6] ∧ W H' lv (laterN r i c)) ⟨fun _ _ h => h, _, _, rfl, hy⟩ ?_ ?_
    · rintro i σ H4 hi ⟨s4, z6, lv, rfl, h4'⟩
      have hl := later_ok o hc.2.1 i
      walk_at "wl"
      refine ⟨_, _, r, laterN r i c, rfl, mono_rule _ _ _ _ (s13.trans s4) hv1, h4', o, hl.1, by omega, by omega, fun v5 H5 s5 h5 => ?_⟩
      walk_at "wl"
      exact ⟨s4.trans s5, _, _, rfl, h5⟩
    · rintro σ H4 ⟨s4, z6, lv, rfl, h4'⟩
      have hl := later_ok o hc.2.1 hh
      have s14 := s13.trans s4
      have ha4 := s14 _ _ ha1
      walk_at "wl"
      refine make_ring (c := c) (mono_W _ _ _ _ s4 hy) hq hc.2.1 hc1 (by omega) fun v5 H5 s5 h5 => ?_
      have ha5 := s5 _ _ ha4
      walk_at "wl"
      refine make_ring (mono_W _ _ _ _ s5 h4') hq hl.1 (by omega) (by omega) fun v6 H6 s6 h6 => ?_
      walk_at "wl"
      rename_i p7 H7 s7 e7
      exact k _ _ fr c ((((s1.trans s14).trans s5).trans s6).trans s7) hB ⟨p7, _, _, _, rfl, e7, mono_F _ _ _ _ (((s4.trans s5).trans s6).trans s7) hx, mono_ring _ _ _ _ (s6.trans s7) h5, mono_ring _ _ _ _ s7 h6⟩
theorem ok_greatest_after (T : Txt K mg) : Cal P w K mg base 6 "greatest_after" (sp_greatest_after K) [] := cal_fnd (fd_greatest_after T) T.g_greatest_after (fun _ _ _ _ _ _ us hl => match us, hl with | [_, _, _], _ => rfl)
theorem okk_greatest_after (T : Txt K mg) : KCal P w K mg base 6 "greatest_after" ["hours", "gauge", "rule"] rev3 (sp_greatest_after K) := kcal3 (fd_greatest_after T) T.g_greatest_after fun _ _ _ _ _ _ _ _ _ => rfl
end
end WL
/-! gain -/
namespace WL
open PySem PySem.Spec PyProof.Rows L2
open C8 (Cal Met Mak pe_c pe_mk pe_mt pe_mt0 pe_gc)
/-- the greatest mean in lowest terms -/
def TopF (q n : Nat) (wt : Nat → Int) (fr : Int × Nat) : Prop := ∃ a b, MaxMean q n wt a b ∧ fr = lowestF a b
theorem change_l (r : Ru) (g : Ga) : (changeG r g).l = g.l + r.w - 1 := rfl
theorem change_len {r : Ru} {g : Ga} (o : r.Ok) (og : g.Ok r.q) (h : r.q ^ (g.l + r.w - 1) ≤ 729) : (changeG r g).ws.length = r.q ^ (g.l + r.w - 1) := by
  show ((List.range (gaugeLed r g).ws.length).map _).length = _
  rw [List.length_map, List.length_range, (led_ok o og h).len]
  rfl
section
variable {P : Program} {w : World} {K : PySem.W.Frag} {mg : Str → Option Value} {base : Heap}
abbrev RGain : Rl ((Int × Nat) × (Int × Nat)) := RP (fun H v d => ∃ a, v = .ref a ∧ H a = some (.tup [.int d.1, nV d.2])) RF
abbrev sp_gain (K : PySem.W.Frag) : Sp := fun vs H Q _ => ∃ (v u : V) (r : Ru) (g : Ga), vs = [v, u] ∧ RRule K H v r ∧ r.Ok ∧ RG H u g ∧ g.Ok r.q ∧ r.q ^ (g.l + r.w - 2) ≤ 60 ∧
  ∀ v' H' f1 f2, Same H H' → TopF r.q (r.q ^ (g.l + r.w - 2)) (changeG r g).at f1 → TopF r.q (r.q ^ (g.l + r.w - 2)) (negG (changeG r g)).at f2 → RGain H' v' ((0 - f2.1, f2.2), f1) → Q v' H'
theorem fd_gain (T : Txt K mg) : FND P w K mg base 6 d_gain ["rule", "gauge"] (sp_gain K) := by
  refine fnd_of T.f_gain rfl rfl sc_gain (fun vs H Q E h => ?_) (fun cdv A outer s H vs Q E hr h => ⟨_, (pss_cons (ps_expr (pe_c (ok_need_rule T) hr (by decide) rfl (pa_cons (pv 0) pa_nil)))
      (pss_cons (ps_expr (pe_c (ok_need_gauge T) hr (by decide) rfl (pa_cons (pe_fldK (K := K) rfl (pv 0) rfl) (pa_cons (pv 1) pa_nil))))
      (pss_cons (ps_expr (pe_c (ok_need_size T) hr (by decide) rfl (pa_cons (pv 0) pa_nil)))
      (pss_cons (ps_expr (pe_c (ok_need_few T) hr (by decide) rfl (pa_cons (pe_c (ok_power_of T) hr (by decide) rfl (pa_cons (pe_fldK (K := K) rfl (pv 0) rfl) (pa_cons (pe_op op_sub (pe_op op_add (pe_ix (ix_tupK (K := K) rfl) (pv 1) pe_int (fun _ _ => rfl)) (pe_fldK (K := K) rfl (pv 0) rfl)) pe_int) pa_nil))) pa_nil)))
      (pss_cons (ps_asg (pe_c (ok_change_gauge T) hr (by decide) rfl (pa_cons (pv 0) (pa_cons (pv 1) pa_nil))) (pg_tupK (K := K) (n := 2) rfl rfl (pgs_cons (pg_name (i := 2) sc_gain.nd rfl (.inl rfl)) (pgs_cons (pg_name (i := 3) sc_gain.nd rfl (.inl rfl)) pgs_nil))))
      (pss_cons (ps_set (i := 4) sc_gain.nd rfl (Or.inl rfl) (pe_mt0 (ok_Sums_greatest_fraction T) hr (by decide) (pe_mk (mk_Sums T) hr (by decide) rfl (pa_cons (pe_fldK (K := K) rfl (pv 0) rfl) (pa_cons (pe_tup (pa_cons (pv 2) (pa_cons (pv 3) pa_nil))) pa_nil)))))
      (pss_cons (ps_set (i := 5) sc_gain.nd rfl (Or.inl rfl) (pe_mt0 (ok_Sums_greatest_fraction T) hr (by decide) (pe_mk (mk_Sums T) hr (by decide) rfl (pa_cons (pe_fldK (K := K) rfl (pv 0) rfl) (pa_cons (pe_tup (pa_cons (pv 2) (pa_cons (pe_callTy (cl_tupleK (K := K) rfl) (by rfl) T.b_tuple (by decide +kernel) (pa_cons (pe_lc (own := [("weight", 6)]) (g := (gName 6)) (tt := tYes) rfl sc_gain.nd (pi_tupK (K := K) rfl (pv 3)) (blkOk_by (N := N_gain) (sc := defScope s_gain) (own := [("weight", 6)]) (by decide +kernel)) (fun _ _ _ _ _ => (pg_name (i := 6) sc_gain.nd rfl (.inl rfl))) (fun _ _ _ _ _ => pts_nil) (fun _ _ _ _ _ => (pe_op op_sub pe_int (pv 6)))) pa_nil)) pa_nil))) pa_nil)))))
      (pss_one (ps_ret (pe_tup (pa_cons (pe_tup (pa_cons (pe_op op_sub pe_int (pe_ix (ix_tupK (K := K) rfl) (pv 5) pe_int (fun _ _ => rfl))) (pa_cons (pe_ix (ix_tupK (K := K) rfl) (pv 5) pe_int (fun _ _ => rfl)) pa_nil))) (pa_cons (pv 4) pa_nil)))))))))))), ?_⟩)
  · obtain ⟨v, u, r, g, rfl, _⟩ := h
    rfl
  · obtain ⟨v, u, r, g, rfl, hv, o, hg, og, hs, k⟩ := h
    obtain ⟨a, dx, fs, rfl, ha, f1, f2, f3, b, ht, hb⟩ := id hv
    have hw := o.w1
    have hwd := o.wide
    have hq := o.q2
    have hl := og.l1
    have h9 := pow_big hq og.small (by decide)
    have hs2 : r.q ^ (g.l + r.w - 1) ≤ 180 := pow_split (a := g.l + r.w - 1) hq (by rw [show g.l + r.w - 1 - 1 = g.l + r.w - 2 by omega]; exact hs) (Nat.le_refl _)
    walk_at "wl"
    refine ⟨_, r, rfl, hv, ?_⟩
    walk_at "wl"
    refine ⟨r.q, _, g, rfl, hq, hg, og, fun H1 s1 => ?_⟩
    have hv1 := mono_rule _ _ _ _ s1 hv
    have hg1 := mono_G _ _ _ _ s1 hg
    obtain ⟨ga, gb, rfl, hga, hgb⟩ := id hg1
    have ha1 := s1 _ _ ha
    walk_at "wl"
    refine ⟨_, r, rfl, hv1, o, ?_⟩
    walk_at "wl"
    refine w_ixT 0 rfl hga rfl ?_
    walk_at "wl"
    refine ⟨r.q, g.l + r.w - 2, by rw [Int.natCast_sub (by omega)]; rfl, by omega, by omega, ?_⟩
    walk_at "wl"
    refine ⟨_, rfl, hs, ?_⟩
    walk_at "wl"
    refine ⟨_, _, r, g, rfl, hv1, o, hg1, og, by omega, fun v2 H2 s2 h2 => ?_⟩
    obtain ⟨ca, cb, rfl, hca, hcb⟩ := id h2
    have ha2 := s2 _ _ ha1
    walk_at "wl"
    rename_i p3 H3 s3 e3
    have cl : (changeG r g).l - 1 = g.l + r.w - 2 := by rw [change_l]; omega
    have olen := change_len o og (show r.q ^ (g.l + r.w - 1) ≤ 729 by omega)
    have oS : (⟨r.q, changeG r g⟩ : Sm).Ok := ⟨hq, by show 1 ≤ g.l + r.w - 1; omega, olen, by show r.q ^ ((changeG r g).l - 1) ≤ 60; rw [cl]; exact hs⟩
    have oN : (⟨r.q, negG (changeG r g)⟩ : Sm).Ok := ⟨hq, by show 1 ≤ g.l + r.w - 1; omega, by show ((changeG r g).ws.map _).length = _; rw [List.length_map]; exact olen, by show r.q ^ ((changeG r g).l - 1) ≤ 60; rw [cl]; exact hs⟩
    refine make_sums (K := K) ⟨p3, cb, rfl, e3, s3 _ _ hcb⟩ oS fun v4 H4 s4 h4 => ?_
    obtain ⟨sa, sdx, sfs, rfl, hsa, sf1, sf2, sf3, m1, m2, m3, m4, m5, m6⟩ := id h4
    walk_at "wl"
    refine ⟨_, ⟨r.q, changeG r g⟩, rfl, h4, oS, fun v5 H5 rows a1 b1 s5 hR5 hK5 h5 => ?_⟩
    have hM1 : MaxMean r.q (r.q ^ (g.l + r.w - 2)) (changeG r g).at a1 b1 := by
      have := karp (l := (changeG r g).l - 1) (show 2 ≤ r.q by omega) rfl hR5 hK5
      rw [← cl]
      exact this
    have s25 := ((s3.trans s4).trans s5)
    have ha5 := s25 _ _ ha2
    have hcb5 := s25 _ _ hcb
    walk_at "wl"
    refine lc_tup RInt mono_int firm_int (fun i => 0 - (changeG r g).ws.getD i 0) hcb5 (by rw [List.length_map, olen]; omega) (fun _ => rfl) (fun i x H6 hi hx s6 A hA => ?_) (fun la ys H6 hla s6 e6 al6 => ?_)
    · obtain ⟨n, rfl, hx2⟩ := int_at hx
      walk_at "wl"
      refine hA _ _ (fun _ _ h => h) ?_
      show V.int (0 - n) = V.int (0 - (changeG r g).ws.getD i 0)
      rw [List.getD_eq_getElem?_getD, hx2]
      rfl
    · walk_at "wl"
      rename_i p7 H7 s7 e7 p8 H8 s8 e8
      have hneg : (List.range (List.map V.int (changeG r g).ws).length).map (fun i => 0 - (changeG r g).ws.getD i 0) = (negG (changeG r g)).ws := by
        rw [List.length_map]
        refine List.ext_getElem? fun i => ?_
        show _ = ((changeG r g).ws.map fun x => 0 - x)[i]?
        rw [List.getElem?_map, List.getElem?_map]
        by_cases hi : i < (changeG r g).ws.length
        · rw [List.getElem?_range hi, List.getElem?_eq_getElem hi]
          show some (0 - (changeG r g).ws.getD i 0) = _
          rw [List.getD_eq_getElem?_getD, List.getElem?_eq_getElem hi]
          rfl
        · rw [List.getElem?_eq_none (by rw [List.length_range]; omega), List.getElem?_eq_none (by omega)]
          rfl
      refine make_sums (K := K) (g := negG (changeG r g)) ⟨p8, p7, rfl, e8, ?_⟩ oN fun v9 H9 s9 h9 => ?_
      · rw [s8 _ _ e7, int_items al6, hneg]
      obtain ⟨sa9, sdx9, sfs9, rfl, hsa9, g1, g2, g3, n1, n2, n3, n4, n5, n6⟩ := id h9
      walk_at "wl"
      refine ⟨_, ⟨r.q, negG (changeG r g)⟩, rfl, h9, oN, fun v10 H10 rows2 a2 b2 s10 hR10 hK10 h10 => ?_⟩
      have hM2 : MaxMean r.q (r.q ^ (g.l + r.w - 2)) (negG (changeG r g)).at a2 b2 := by
        have := karp (l := (changeG r g).l - 1) (show 2 ≤ r.q by omega) rfl hR10 hK10
        rw [← cl]
        exact this
      obtain ⟨l10, rfl, hl10⟩ := h10
      walk_at "wl"
      refine w_ixT 0 rfl hl10 rfl ?_
      walk_at "wl"
      refine w_ixT 1 rfl hl10 rfl ?_
      walk_at "wl"
      rename_i p11 H11 s11 e11 p12 H12 s12 e12
      refine k _ _ _ _ ?_ ⟨a1, b1, hM1, rfl⟩ ⟨a2, b2, hM2, rfl⟩ ⟨p12, _, _, rfl, e12, ⟨p11, rfl, s12 _ _ e11⟩, mono_F _ _ _ _ ((((((s6.trans s7).trans s8).trans s9).trans s10).trans s11).trans s12) h5⟩
      exact (((((((((s1.trans s2).trans s25).trans s6).trans s7).trans s8).trans s9).trans s10).trans s11).trans s12)
theorem ok_gain (T : Txt K mg) : Cal P w K mg base 6 "gain" (sp_gain K) [] := cal_fnd (fd_gain T) T.g_gain (fun _ _ _ _ _ _ us hl => match us, hl with | [_, _], _ => rfl)
theorem okk_gain (T : Txt K mg) : KCal P w K mg base 6 "gain" ["gauge", "rule"] rev2 (sp_gain K) := kcal2 (fd_gain T) T.g_gain fun _ _ _ _ _ _ _ _ => rfl
end
end WL
/-! the law's own words and rings -/
namespace WL
open PySem PySem.Spec PyProof.Rows L2
open C8 (Cal Met Mak pe_c pe_mk pe_mt pe_mt0 pe_gc)
/-- a model in the heap -/
def RM : Rl Ru := fun H v r => ∃ a b, v = .ref a ∧ H a = some (.tup [nV r.q, .int r.f, nV r.w, .ref b]) ∧ H b = some (.tup (r.t.map nV))
theorem mono_M : Mono RM := fun H H' v d s ⟨a, b, e, h, h2⟩ => ⟨a, b, e, s _ _ h, s _ _ h2⟩
theorem range_flat {δ : Type} (f : Nat → δ) (q : Nat) : ∀ m, (List.range (m * q)).map f = (List.range m).flatMap fun i => (List.range q).map fun k => f (i * q + k)
  | 0 => by simp
  | m + 1 => by
    rw [List.range_succ, List.flatMap_append, ← range_flat f q m, Nat.add_mul, Nat.one_mul, List.range_add, List.map_append, List.map_map]
    congr 1
    rw [List.flatMap_cons, List.flatMap_nil, List.append_nil]
    rfl
theorem allWords_zero (q : Nat) : allWords q 0 = [[]] := rfl
theorem allWords_succ {q : Nat} (hq : 0 < q) (l : Nat) : allWords q (l + 1) = (allWords q l).flatMap fun w => (List.range q).map fun k => w ++ [k] := by
  unfold allWords
  rw [Nat.pow_succ, range_flat, List.flatMap_map]
  congr 1
  funext i
  refine List.map_congr_left fun k hk => ?_
  rw [List.mem_range] at hk
  rw [wordOf_succ, word_div hk, Nat.mul_comm, Nat.mul_add_mod, Nat.mod_eq_of_lt hk]
def stepsN (r : Ru) : Nat → List Nat → List Nat
  | 0, u => u
  | h + 1, u => stepWord r (stepsN r h u)
/-- the law's own led gauge -/
def ledW (r : Ru) (g : Ga) (h : Nat) : Ga := ⟨g.l + h * (r.w - 1), (allWords r.q (g.l + h * (r.w - 1))).map fun u => g.at (num r.q (stepsN r h u))⟩
/-- the window of a ring -/
def winOf (c : List Nat) (l : Nat) (k : Nat) : List Nat := (List.range l).map fun (j : Nat) => cellAt c ((k : Int) + (j : Int))
/-- the reading of a ring -/
def readK (q : Nat) (g : Ga) (c : List Nat) (m : Nat) : Int := ((List.range m).map fun k => g.at (num q (winOf c g.l k))).sum
def readR (q : Nat) (g : Ga) (c : List Nat) : Int := readK q g c c.length
theorem readK_succ (q : Nat) (g : Ga) (c : List Nat) (m : Nat) : readK q g c (m + 1) = readK q g c m + g.at (num q (winOf c g.l m)) := by
  unfold readK
  rw [List.range_succ, List.map_append, List.sum_append]
  simp
theorem cellAt_nat {c : List Nat} (k j : Nat) : cellAt c ((k : Int) + (j : Int)) = c.getD ((k + j) % c.length) 0 := by
  unfold cellAt
  congr 1
theorem cellAt_lt {q : Nat} {c : List Nat} (hq : 0 < q) (hc : Kinds q c) (i : Int) : cellAt c i < q := by
  unfold cellAt
  rw [List.getD_eq_getElem?_getD]
  cases e : c[(i % (c.length : Int)).toNat]? with
  | none => exact hq
  | some x => exact hc x (List.mem_of_getElem? e)
theorem winOf_kinds {q : Nat} {c : List Nat} (hq : 0 < q) (hc : Kinds q c) (l k : Nat) : Kinds q (winOf c l k) := fun x hx => by
  unfold winOf at hx
  rw [List.mem_map] at hx
  obtain ⟨j, _, rfl⟩ := hx
  exact cellAt_lt hq hc _
theorem winOf_length (c : List Nat) (l k : Nat) : (winOf c l k).length = l := by
  unfold winOf
  rw [List.length_map, List.length_range]
section
variable {P : Program} {w : World} {K : PySem.W.Frag} {mg : Str → Option Value} {base : Heap}
theorem ok_law_power (T : Txt K mg) : Cal P w K mg base 1 "_law_power" sp_power_of [] := by
  refine cal_of T.f_law_power T.g_law_power rfl rfl sc_law_power (fun _ _ _ _ _ _ us hl => match us, hl with | [_, _], _ => rfl) (fun vs H Q E h => ?_) (fun cdv A outer s H vs Q E hr h => ⟨_, (pss_cons (ps_set (i := 2) sc_law_power.nd rfl (Or.inl rfl) pe_int)
      (pss_cons (ps_for PassesOwn.never rfl (pi_range1 rfl T.b_range (pa_cons (pv 1) pa_nil)) (pg_name (i := 3) sc_law_power.nd rfl (.inl rfl)) (pss_one (ps_set (i := 2) sc_law_power.nd rfl (Or.inl rfl) (pe_op op_mul (pv 2) (pv 0)))))
      (pss_one (ps_ret (pv 2))))), ?_⟩)
  · obtain ⟨q, t, rfl, _⟩ := h
    rfl
  · obtain ⟨q, t, rfl, hq, ht, k⟩ := h
    walk_at "wl"
    refine w_rngAt t rfl (by omega) ?_
    refine f_rng (fun i σ H' => H' = H ∧ ∃ z, σ = [some (.int q), some (.int t), some (nV (q ^ i)), z]) ⟨rfl, _, rfl⟩ ?_ ?_
    · rintro i σ H' hi ⟨rfl, z, rfl⟩
      walk_at "wl"
      refine ⟨rfl, some (nV i), ?_⟩
      rw [Nat.pow_succ]
      simp
    · rintro σ H' ⟨rfl, z, rfl⟩
      walk_at "wl"
      exact k
theorem ok_law_number (T : Txt K mg) : Cal P w K mg base 1 "_law_number" sp_number_in [] := by
  refine cal_of T.f_law_number T.g_law_number rfl rfl sc_law_number (fun _ _ _ _ _ _ us hl => match us, hl with | [_, _], _ => rfl) (fun vs H Q E h => ?_) (fun cdv A outer s H vs Q E hr h => ⟨_, (pss_cons (ps_set (i := 2) sc_law_number.nd rfl (Or.inl rfl) pe_int)
      (pss_cons (ps_for PassesOwn.never rfl (pi_tupK (K := K) rfl (pv 1)) (pg_name (i := 3) sc_law_number.nd rfl (.inl rfl)) (pss_one (ps_set (i := 2) sc_law_number.nd rfl (Or.inl rfl) (pe_op op_add (pe_op op_mul (pv 2) (pv 0)) (pv 3)))))
      (pss_one (ps_ret (pv 2))))), ?_⟩)
  · obtain ⟨q, p, w, rfl, _⟩ := h
    rfl
  · obtain ⟨q, p, wd, rfl, ⟨a, rfl, ha⟩, hq, k⟩ := h
    walk_at "wl"
    refine f_tup (fun i σ H' => H' = H ∧ ∃ z, σ = [some (.int q), some (.ref a), some (nV (num q (wd.take i))), z]) (fun i σ H' _ h => h.1 ▸ ha) ⟨rfl, _, rfl⟩ ?_ ?_
    · rintro i x σ H' hi e ⟨rfl, z, rfl⟩
      obtain ⟨n, rfl, e2⟩ := nV_at e
      walk_at "wl"
      refine ⟨rfl, some (nV n), ?_⟩
      rw [take_snoc e2, num_snoc]
      simp
    · rintro σ H' ⟨rfl, z, rfl⟩
      walk_at "wl"
      rw [List.length_map, List.take_length]
      exact k
theorem ok_law_low (T : Txt K mg) : Cal P w K mg base 1 "_law_low" sp_lowest [] := by
  refine cal_of T.f_law_low T.g_law_low rfl rfl sc_law_low (fun _ _ _ _ _ _ us hl => match us, hl with | [_, _], _ => rfl) (fun vs H Q E h => ?_) (fun cdv A outer s H vs Q E hr h => ⟨_, (pss_cons (ps_par (i := 2) (j := 3) rfl sc_law_low.nd rfl rfl (by decide) rfl rfl (pa_cons (pe_callB cl_abs (by rfl) T.b_abs (by decide +kernel) (pa_cons (pv 0) pa_nil)) (pa_cons (pv 1) pa_nil)) (by rfl))
      (pss_cons (ps_while PassesOwn.never (pt_cmpR op_ne (pv 3) pe_int (nomark _)) (pss_one (ps_par (i := 2) (j := 3) rfl sc_law_low.nd rfl rfl (by decide) rfl rfl (pa_cons (pv 3) (pa_cons (pe_op op_mod (pv 2) (pv 3)) pa_nil)) (by rfl))))
      (pss_one (ps_ret (pe_tup (pa_cons (pe_op op_fdiv (pv 0) (pv 2)) (pa_cons (pe_op op_fdiv (pv 1) (pv 2)) pa_nil))))))), ?_⟩)
  · obtain ⟨a, b, rfl, _⟩ := h
    rfl
  · obtain ⟨a, b, rfl, hb, hb2, k⟩ := h
    have g1 : 0 < Nat.gcd a.natAbs b := Nat.gcd_pos_of_pos_right _ hb
    have g2 : Nat.gcd a.natAbs b ≤ b := Nat.gcd_le_right _ hb
    walk_at "wl"
    rw [abs_nat]
    refine w_while (fun m σ H' => H' = H ∧ ∃ x : Nat, σ = [some (.int a), some (.int b), some (nV x), some (nV m)] ∧ Nat.gcd x m = Nat.gcd a.natAbs b ∧ 0 < x + m) ⟨b, rfl, a.natAbs, rfl, rfl, by omega⟩ ?_
    rintro m σ H' ⟨rfl, x, rfl, hg, hp⟩
    walk_at "wl"
    refine w_iteN (fun hm => ?_) (fun hm => ?_)
    · refine w_whB ?_
      walk_at "wl"
      refine ⟨x % m, Nat.mod_lt _ (by omega), rfl, m, by simp, ?_, by omega⟩
      rw [← hg, Nat.gcd_comm x m, Nat.gcd_rec m x, Nat.gcd_comm]
    · have e : m = 0 := by omega
      subst e
      rw [Nat.gcd_zero_right] at hg
      subst hg
      walk_at "wl"
      rename_i p H2 s2 e2
      refine k _ _ s2 ⟨p, rfl, ?_⟩
      rw [e2]
      unfold lowestF
      simp
abbrev sp_law_words : Sp := fun vs H Q _ => ∃ (q l : Nat), vs = [.int q, .int l] ∧ (q = 2 ∨ q = 3) ∧ l ≤ 100 ∧ q ^ l ≤ 1000 ∧ ∀ v H', Same H H' → RLst W H' v (allWords q l) → Q v H'
theorem ok_law_words (T : Txt K mg) : Cal P w K mg base 1 "_law_words" sp_law_words [] := by
  refine cal_of T.f_law_words T.g_law_words rfl rfl sc_law_words (fun _ _ _ _ _ _ us hl => match us, hl with | [_, _], _ => rfl) (fun vs H Q E h => ?_) (fun cdv A outer s H vs Q E hr h => ⟨_, (pss_cons (ps_set (i := 2) sc_law_words.nd rfl (Or.inl rfl) (pe_lst (pa_cons (pe_tup pa_nil) pa_nil)))
      (pss_cons (ps_for PassesOwn.never rfl (pi_range1 rfl T.b_range (pa_cons (pv 1) pa_nil)) (pg_name (i := 3) sc_law_words.nd rfl (.inl rfl)) (pss_cons (ps_set (i := 4) sc_law_words.nd rfl (Or.inl rfl) (pe_lst pa_nil))
      (pss_cons (ps_for PassesOwn.never rfl (pi_listK (K := K) rfl (pv 2)) (pg_name (i := 5) sc_law_words.nd rfl (.inr rfl)) (pss_one (ps_set (i := 4) sc_law_words.nd rfl (Or.inl rfl) (pe_op op_cat (pv 4) (pe_lc (own := [("_law_kind_here", 6)]) (g := (gName 6)) (tt := tYes) rfl sc_law_words.nd (pi_range1 rfl T.b_range (pa_cons (pv 0) pa_nil)) (blkOk_by (N := N_law_words) (sc := defScope s_law_words) (own := [("_law_kind_here", 6)]) (by decide +kernel)) (fun _ _ _ _ _ => (pg_name (i := 6) sc_law_words.nd rfl (.inl rfl))) (fun _ _ _ _ _ => pts_nil) (fun _ _ _ _ _ => (pe_op (op_catAK (K := K) rfl) (pv 5) (pe_tup (pa_cons (pv 6) pa_nil)))))))))
      (pss_one (ps_set (i := 2) sc_law_words.nd rfl (Or.inl rfl) (pv 4))))))
      (pss_one (ps_ret (pv 2))))), ?_⟩)
  · obtain ⟨q, l, rfl, _⟩ := h
    rfl
  · obtain ⟨q, l, rfl, hq, hl, hs, k⟩ := h
    have hq0 : 0 < q := by omega
    walk_at "wl"
    rename_i p1 H1 s1 e1 p2 H2 hp2 s2 e2
    refine w_rngAt l rfl (by omega) ?_
    refine f_rng (fun i σ H' => Same H H' ∧ ∃ z3 z4 z5 z6 fv, σ = [some (.int q), some (.int l), some fv, z3, z4, z5, z6] ∧ RLst W H' fv (allWords q i)) ⟨s1.trans s2, _, _, _, _, _, rfl, p2, _, rfl, e2, All2.nil.snoc ⟨p1, rfl, s2 _ _ e1⟩⟩ ?_ ?_
    · rintro i σ H3 hi ⟨s3, z3, z4, z5, z6, fv, rfl, f0, xs, rfl, ef, alf⟩
      have hps : q ^ i * q ≤ q ^ l := by
        rw [← Nat.pow_succ]
        exact Nat.pow_le_pow_right hq0 hi
      have hxl : xs.length = q ^ i := by rw [alf.1, allWords_length]
      walk_at "wl"
      rename_i D H4 hD s4 e4
      refine f_lst (xs := xs) (fun j σ H' => Same H3 H' ∧ ∃ z5 z6 lv, σ = [some (.int q), some (.int l), some (.ref f0), some (.int (i : Nat)), some lv, z5, z6] ∧ RLst W H' lv (((allWords q i).take j).flatMap fun w => (List.range q).map fun k => w ++ [k]))
        (fun j σ H' _ h => h.1 _ _ ef) ⟨s4, _, _, _, rfl, D, [], rfl, e4, All2.nil⟩ ?_ ?_
      · rintro j x σ H5 hj hx ⟨s5, z5, z6, lv, rfl, la, ys, rfl, el, all⟩
        obtain ⟨wd, hwd, p, rfl, hp⟩ := alf.at' hx
        have hp5 := s5 _ _ hp
        have hyl : ys.length = j * q := by
          rw [all.1, List.length_flatMap]
          have : (List.map (fun a => (List.map (fun k => a ++ [k]) (List.range q)).length) ((allWords q i).take j)) = List.replicate j q := by
            refine List.ext_getElem ?_ fun k h1 h2 => ?_
            · rw [List.length_map, List.length_take, List.length_replicate, allWords_length]
              omega
            · simp
          rw [this, List.sum_replicate_nat]
        have hjq : (j + 1) * q ≤ q ^ i * q := Nat.mul_le_mul_right _ (by omega)
        rw [Nat.add_mul, Nat.one_mul] at hjq
        have hwl : wd.length ≤ 100 := by
          unfold allWords at hwd
          rw [List.getElem?_map] at hwd
          cases hh : (List.range (q ^ i))[j]? with
          | none => rw [hh] at hwd; cases hwd
          | some n =>
            rw [hh] at hwd
            cases hwd
            rw [wordOf_length]
            omega
        walk_at "wl"
        refine w_rngAt q rfl (by omega) ?_
        refine lc_rng W mono_W firm_W (fun k => wd ++ [k]) (by omega) (fun _ => rfl) (fun kk H6 hk s6 A hA => ?_) (fun la2 zs H6 hla2 s6 e6 al6 => ?_)
        · walk_at "wl"
          rename_i p7 H7 s7 e7
          refine w_catA (s7 _ _ (s6 _ _ hp5)) e7 (by rw [List.length_map]; show _ + 1 ≤ _; omega) fun p8 H8 s8 e8 => ?_
          refine hA _ _ (s7.trans s8) ⟨p8, rfl, ?_⟩
          rw [e8, List.map_append]
          rfl
        · refine w_cat (s6 _ _ el) e6 (by rw [al6.1, List.length_map, List.length_range]; omega) fun p9 H9 hp9 s9 e9 => ?_
          walk_at "wl"
          refine ⟨(s5.trans s6).trans s9, _, _, _, rfl, p9, _, rfl, e9, ?_⟩
          rw [take_snoc hwd, List.flatMap_append]
          refine All2.append (all.imp fun x d h => mono_W _ _ _ _ (s6.trans s9) h) ?_
          rw [List.flatMap_cons, List.flatMap_nil, List.append_nil]
          exact al6.imp fun x d h => mono_W _ _ _ _ s9 h
      · rintro σ H5 ⟨s5, z5, z6, lv, rfl, hlv⟩
        walk_at "wl"
        refine ⟨s3.trans s5, _, _, _, _, _, rfl, ?_⟩
        rw [allWords_succ hq0]
        rw [hxl, ← allWords_length q i, List.take_length] at hlv
        exact hlv
    · rintro σ H3 ⟨s3, z3, z4, z5, z6, fv, rfl, hfv⟩
      walk_at "wl"
      exact k _ _ s3 hfv
abbrev sp_law_made (K : PySem.W.Frag) : Sp := fun vs H Q _ => ∃ (v : V) (r : Ru), vs = [v] ∧ RM H v r ∧ r.Ok ∧ ∀ v' H', Same H H' → RRule K H' v' r → Q v' H'
theorem ok_law_made (T : Txt K mg) : Cal P w K mg base 6 "_law_made" (sp_law_made K) [] := by
  refine cal_of T.f_law_made T.g_law_made rfl rfl sc_law_made (fun _ _ _ _ _ _ us hl => match us, hl with | [_], _ => rfl) (fun vs H Q E h => ?_) (fun cdv A outer s H vs Q E hr h => ⟨_, (pss_one (ps_ret (pe_mk (mk_Rule T) hr (by decide) rfl (pa_cons (pe_ix (ix_tupK (K := K) rfl) (pv 0) pe_int (fun _ _ => rfl)) (pa_cons (pe_ix (ix_tupK (K := K) rfl) (pv 0) pe_int (fun _ _ => rfl)) (pa_cons (pe_ix (ix_tupK (K := K) rfl) (pv 0) pe_int (fun _ _ => rfl)) pa_nil)))))), ?_⟩)
  · obtain ⟨v, r, rfl, _⟩ := h
    rfl
  · obtain ⟨v, r, rfl, ⟨a, b, rfl, ha, hb⟩, o, k⟩ := h
    walk_at "wl"
    refine w_ixT 0 rfl ha rfl ?_
    walk_at "wl"
    refine w_ixT 1 rfl ha rfl ?_
    walk_at "wl"
    refine w_ixT 3 rfl ha rfl ?_
    walk_at "wl"
    refine make_rule (K := K) ⟨b, rfl, hb⟩ o fun v1 H1 s1 h1 => ?_
    exact k _ _ s1 h1
abbrev sp_law_told : Sp := fun vs H Q _ => ∃ (v p : V) (r : Ru) (u : List Nat), vs = [v, p] ∧ RM H v r ∧ W H p u ∧ r.Ok ∧ num r.q u < r.t.length ∧ Q (.int (toldK r u)) H
theorem ok_law_told (T : Txt K mg) : Cal P w K mg base 2 "_law_told" sp_law_told [] := by
  refine cal_of T.f_law_told T.g_law_told rfl rfl sc_law_told (fun _ _ _ _ _ _ us hl => match us, hl with | [_, _], _ => rfl) (fun vs H Q E h => ?_) (fun cdv A outer s H vs Q E hr h => ⟨_, (pss_one (ps_ret (pe_ix (ix_tupK (K := K) rfl) (pe_ix (ix_tupK (K := K) rfl) (pv 0) pe_int (fun _ _ => rfl)) (pe_c (ok_law_number T) hr (by decide) rfl (pa_cons (pe_ix (ix_tupK (K := K) rfl) (pv 0) pe_int (fun _ _ => rfl)) (pa_cons (pv 1) pa_nil))) (fun _ _ => rfl)))), ?_⟩)
  · obtain ⟨v, p, r, u, rfl, _⟩ := h
    rfl
  · obtain ⟨v, p, r, u, rfl, ⟨a, b, rfl, ha, hb⟩, hp, o, hl, k⟩ := h
    walk_at "wl"
    refine w_ixT 3 rfl ha rfl ?_
    walk_at "wl"
    refine w_ixT 0 rfl ha rfl ?_
    walk_at "wl"
    refine ⟨r.q, _, u, rfl, hp, by have := o.q2; omega, ?_⟩
    refine w_ixT (num r.q u) rfl hb (nV_get hl) ?_
    exact k
end
end WL
/-! the law's own hours and readings -/
namespace WL
open PySem PySem.Spec PyProof.Rows L2
open C8 (Cal Met Mak pe_c pe_mk pe_mt pe_mt0 pe_gc)
theorem max0 (a b : Nat) : (if (a : Int) - (b : Int) + 1 > 0 then (a : Int) - (b : Int) + 1 else 0) = ((a + 1 - b : Nat) : Int) := by split <;> omega
section
variable {P : Program} {w : World} {K : PySem.W.Frag} {mg : Str → Option Value} {base : Heap}
abbrev sp_law_step : Sp := fun vs H Q _ => ∃ (v p : V) (r : Ru) (u : List Nat), vs = [v, p] ∧ RM H v r ∧ W H p u ∧ r.Ok ∧ Kinds r.q u ∧ u.length < 10000 ∧ ∀ v' H', Same H H' → W H' v' (stepWord r u) → Q v' H'
theorem ok_law_step (T : Txt K mg) : Cal P w K mg base 3 "_law_step" sp_law_step [] := by
  refine cal_of T.f_law_step T.g_law_step rfl rfl sc_law_step (fun _ _ _ _ _ _ us hl => match us, hl with | [_, _], _ => rfl) (fun vs H Q E h => ?_) (fun cdv A outer s H vs Q E hr h => ⟨_, (pss_cons (ps_set (i := 2) sc_law_step.nd rfl (Or.inr rfl) (pe_ix (ix_tupK (K := K) rfl) (pv 0) pe_int (fun _ _ => rfl)))
      (pss_one (ps_ret (pe_callTy (cl_tupleK (K := K) rfl) (by rfl) T.b_tuple (by decide +kernel) (pa_cons (pe_lc (own := [("_law_k", 3)]) (g := (gName 3)) (tt := tYes) rfl sc_law_step.nd (pi_range1 rfl T.b_range (pa_cons (pe_callB (cl_max2 rfl) (by rfl) T.b_max (by decide +kernel) (pa_cons pe_int (pa_cons (pe_op op_add (pe_op op_sub (pe_callB (cl_lenK (K := K) rfl) (by rfl) T.b_len (by decide +kernel) (pa_cons (pv 1) pa_nil)) (pv 2)) pe_int) pa_nil))) pa_nil)) (blkOk_by (N := N_law_step) (sc := defScope s_law_step) (own := [("_law_k", 3)]) (by decide +kernel)) (fun _ _ _ _ _ => (pg_name (i := 3) sc_law_step.nd rfl (.inl rfl))) (fun _ _ _ _ _ => pts_nil) (fun _ _ _ _ _ => (pe_c (ok_law_told T) hr (by decide) rfl (pa_cons (pv 0) (pa_cons (pe_slice (sl_tupK (K := K) rfl) (pv 1) (po_some (pv 3)) (po_some (pe_op op_add (pv 3) (pv 2)))) pa_nil))))) pa_nil))))), ?_⟩)
  · obtain ⟨v, p, r, u, rfl, _⟩ := h
    rfl
  · obtain ⟨v, p, r, u, rfl, hv, ⟨c, rfl, hc⟩, o, hu, hl, k⟩ := h
    obtain ⟨a, b, rfl, ha, hb⟩ := id hv
    have := o.w1
    have ml : (u.map nV).length = u.length := List.length_map _
    walk_at "wl"
    refine w_ixT 2 rfl ha rfl ?_
    walk_at "wl"
    rw [ml, max0]
    refine w_rngAt (u.length + 1 - r.w) rfl (by omega) ?_
    refine lc_rng RNat mono_nat firm_nat (fun i => toldK r ((u.drop i).take r.w)) (by omega) (fun _ => rfl) (fun i H2 hi s2 A hA => ?_) (fun b ys H' hb s l al => ?_)
    · walk_at "wl"
      refine w_slA i (i + r.w) rfl (by omega) (s2 _ _ hc) fun p2 H3 s3 e3 => ?_
      walk_at "wl"
      rw [← List.map_drop, ← List.map_take, Nat.add_sub_cancel_left] at e3
      refine ⟨_, _, r, (u.drop i).take r.w, rfl, mono_M _ _ _ _ (s2.trans s3) hv, ⟨p2, rfl, e3⟩, o, told_lt o (hu.part _ _) ?_, hA _ _ s3 rfl⟩
      rw [List.length_take, List.length_drop]
      omega
    · walk_at "wl"
      rename_i p2 H3 s3 e3
      refine k _ _ (s.trans s3) ⟨p2, rfl, ?_⟩
      rw [e3, nat_items al]
      rfl
abbrev sp_law_round : Sp := fun vs H Q _ => ∃ (v p : V) (r : Ru) (c : List Nat), vs = [v, p] ∧ RM H v r ∧ W H p c ∧ r.Ok ∧ Kinds r.q c ∧ c.length ≤ 100 ∧ ∀ v' H', Same H H' → W H' v' (roundOf r c) → Q v' H'
theorem ok_law_round (T : Txt K mg) : Cal P w K mg base 3 "_law_round" sp_law_round [] := by
  refine cal_of T.f_law_round T.g_law_round rfl rfl sc_law_round (fun _ _ _ _ _ _ us hl => match us, hl with | [_, _], _ => rfl) (fun vs H Q E h => ?_) (fun cdv A outer s H vs Q E hr h => ⟨_, (pss_cons (ps_set (i := 2) sc_law_round.nd rfl (Or.inr rfl) (pe_callB (cl_lenK (K := K) rfl) (by rfl) T.b_len (by decide +kernel) (pa_cons (pv 1) pa_nil)))
      (pss_cons (ps_set (i := 3) sc_law_round.nd rfl (Or.inl rfl) (pe_lst pa_nil))
      (pss_cons (ps_for PassesOwn.never rfl (pi_range1 rfl T.b_range (pa_cons (pv 2) pa_nil)) (pg_name (i := 4) sc_law_round.nd rfl (.inr rfl)) (pss_one (ps_expr (pe_bm PySem.F.plainAttrs_list PySem.F.slot_list_append PySem.F.type_list_append mt_append (pv 3) (pa_cons (pe_c (ok_law_told T) hr (by decide) rfl (pa_cons (pv 0) (pa_cons (pe_callTy (cl_tupleK (K := K) rfl) (by rfl) T.b_tuple (by decide +kernel) (pa_cons (pe_lc (own := [("_law_j", 5)]) (g := (gName 5)) (tt := tYes) rfl sc_law_round.nd (pi_range1 rfl T.b_range (pa_cons (pe_ix (ix_tupK (K := K) rfl) (pv 0) pe_int (fun _ _ => rfl)) pa_nil)) (blkOk_by (N := N_law_round) (sc := defScope s_law_round) (own := [("_law_j", 5)]) (by decide +kernel)) (fun _ _ _ _ _ => (pg_name (i := 5) sc_law_round.nd rfl (.inl rfl))) (fun _ _ _ _ _ => pts_nil) (fun _ _ _ _ _ => (pe_ix (ix_tupK (K := K) rfl) (pv 1) (pe_op op_mod (pe_op op_add (pe_op op_add (pv 4) (pe_ix (ix_tupK (K := K) rfl) (pv 0) pe_int (fun _ _ => rfl))) (pv 5)) (pv 2)) (fun _ _ => rfl)))) pa_nil)) pa_nil))) pa_nil)))))
      (pss_one (ps_ret (pe_callTy (cl_tupleK (K := K) rfl) (by rfl) T.b_tuple (by decide +kernel) (pa_cons (pv 3) pa_nil))))))), ?_⟩)
  · obtain ⟨v, p, r, c, rfl, _⟩ := h
    rfl
  · obtain ⟨v, p, r, c, rfl, hv, ⟨b0, rfl, hc⟩, o, hu, hl, k⟩ := h
    obtain ⟨a, b, rfl, ha, hb⟩ := id hv
    have hw := o.w1
    have hwd := o.wide
    have ml : (c.map nV).length = c.length := List.length_map _
    walk_at "wl"
    rename_i D H1 hD s1 e1
    rw [ml]
    refine w_rngAt c.length rfl (by omega) ?_
    let F : Nat → Nat := fun (k : Nat) => toldK r ((List.range r.w).map fun (j : Nat) => cellAt c (k + r.f + j))
    refine f_rng (fun i σ H' => Same H H' ∧ ∃ z4 z5, σ = [some (.ref a), some (.ref b0), some (nV c.length), some (.ref D), z4, z5] ∧ H' D = some (.lst (((List.range i).map F).map nV))) ⟨s1, _, _, rfl, e1⟩ ?_ ?_
    · rintro i σ H2 hi ⟨s2, z4, z5, rfl, e2⟩
      have ha2 := s2 _ _ ha
      have hc2 := s2 _ _ hc
      walk_at "wl"
      refine w_ixT 2 rfl ha2 rfl ?_
      walk_at "wl"
      refine w_rngAt r.w rfl (by omega) ?_
      refine lc_rng RNat mono_nat firm_nat (fun (j : Nat) => cellAt c ((i : Int) + r.f + (j : Int))) (by omega) (fun _ => rfl) (fun j H3 hj s3 A hA => ?_) (fun lb ys H3 hlb s3 e3 al3 => ?_)
      · have ha3 := s3 _ _ ha2
        have hc3 := s3 _ _ hc2
        walk_at "wl"
        refine w_ixT 1 rfl ha3 rfl ?_
        walk_at "wl"
        have h0 := Int.emod_nonneg ((i : Int) + r.f + (j : Int)) (b := (c.length : Int)) (by omega)
        have h1 := Int.emod_lt_of_pos ((i : Int) + r.f + (j : Int)) (b := (c.length : Int)) (by omega)
        refine w_ixT (((i : Int) + r.f + (j : Int)) % (c.length : Int)).toNat (by omega) hc3 (nV_get (by omega)) ?_
        exact hA _ _ (fun _ _ h => h) rfl
      · walk_at "wl"
        rename_i p4 H4 s4 e4
        have s24 := s3.trans s4
        refine ⟨_, _, r, (List.range r.w).map fun (j : Nat) => cellAt c ((i : Int) + r.f + (j : Int)), rfl, mono_M _ _ _ _ (s2.trans s24) hv, ⟨p4, rfl, by rw [e4, nat_items al3]⟩, o, told_lt o (fun x hx => ?_) (by rw [List.length_map, List.length_range]), ?_⟩
        · rw [List.mem_map] at hx
          obtain ⟨j, _, rfl⟩ := hx
          exact cellAt_lt (by have := o.q2; omega) hu _
        · walk_at "wl"
          refine w_app (s24 _ _ e2) (by rw [List.length_map, List.length_map, List.length_range]; omega) ?_
          walk_at "wl"
          refine ⟨Same.mut (s2.trans s24) hD, _, _, rfl, ?_⟩
          rw [upd_same, List.range_succ, List.map_append, List.map_append]
          rfl
    · rintro σ H2 ⟨s2, z4, z5, rfl, e2⟩
      walk_at "wl"
      rename_i p4 H4 s4 e4
      exact k _ _ (s2.trans s4) ⟨p4, rfl, e4⟩
abbrev sp_law_later : Sp := fun vs H Q _ => ∃ (v p : V) (r : Ru) (c : List Nat) (h : Nat), vs = [v, p, .int h] ∧ RM H v r ∧ W H p c ∧ r.Ok ∧ Kinds r.q c ∧ c.length ≤ 100 ∧ h ≤ 100 ∧ ∀ v' H', Same H H' → W H' v' (laterN r h c) → Q v' H'
theorem ok_law_later (T : Txt K mg) : Cal P w K mg base 4 "_law_later" sp_law_later [] := by
  refine cal_of T.f_law_later T.g_law_later rfl rfl sc_law_later (fun _ _ _ _ _ _ us hl => match us, hl with | [_, _, _], _ => rfl) (fun vs H Q E h => ?_) (fun cdv A outer s H vs Q E hr h => ⟨_, (pss_cons (ps_for PassesOwn.never rfl (pi_range1 rfl T.b_range (pa_cons (pv 2) pa_nil)) (pg_name (i := 3) sc_law_later.nd rfl (.inl rfl)) (pss_one (ps_set (i := 1) sc_law_later.nd rfl (Or.inl rfl) (pe_c (ok_law_round T) hr (by decide) rfl (pa_cons (pv 0) (pa_cons (pv 1) pa_nil))))))
      (pss_one (ps_ret (pv 1)))), ?_⟩)
  · obtain ⟨v, p, r, c, h, rfl, _⟩ := h
    rfl
  · obtain ⟨v, p, r, c, hh, rfl, hv, hp, o, hu, hl, hhl, k⟩ := h
    walk_at "wl"
    refine w_rngAt hh rfl (by omega) ?_
    refine f_rng (fun i σ H' => Same H H' ∧ ∃ z3 lv, σ = [some v, some lv, some (.int hh), z3] ∧ W H' lv (laterN r i c)) ⟨fun _ _ h => h, _, _, rfl, hp⟩ ?_ ?_
    · rintro i σ H4 hi ⟨s4, z3, lv, rfl, h4'⟩
      have hl := later_ok o hu i
      walk_at "wl"
      refine ⟨_, _, r, laterN r i c, rfl, mono_M _ _ _ _ s4 hv, h4', o, hl.1, by omega, fun v5 H5 s5 h5 => ?_⟩
      walk_at "wl"
      exact ⟨s4.trans s5, _, _, rfl, h5⟩
    · rintro σ H4 ⟨s4, z3, lv, rfl, h4'⟩
      walk_at "wl"
      exact k _ _ s4 h4'
abbrev sp_law_sum : Sp := fun vs H Q _ => ∃ (q : Nat) (v p : V) (g : Ga) (c : List Nat), vs = [.int q, v, p] ∧ (q = 2 ∨ q = 3) ∧ RG H v g ∧ g.ws.length = q ^ g.l ∧ g.l ≤ 100 ∧ W H p c ∧ Kinds q c ∧ c.length ≤ 100 ∧ ∀ H', Same H H' → Q (.int (readR q g c)) H'
theorem ok_law_sum (T : Txt K mg) : Cal P w K mg base 2 "_law_sum" sp_law_sum [] := by
  refine cal_of T.f_law_sum T.g_law_sum rfl rfl sc_law_sum (fun _ _ _ _ _ _ us hl => match us, hl with | [_, _, _], _ => rfl) (fun vs H Q E h => ?_) (fun cdv A outer s H vs Q E hr h => ⟨_, (pss_cons (ps_asg (pe_tup (pa_cons pe_int (pa_cons (pe_callB (cl_lenK (K := K) rfl) (by rfl) T.b_len (by decide +kernel) (pa_cons (pv 2) pa_nil)) pa_nil))) (pg_tupK (K := K) (n := 2) rfl rfl (pgs_cons (pg_name (i := 3) sc_law_sum.nd rfl (.inl rfl)) (pgs_cons (pg_name (i := 4) sc_law_sum.nd rfl (.inr rfl)) pgs_nil))))
      (pss_cons (ps_for PassesOwn.never rfl (pi_range1 rfl T.b_range (pa_cons (pv 4) pa_nil)) (pg_name (i := 5) sc_law_sum.nd rfl (.inr rfl)) (pss_one (ps_set (i := 3) sc_law_sum.nd rfl (Or.inl rfl) (pe_op op_add (pv 3) (pe_ix (ix_tupK (K := K) rfl) (pe_ix (ix_tupK (K := K) rfl) (pv 1) pe_int (fun _ _ => rfl)) (pe_c (ok_law_number T) hr (by decide) rfl (pa_cons (pv 0) (pa_cons (pe_callTy (cl_tupleK (K := K) rfl) (by rfl) T.b_tuple (by decide +kernel) (pa_cons (pe_lc (own := [("_law_j", 6)]) (g := (gName 6)) (tt := tYes) rfl sc_law_sum.nd (pi_range1 rfl T.b_range (pa_cons (pe_ix (ix_tupK (K := K) rfl) (pv 1) pe_int (fun _ _ => rfl)) pa_nil)) (blkOk_by (N := N_law_sum) (sc := defScope s_law_sum) (own := [("_law_j", 6)]) (by decide +kernel)) (fun _ _ _ _ _ => (pg_name (i := 6) sc_law_sum.nd rfl (.inl rfl))) (fun _ _ _ _ _ => pts_nil) (fun _ _ _ _ _ => (pe_ix (ix_tupK (K := K) rfl) (pv 2) (pe_op op_mod (pe_op op_add (pv 5) (pv 6)) (pv 4)) (fun _ _ => rfl)))) pa_nil)) pa_nil))) (fun _ _ => rfl))))))
      (pss_one (ps_ret (pv 3))))), ?_⟩)
  · obtain ⟨q, v, p, g, c, rfl, _⟩ := h
    rfl
  · obtain ⟨q, v, p, g, c, rfl, hq, ⟨a, b, rfl, ha, hb⟩, hgl, hl100, ⟨d, rfl, hd⟩, hc, hcl, k⟩ := h
    have ml : (c.map nV).length = c.length := List.length_map _
    walk_at "wl"
    rw [ml]
    walk_at "wl"
    refine w_rngAt c.length rfl (by omega) ?_
    refine f_rng (fun i σ H' => Same H H' ∧ ∃ z5 z6, σ = [some (.int q), some (.ref a), some (.ref d), some (.int (readK q g c i)), some (nV c.length), z5, z6]) ⟨by walk_at "sm", _, _, rfl⟩ ?_ ?_
    · rintro i σ H2 hi ⟨s2, z5, z6, rfl⟩
      have ha2 := s2 _ _ ha
      have hd2 := s2 _ _ hd
      walk_at "wl"
      refine w_ixT 1 rfl ha2 rfl ?_
      walk_at "wl"
      refine w_ixT 0 rfl ha2 rfl ?_
      walk_at "wl"
      refine w_rngAt g.l rfl (by omega) ?_
      refine lc_rng RNat mono_nat firm_nat (fun (j : Nat) => cellAt c ((i : Int) + (j : Int))) (by omega) (fun _ => rfl) (fun j H3 hj s3 A hA => ?_) (fun lb ys H3 hlb s3 e3 al3 => ?_)
      · walk_at "wl"
        refine w_ixT ((i + j) % c.length) (by simp) (s3 _ _ hd2) (nV_get (Nat.mod_lt _ (by omega))) ?_
        refine hA _ _ (fun _ _ h => h) ?_
        show V.int _ = V.int _
        rw [cellAt_nat]
      · walk_at "wl"
        rename_i p4 H4 s4 e4
        have s24 := s3.trans s4
        have hkw := winOf_kinds (by omega) hc g.l i
        refine ⟨q, _, winOf c g.l i, rfl, ⟨p4, rfl, by rw [e4, nat_items al3]; rfl⟩, by omega, ?_⟩
        walk_at "wl"
        refine w_ixT (num q (winOf c g.l i)) rfl ((s2.trans s24) _ _ hb) (int_get ?_) ?_
        · rw [hgl]
          have := num_lt (q := q) (by omega) hkw
          rw [winOf_length] at this
          exact this
        walk_at "wl"
        refine ⟨s2.trans s24, some (nV i), z6, ?_⟩
        rw [readK_succ]
        rfl
    · rintro σ H2 ⟨s2, z5, z6, rfl⟩
      walk_at "wl"
      exact k _ s2
end
end WL
/-! words and their numbers; the first greatest ring -/
namespace WL
theorem num_wordOf {q : Nat} (hq : 0 < q) : ∀ l n, n < q ^ l → num q (wordOf q l n) = n
  | 0, n, h => by
    rw [Nat.pow_zero] at h
    have e : n = 0 := by omega
    rw [e]
    rfl
  | l + 1, n, h => by
    rw [wordOf_succ, num_snoc, num_wordOf hq l (n / q) ((Nat.div_lt_iff_lt_mul hq).mpr (by rw [← Nat.pow_succ]; exact h)), Nat.mul_comm, Nat.div_add_mod]
theorem wordOf_num {q : Nat} (hq : 0 < q) (c : List Nat) (h : Kinds q c) : wordOf q c.length (num q c) = c := by
  have main : ∀ (m : Nat) (c : List Nat), c.length = m → Kinds q c → wordOf q m (num q c) = c := by
    intro m
    induction m with
    | zero =>
      intro c hl _
      rw [List.length_eq_zero_iff.mp hl]
      rfl
    | succ m ih =>
      intro c hl hk
      have hne : c ≠ [] := fun z => by rw [z] at hl; cases hl
      have e := List.dropLast_concat_getLast hne
      generalize c.dropLast = c0 at e
      generalize c.getLast hne = x at e
      subst e
      rw [List.length_append] at hl
      have hx : x < q := hk.right x (List.mem_singleton.mpr rfl)
      rw [wordOf_succ, num_snoc, Nat.mul_comm, Nat.mul_add_div hq, Nat.div_eq_of_lt hx, Nat.add_zero, Nat.mul_add_mod, Nat.mod_eq_of_lt hx, ih c0 (by simpa using hl) hk.left]
  exact main _ c rfl h
theorem num_foldl {q : Nat} : ∀ (w : List Nat) (a : Nat), w.foldl (fun a k => a * q + k) a = a * q ^ w.length + num q w
  | [], a => by simp [num]
  | k :: w, a => by
    rw [List.foldl_cons, num_foldl w]
    unfold num
    rw [List.foldl_cons, num_foldl w (0 * q + k), List.length_cons, Nat.pow_succ, Nat.add_mul, Nat.zero_mul, Nat.zero_add, Nat.mul_assoc, Nat.mul_comm q, ← Nat.add_assoc]
    rfl
theorem num_cons (q k : Nat) (w : List Nat) : num q (k :: w) = k * q ^ w.length + num q w := by
  show (k :: w).foldl _ 0 = _
  rw [List.foldl_cons, num_foldl, Nat.zero_mul, Nat.zero_add]
theorem lex_num {q : Nat} (hq : 0 < q) : ∀ {a b : List Nat}, a.length = b.length → Kinds q a → Kinds q b → lexLt a b → num q a < num q b
  | [], _, _, _, _, h => by cases h
  | _ :: _, [], hl, _, _, _ => by cases hl
  | x :: a, y :: b, hl, ha, hb, h => by
    have hl' : a.length = b.length := by simpa using hl
    rw [num_cons, num_cons, hl']
    rcases h with h | ⟨h1, h2⟩
    · have h3 := num_lt hq (u := a) fun z hz => ha z (List.mem_cons_of_mem _ hz)
      have h4 : (x + 1) * q ^ b.length ≤ y * q ^ b.length := Nat.mul_le_mul_right _ h
      rw [Nat.add_mul, Nat.one_mul] at h4
      rw [hl'] at h3
      omega
    · have h3 := lex_num hq hl' (fun z hz => ha z (List.mem_cons_of_mem _ hz)) (fun z hz => hb z (List.mem_cons_of_mem _ hz)) h2
      rw [h1]
      omega
theorem frac_lt {a' a m b b' c : Int} (hb : 0 < b) (hc : 0 < c) (hb' : 0 < b') (h1 : a' * b ≤ a * b') (h2 : a * c < m * b) : a' * c < m * b' := by
  have e1 : a' * c * b = a' * b * c := by rw [Int.mul_assoc, Int.mul_comm c b, ← Int.mul_assoc]
  have e2 : a * b' * c = a * c * b' := by rw [Int.mul_assoc, Int.mul_comm b' c, ← Int.mul_assoc]
  have e3 : m * b * b' = m * b' * b := by rw [Int.mul_assoc, Int.mul_comm b b', ← Int.mul_assoc]
  have l1 : a' * b * c ≤ a * b' * c := Int.mul_le_mul_of_nonneg_right h1 (by omega)
  have l2 : a * c * b' < m * b * b' := Int.mul_lt_mul_of_pos_right h2 hb'
  refine Int.lt_of_mul_lt_mul_right (a := b) ?_ (by omega)
  rw [e1, ← e3]
  rw [e2] at l1
  omega
/-- the rings that have been looked at: all that are shorter, and the first j of a size -/
def Proc (q s j : Nat) (c : List Nat) : Prop := 1 ≤ c.length ∧ Kinds q c ∧ (c.length < s ∨ c.length = s ∧ num q c < j)
/-- the first of the rings with the greatest mean -/
def MostIn (q : Nat) (val : List Nat → Int) (s j : Nat) : Option (List Nat) → Prop
  | none => ∀ c, ¬ Proc q s j c
  | some c => Proc q s j c ∧ ∀ d, Proc q s j d → val d * c.length ≤ val c * d.length ∧ (val d * c.length = val c * d.length → c.length < d.length ∨ c.length = d.length ∧ num q c ≤ num q d)
def LeastMean (q : Nat) (val : List Nat → Int) (s j : Nat) : Option (List Nat) → Prop
  | none => ∀ c, ¬ Proc q s j c
  | some c => Proc q s j c ∧ ∀ d, Proc q s j d → val c * d.length ≤ val d * c.length
theorem proc_succ {q s j : Nat} (hq : 0 < q) (hs : 1 ≤ s) (hj : j < q ^ s) (c : List Nat) : Proc q s (j + 1) c ↔ Proc q s j c ∨ c = wordOf q s j := by
  have hl : (wordOf q s j).length = s := wordOf_length q s j
  constructor
  · rintro ⟨h1, h2, h3⟩
    rcases h3 with h3 | ⟨h3, h4⟩
    · exact .inl ⟨h1, h2, .inl h3⟩
    · by_cases e : num q c = j
      · right
        have := wordOf_num hq c h2
        rw [h3, e] at this
        exact this.symm
      · exact .inl ⟨h1, h2, .inr ⟨h3, by omega⟩⟩
  · rintro (⟨h1, h2, h3⟩ | rfl)
    · refine ⟨h1, h2, ?_⟩
      rcases h3 with h3 | ⟨h3, h4⟩
      · exact .inl h3
      · exact .inr ⟨h3, by omega⟩
    · exact ⟨by omega, wordOf_kinds hq s j, .inr ⟨hl, by rw [num_wordOf hq s j hj]; omega⟩⟩
theorem most_take {q s j : Nat} {val : List Nat → Int} {o : Option (List Nat)} (hq : 0 < q) (hs : 1 ≤ s) (hj : j < q ^ s) (h : MostIn q val s j o) (hc : ∀ c, o = some c → val c * s < val (wordOf q s j) * c.length) : MostIn q val s (j + 1) (some (wordOf q s j)) := by
  have hl : (wordOf q s j).length = s := wordOf_length q s j
  refine ⟨(proc_succ hq hs hj _).mpr (.inr rfl), fun d hd => ?_⟩
  rcases (proc_succ hq hs hj d).mp hd with hd | rfl
  · cases o with
    | none => exact absurd hd (h d)
    | some c =>
      have h1 := (h.2 d hd).1
      have h2 := hc c rfl
      have hc1 := h.1.1
      have hd1 := hd.1
      have h3 : val d * (s : Int) < val (wordOf q s j) * d.length := frac_lt (a := val c) (b := (c.length : Int)) (by omega) (by omega) (by omega) h1 h2
      rw [hl]
      exact ⟨by omega, fun e => by omega⟩
  · exact ⟨Int.le_refl _, fun _ => .inr ⟨rfl, Nat.le_refl _⟩⟩
theorem most_keep {q s j : Nat} {val : List Nat → Int} {c : List Nat} (hq : 0 < q) (hs : 1 ≤ s) (hj : j < q ^ s) (h : MostIn q val s j (some c)) (hc : ¬ val c * s < val (wordOf q s j) * c.length) : MostIn q val s (j + 1) (some c) := by
  have hl : (wordOf q s j).length = s := wordOf_length q s j
  refine ⟨(proc_succ hq hs hj _).mpr (.inl h.1), fun d hd => ?_⟩
  rcases (proc_succ hq hs hj d).mp hd with hd | rfl
  · exact h.2 d hd
  · rw [hl]
    refine ⟨by omega, fun _ => ?_⟩
    rcases h.1.2.2 with h3 | ⟨h3, h4⟩
    · exact .inl h3
    · exact .inr ⟨h3, by rw [num_wordOf hq s j hj]; omega⟩
theorem least_take {q s j : Nat} {val : List Nat → Int} {o : Option (List Nat)} (hq : 0 < q) (hs : 1 ≤ s) (hj : j < q ^ s) (h : LeastMean q val s j o) (hc : ∀ c, o = some c → val (wordOf q s j) * c.length < val c * s) : LeastMean q val s (j + 1) (some (wordOf q s j)) := by
  have hl : (wordOf q s j).length = s := wordOf_length q s j
  refine ⟨(proc_succ hq hs hj _).mpr (.inr rfl), fun d hd => ?_⟩
  rcases (proc_succ hq hs hj d).mp hd with hd | rfl
  · cases o with
    | none => exact absurd hd (h d)
    | some c =>
      have h1 := h.2 d hd
      have h2 := hc c rfl
      have hc1 := h.1.1
      rw [hl]
      exact frac_trans (a := val c) (b := (c.length : Int)) (by omega) (by omega) (by omega) (by omega) h1
  · exact Int.le_refl _
theorem least_keep {q s j : Nat} {val : List Nat → Int} {c : List Nat} (hq : 0 < q) (hs : 1 ≤ s) (hj : j < q ^ s) (h : LeastMean q val s j (some c)) (hc : ¬ val (wordOf q s j) * c.length < val c * s) : LeastMean q val s (j + 1) (some c) := by
  have hl : (wordOf q s j).length = s := wordOf_length q s j
  refine ⟨(proc_succ hq hs hj _).mpr (.inl h.1), fun d hd => ?_⟩
  rcases (proc_succ hq hs hj d).mp hd with hd | rfl
  · exact h.2 d hd
  · rw [hl]
    omega
theorem proc_next {q s : Nat} (hq : 0 < q) (c : List Nat) : Proc q s (q ^ s) c ↔ Proc q (s + 1) 0 c := by
  constructor
  · rintro ⟨h1, h2, h3⟩
    exact ⟨h1, h2, .inl (by rcases h3 with h3 | h3 <;> omega)⟩
  · rintro ⟨h1, h2, h3⟩
    refine ⟨h1, h2, ?_⟩
    rcases h3 with h3 | ⟨h3, h4⟩
    · by_cases e : c.length = s
      · refine .inr ⟨e, ?_⟩
        rw [← e]
        exact num_lt hq h2
      · exact .inl (by omega)
    · omega
theorem most_next {q s : Nat} {val : List Nat → Int} {o : Option (List Nat)} (hq : 0 < q) (h : MostIn q val s (q ^ s) o) : MostIn q val (s + 1) 0 o := by
  have e := fun c => propext (proc_next (s := s) hq c)
  cases o with
  | none => exact fun c => (e c) ▸ h c
  | some c => exact ⟨(e c) ▸ h.1, fun d hd => h.2 d ((e d).symm ▸ hd)⟩
theorem least_next {q s : Nat} {val : List Nat → Int} {o : Option (List Nat)} (hq : 0 < q) (h : LeastMean q val s (q ^ s) o) : LeastMean q val (s + 1) 0 o := by
  have e := fun c => propext (proc_next (s := s) hq c)
  cases o with
  | none => exact fun c => (e c) ▸ h c
  | some c => exact ⟨(e c) ▸ h.1, fun d hd => h.2 d ((e d).symm ▸ hd)⟩
end WL
/-! the law's extremes and led weights -/
namespace WL
open PySem PySem.Spec PyProof.Rows L2
open C8 (Cal Met Mak pe_c pe_mk pe_mt pe_mt0 pe_gc)
theorem steps_ok {r : Ru} (o : r.Ok) {u : List Nat} (hu : Kinds r.q u) : ∀ h, Kinds r.q (stepsN r h u) ∧ (stepsN r h u).length ≤ u.length + h ∧ (h * (r.w - 1) ≤ u.length → (stepsN r h u).length = u.length - h * (r.w - 1))
  | 0 => ⟨hu, by show u.length ≤ _; omega, fun _ => by show u.length = _; omega⟩
  | h + 1 => by
    have ih := steps_ok o hu h
    have e : (stepsN r (h + 1) u).length = (stepsN r h u).length + 1 - r.w := stepWord_length r _
    have hw := o.w1
    refine ⟨stepWord_kinds o _, by omega, fun hl => ?_⟩
    rw [Nat.add_mul, Nat.one_mul] at hl
    have := ih.2.2 (by omega)
    rw [e, this, Nat.add_mul, Nat.one_mul]
    omega
/-- the value of a ring behind some hours, or its change -/
def valH (r : Ru) (g : Ga) (h : Nat) (ch : Bool) (c : List Nat) : Int := readR r.q g (laterN r h c) - if ch then readR r.q g c else 0
/-- the last triple -/
def RT3 (val : List Nat → Int) : Rl (Option (List Nat)) := ROpt fun H v c => ∃ a x, v = .ref a ∧ H a = some (.tup [.int (val c), nV c.length, x]) ∧ W H x c
theorem mono_t3 {val : List Nat → Int} : Mono (RT3 val) := mono_opt fun H H' v d s ⟨a, x, e, h, hw⟩ => ⟨a, x, e, s _ _ h, mono_W _ _ _ _ s hw⟩
theorem w_cut {t : TS} {D : Ends} {σ : L2.St} {H : Hp} (R : L2.St → Hp → Prop) (h : ∀ nx' : L2.St → Hp → Prop, (∀ σ' H', R σ' H' → nx' σ' H') → t { D with nx := nx' } σ H) (k : ∀ σ' H', R σ' H' → D.nx σ' H') : t D σ H := h D.nx k
theorem w_if_int {te1 te2 : TE} {ch : Bool} {Q : VK} {σ : L2.St} {H : Hp} (n : Int) (h : ∀ Q' : VK, (∀ H', Same H H' → Q' (.int n) H') → (if ch = true then te1 σ H Q' else te2 σ H Q')) (k : ∀ H', Same H H' → Q (.int n) H') : if ch = true then te1 σ H Q else te2 σ H Q := h Q k
section
variable {P : Program} {w : World} {K : PySem.W.Frag} {mg : Str → Option Value} {base : Heap}
abbrev sp_law_led_weights : Sp := fun vs H Q _ => ∃ (v u : V) (r : Ru) (g : Ga) (h : Nat), vs = [v, u, .int h] ∧ RM H v r ∧ r.Ok ∧ RG H u g ∧ g.Ok r.q ∧ h ≤ 4 ∧ r.q ^ (g.l + h * (r.w - 1)) ≤ 729 ∧ ∀ v' H', Same H H' → RG H' v' (ledW r g h) → Q v' H'
theorem ok_law_led_weights (T : Txt K mg) : Cal P w K mg base 4 "_law_led_weights" sp_law_led_weights [] := by
  refine cal_of T.f_law_led_weights T.g_law_led_weights rfl rfl sc_law_led_weights (fun _ _ _ _ _ _ us hl => match us, hl with | [_, _, _], _ => rfl) (fun vs H Q E h => ?_) (fun cdv A outer s H vs Q E hr h => ⟨_, (pss_cons (ps_set (i := 3) sc_law_led_weights.nd rfl (Or.inl rfl) (pe_op op_add (pe_ix (ix_tupK (K := K) rfl) (pv 1) pe_int (fun _ _ => rfl)) (pe_op op_mul (pv 2) (pe_op op_sub (pe_ix (ix_tupK (K := K) rfl) (pv 0) pe_int (fun _ _ => rfl)) pe_int))))
      (pss_cons (ps_set (i := 4) sc_law_led_weights.nd rfl (Or.inl rfl) (pe_lst pa_nil))
      (pss_cons (ps_for PassesOwn.never rfl (pi_listK (K := K) rfl (pe_c (ok_law_words T) hr (by decide) rfl (pa_cons (pe_ix (ix_tupK (K := K) rfl) (pv 0) pe_int (fun _ _ => rfl)) (pa_cons (pv 3) pa_nil)))) (pg_name (i := 5) sc_law_led_weights.nd rfl (.inl rfl)) (pss_cons (ps_for PassesOwn.never rfl (pi_range1 rfl T.b_range (pa_cons (pv 2) pa_nil)) (pg_name (i := 6) sc_law_led_weights.nd rfl (.inl rfl)) (pss_one (ps_set (i := 5) sc_law_led_weights.nd rfl (Or.inl rfl) (pe_c (ok_law_step T) hr (by decide) rfl (pa_cons (pv 0) (pa_cons (pv 5) pa_nil))))))
      (pss_one (ps_expr (pe_bm PySem.F.plainAttrs_list PySem.F.slot_list_append PySem.F.type_list_append mt_append (pv 4) (pa_cons (pe_ix (ix_tupK (K := K) rfl) (pe_ix (ix_tupK (K := K) rfl) (pv 1) pe_int (fun _ _ => rfl)) (pe_c (ok_law_number T) hr (by decide) rfl (pa_cons (pe_ix (ix_tupK (K := K) rfl) (pv 0) pe_int (fun _ _ => rfl)) (pa_cons (pv 5) pa_nil))) (fun _ _ => rfl)) pa_nil))))))
      (pss_one (ps_ret (pe_tup (pa_cons (pv 3) (pa_cons (pe_callTy (cl_tupleK (K := K) rfl) (by rfl) T.b_tuple (by decide +kernel) (pa_cons (pv 4) pa_nil)) pa_nil)))))))), ?_⟩)
  · obtain ⟨v, u, r, g, h, rfl, _⟩ := h
    rfl
  · obtain ⟨v, u, r, g, hh, rfl, hv, o, hg, og, h4, hs, k⟩ := h
    obtain ⟨a, b, rfl, ha, hb⟩ := id hv
    obtain ⟨c, d, rfl, hc, hd⟩ := id hg
    have hw := o.w1
    have hwd := o.wide
    have hq := o.q2
    have hl := og.l1
    have h9 := pow_big hq hs (by decide)
    walk_at "wl"
    refine w_ixT 0 rfl hc rfl ?_
    walk_at "wl"
    refine w_ixT 2 rfl ha rfl ?_
    have ew : (g.l : Int) + (hh : Int) * ((r.w : Int) - 1) = ((g.l + hh * (r.w - 1) : Nat) : Int) := by
      rw [Int.natCast_add, Int.natCast_mul, Int.natCast_sub (by omega)]
      rfl
    walk_at "wl"
    rw [ew]
    rename_i D H1 hD s1 e1
    refine w_ixT 0 rfl (s1 _ _ ha) rfl ?_
    walk_at "wl"
    refine ⟨r.q, g.l + hh * (r.w - 1), rfl, hq, by omega, by omega, fun v2 H2 s2 h2 => ?_⟩
    obtain ⟨wa, ws, rfl, hwa, al⟩ := h2
    have wl : ws.length = r.q ^ (g.l + hh * (r.w - 1)) := by rw [al.1, allWords_length]
    have hwD : wa ≠ D → True := fun _ => trivial
    walk_at "wl"
    have s12 := s1.trans s2
    have hD2 : H2 D = some (.lst []) := s2 _ _ e1
    have L0 : 0 < ws.length := by rw [wl]; exact Nat.pow_pos (by omega)
    have hne : wa ≠ D := fun z => by
      rw [z, hD2] at hwa
      cases hwa
      simp at L0
    let F : Nat → Int := fun j => g.at (num r.q (stepsN r hh (wordOf r.q (g.l + hh * (r.w - 1)) j)))
    refine f_lst (xs := ws) (fun j σ H' => Same H H' ∧ But D H2 H' ∧ ∃ z5 z6, σ = [some (.ref a), some (.ref c), some (.int hh), some (nV (g.l + hh * (r.w - 1))), some (.ref D), z5, z6] ∧ H' D = some (.lst (((List.range j).map F).map V.int)))
      (fun j σ H' _ h => h.2.1 _ _ hne hwa) ⟨s12, But.rfl', _, _, rfl, hD2⟩ ?_ ?_
    · rintro j x σ H3 hj hx ⟨s3, b3, z5, z6, rfl, e3⟩
      have hj2 : j < r.q ^ (g.l + hh * (r.w - 1)) := by rw [← wl]; exact hj
      obtain ⟨xa, rfl, hxa⟩ := al.2 j x _ hx (allWords_at hj2)
      have hxD : xa ≠ D := ne_of hxa hD2 (by intro z; cases z)
      have hx3 : W H3 (.ref xa) (wordOf r.q (g.l + hh * (r.w - 1)) j) := ⟨xa, rfl, b3 _ _ hxD hxa⟩
      have kw := wordOf_kinds (q := r.q) (by omega) (g.l + hh * (r.w - 1)) j
      have lw := wordOf_length r.q (g.l + hh * (r.w - 1)) j
      walk_at "wl"
      refine w_rngAt hh rfl (by omega) ?_
      refine f_rng (fun i σ H' => Same H3 H' ∧ ∃ z6 xv, σ = [some (.ref a), some (.ref c), some (.int hh), some (nV (g.l + hh * (r.w - 1))), some (.ref D), some xv, z6] ∧ W H' xv (stepsN r i (wordOf r.q (g.l + hh * (r.w - 1)) j))) ⟨fun _ _ h => h, _, _, rfl, hx3⟩ ?_ ?_
      · rintro i σ H4 hi ⟨s4, z6, xv, rfl, h4'⟩
        have st := steps_ok o kw i
        walk_at "wl"
        refine ⟨_, _, r, _, rfl, mono_M _ _ _ _ (s3.trans s4) hv, h4', o, st.1, by omega, fun v5 H5 s5 h5 => ?_⟩
        walk_at "wl"
        exact ⟨s4.trans s5, _, _, rfl, h5⟩
      · rintro σ H4 ⟨s4, z6, xv, rfl, h4'⟩
        have st := steps_ok o kw hh
        have s34 := s3.trans s4
        have hc4 := s34 _ _ hc
        have ha4 := s34 _ _ ha
        have e34 := s4 _ _ e3
        walk_at "wl"
        refine w_ixT 1 rfl hc4 rfl ?_
        walk_at "wl"
        refine w_ixT 0 rfl ha4 rfl ?_
        walk_at "wl"
        refine ⟨r.q, _, _, rfl, h4', by omega, ?_⟩
        walk_at "wl"
        refine w_ixT _ rfl (s34 _ _ hd) (int_get ?_) ?_
        · rw [og.len]
          have h1 := num_lt (q := r.q) (by omega) st.1
          rw [st.2.2 (by omega), lw, show g.l + hh * (r.w - 1) - hh * (r.w - 1) = g.l by omega] at h1
          exact h1
        walk_at "wl"
        refine w_app (s4 _ _ e3) (by rw [List.length_map, List.length_map, List.length_range]; omega) ?_
        walk_at "wl"
        refine ⟨Same.mut s34 hD, fun y o hy ho => by rw [upd_ne hy]; exact s4 _ _ (b3 y o hy ho), _, _, rfl, ?_⟩
        rw [upd_same, List.range_succ, List.map_append, List.map_append]
        rfl
    · rintro σ H3 ⟨s3, b3, z5, z6, rfl, e3⟩
      walk_at "wl"
      rename_i p4 H4 s4 e4 p5 H5 s5 e5
      refine k _ _ ((s3.trans s4).trans s5) ⟨p5, p4, rfl, e5, ?_⟩
      rw [s5 _ _ e4]
      congr 3
      unfold ledW allWords
      rw [List.map_map, wl]
      rfl
abbrev sp_law_extremes : Sp := fun vs H Q _ => ∃ (v u : V) (r : Ru) (g : Ga) (h L : Nat) (ch : Bool), vs = [v, u, .int h, .int L, .bl ch] ∧ RM H v r ∧ r.Ok ∧ RG H u g ∧ g.Ok r.q ∧ h ≤ 4 ∧ 1 ≤ L ∧ L ≤ 60 ∧ r.q ^ L ≤ 1000 ∧
  ∀ v' H' cl cm, Same H H' → LeastMean r.q (valH r g h ch) (L + 1) 0 (some cl) → MostIn r.q (valH r g h ch) (L + 1) 0 (some cm) →
    (∃ a x y z, v' = .ref a ∧ H' a = some (.tup [x, y, z]) ∧ RF H' x (lowestF (valH r g h ch cl) cl.length) ∧ RF H' y (lowestF (valH r g h ch cm) cm.length) ∧ W H' z cm) → Q v' H'
theorem ok_law_extremes (T : Txt K mg) : Cal P w K mg base 5 "_law_extremes" sp_law_extremes [] := by
  refine cal_of T.f_law_extremes T.g_law_extremes rfl rfl sc_law_extremes (fun _ _ _ _ _ _ us hl => match us, hl with | [_, _, _, _, _], _ => rfl) (fun vs H Q E h => ?_) (fun cdv A outer s H vs Q E hr h => ⟨_, (pss_cons (ps_asg (pe_tup (pa_cons pe_non (pa_cons pe_non pa_nil))) (pg_tupK (K := K) (n := 2) rfl rfl (pgs_cons (pg_name (i := 5) sc_law_extremes.nd rfl (.inl rfl)) (pgs_cons (pg_name (i := 6) sc_law_extremes.nd rfl (.inl rfl)) pgs_nil))))
      (pss_cons (ps_for PassesOwn.never rfl (pi_range2 rfl T.b_range (pa_cons pe_int (pa_cons (pe_op op_add (pv 3) pe_int) pa_nil))) (pg_name (i := 7) sc_law_extremes.nd rfl (.inl rfl)) (pss_one (ps_for PassesOwn.never rfl (pi_listK (K := K) rfl (pe_c (ok_law_words T) hr (by decide) rfl (pa_cons (pe_ix (ix_tupK (K := K) rfl) (pv 0) pe_int (fun _ _ => rfl)) (pa_cons (pv 7) pa_nil)))) (pg_name (i := 8) sc_law_extremes.nd rfl (.inl rfl)) (pss_cons (ps_set (i := 9) sc_law_extremes.nd rfl (Or.inl rfl) (pe_c (ok_law_sum T) hr (by decide) rfl (pa_cons (pe_ix (ix_tupK (K := K) rfl) (pv 0) pe_int (fun _ _ => rfl)) (pa_cons (pv 1) (pa_cons (pe_c (ok_law_later T) hr (by decide) rfl (pa_cons (pv 0) (pa_cons (pv 8) (pa_cons (pv 2) pa_nil)))) pa_nil)))))
      (pss_cons (ps_set (i := 9) sc_law_extremes.nd rfl (Or.inl rfl) (pe_op op_sub (pv 9) (pe_ifExp (pt_val (pv 4)) (pe_c (ok_law_sum T) hr (by decide) rfl (pa_cons (pe_ix (ix_tupK (K := K) rfl) (pv 0) pe_int (fun _ _ => rfl)) (pa_cons (pv 1) (pa_cons (pv 8) pa_nil)))) pe_int)))
      (pss_cons (ps_if (PW.pt (pw_or (pt_cmpR ol_isN (pv 6) pe_non (nomark _)) (pw_or1 (pt_cmpR op_gt (pe_op op_mul (pv 9) (pe_ix (ix_tupK (K := K) rfl) (pv 6) pe_int (fun _ _ => rfl))) (pe_op op_mul (pe_ix (ix_tupK (K := K) rfl) (pv 6) pe_int (fun _ _ => rfl)) (pv 7)) (nomark _))))) (pss_one (ps_set (i := 6) sc_law_extremes.nd rfl (Or.inl rfl) (pe_tup (pa_cons (pv 9) (pa_cons (pv 7) (pa_cons (pv 8) pa_nil)))))) pss_nil)
      (pss_one (ps_if (PW.pt (pw_or (pt_cmpR ol_isN (pv 5) pe_non (nomark _)) (pw_or1 (pt_cmpR op_lt (pe_op op_mul (pv 9) (pe_ix (ix_tupK (K := K) rfl) (pv 5) pe_int (fun _ _ => rfl))) (pe_op op_mul (pe_ix (ix_tupK (K := K) rfl) (pv 5) pe_int (fun _ _ => rfl)) (pv 7)) (nomark _))))) (pss_one (ps_set (i := 5) sc_law_extremes.nd rfl (Or.inl rfl) (pe_tup (pa_cons (pv 9) (pa_cons (pv 7) (pa_cons (pv 8) pa_nil)))))) pss_nil))))))))
      (pss_one (ps_ret (pe_tup (pa_cons (pe_c (ok_law_low T) hr (by decide) rfl (pa_cons (pe_ix (ix_tupK (K := K) rfl) (pv 5) pe_int (fun _ _ => rfl)) (pa_cons (pe_ix (ix_tupK (K := K) rfl) (pv 5) pe_int (fun _ _ => rfl)) pa_nil))) (pa_cons (pe_c (ok_law_low T) hr (by decide) rfl (pa_cons (pe_ix (ix_tupK (K := K) rfl) (pv 6) pe_int (fun _ _ => rfl)) (pa_cons (pe_ix (ix_tupK (K := K) rfl) (pv 6) pe_int (fun _ _ => rfl)) pa_nil))) (pa_cons (pe_ix (ix_tupK (K := K) rfl) (pv 6) pe_int (fun _ _ => rfl)) pa_nil)))))))), ?_⟩)
  · obtain ⟨v, u, r, g, h, L, ch, rfl, _⟩ := h
    rfl
  · obtain ⟨v, u, r, g, hh, L, ch, rfl, hv, o, hg, og, h4, hL1, hL, hs, k⟩ := h
    obtain ⟨a, b, rfl, ha, hb⟩ := id hv
    obtain ⟨c, d, rfl, hc, hd⟩ := id hg
    have hq := o.q2
    have hq0 : 0 < r.q := by omega
    have h9 := pow_big hq og.small (by decide)
    walk_at "wl"
    refine w_rng2At 1 L rfl (by omega) (by omega) ?_
    refine f_rngFrom (fun i σ H' => Same H H' ∧ ∃ z7 z8 z9 lv mv lo mo, σ = [some (.ref a), some (.ref c), some (.int hh), some (.int L), some (.bl ch), some lv, some mv, z7, z8, z9] ∧ RT3 (valH r g hh ch) H' lv lo ∧ RT3 (valH r g hh ch) H' mv mo ∧ LeastMean r.q (valH r g hh ch) (1 + i) 0 lo ∧ MostIn r.q (valH r g hh ch) (1 + i) 0 mo)
      ⟨by walk_at "sm", _, _, _, .non, .non, none, none, rfl, rfl, rfl, fun c hp => by obtain ⟨h1, _, h3⟩ := hp; omega, fun c hp => by obtain ⟨h1, _, h3⟩ := hp; omega⟩ ?_ ?_
    · rintro i σ H2 hi ⟨s2, z7, z8, z9, lv, mv, lo, mo, rfl, hlv, hmv, hlo, hmo⟩
      have ha2 := s2 _ _ ha
      have hps : r.q ^ (1 + i) ≤ 1000 := Nat.le_trans (Nat.pow_le_pow_right hq0 (by omega)) hs
      walk_at "wl"
      refine w_ixT 0 rfl ha2 rfl ?_
      walk_at "wl"
      refine ⟨r.q, 1 + i, rfl, hq, by omega, hps, fun v3 H3 s3 h3 => ?_⟩
      obtain ⟨wa, ws, rfl, hwa, al⟩ := h3
      have wl : ws.length = r.q ^ (1 + i) := by rw [al.1, allWords_length]
      walk_at "wl"
      refine f_lst (xs := ws) (fun j σ H' => Same H3 H' ∧ ∃ z8 z9 lv mv lo mo, σ = [some (.ref a), some (.ref c), some (.int hh), some (.int L), some (.bl ch), some lv, some mv, some (.int ((1 + i : Nat) : Int)), z8, z9] ∧ RT3 (valH r g hh ch) H' lv lo ∧ RT3 (valH r g hh ch) H' mv mo ∧ LeastMean r.q (valH r g hh ch) (1 + i) j lo ∧ MostIn r.q (valH r g hh ch) (1 + i) j mo)
        (fun j σ H' _ h => h.1 _ _ hwa) ⟨fun _ _ h => h, _, _, lv, mv, lo, mo, rfl, mono_t3 _ _ _ _ s3 hlv, mono_t3 _ _ _ _ s3 hmv, hlo, hmo⟩ ?_ ?_
      · rintro j x σ H4 hj hx ⟨s4, z8, z9, lv, mv, lo, mo, rfl, hlv, hmv, hlo, hmo⟩
        have hj2 : j < r.q ^ (1 + i) := by rw [← wl]; exact hj
        have hx4 : W H4 x (wordOf r.q (1 + i) j) := mono_W _ _ _ _ s4 (al.2 j x _ hx (allWords_at hj2))
        have kw := wordOf_kinds (q := r.q) hq0 (1 + i) j
        have lw := wordOf_length r.q (1 + i) j
        generalize hcw : wordOf r.q (1 + i) j = cw at *
        have s24 := (s2.trans s3).trans s4
        have ha4 := s24 _ _ ha
        walk_at "wl"
        refine w_ixT 0 rfl ha4 rfl ?_
        walk_at "wl"
        refine ⟨_, x, r, cw, hh, rfl, mono_M _ _ _ _ s24 hv, hx4, o, kw, by omega, by omega, fun v5 H5 s5 h5 => ?_⟩
        have lt := later_ok o kw hh
        walk_at "wl"
        refine ⟨r.q, _, v5, g, laterN r hh cw, rfl, hq, mono_G _ _ _ _ (s24.trans s5) hg, og.len, by omega, h5, lt.1, by omega, fun H6 s6 => ?_⟩
        have s26 := (s24.trans s5).trans s6
        have ha6 := s26 _ _ ha
        walk_at "wl"
        refine w_if_int (if ch then readR r.q g cw else 0) (fun Q' hQ' => ?_) (fun H7 s7 => ?_)
        · cases ch with
          | true =>
            rw [if_pos rfl]
            walk_at "wl"
            refine w_ixT 0 rfl ha6 rfl ?_
            walk_at "wl"
            exact ⟨r.q, _, x, g, cw, rfl, hq, mono_G _ _ _ _ s26 hg, og.len, by omega, mono_W _ _ _ _ (s5.trans s6) hx4, kw, by omega, fun H7 s7 => hQ' _ s7⟩
          | false =>
            rw [if_neg (by decide)]
            walk_at "wl"
            exact hQ' _ (fun _ _ h => h)
        have s47 := (s5.trans s6).trans s7
        have hx7 := mono_W _ _ _ _ s47 hx4
        have hU : readR r.q g (laterN r hh cw) - (if ch then readR r.q g cw else 0) = valH r g hh ch cw := rfl
        have hmv7 := mono_t3 _ _ _ _ s47 hmv
        have hlv7 := mono_t3 _ _ _ _ s47 hlv
        have hlen : ((1 + i : Nat) : Int) = (cw.length : Int) := by rw [lw]
        walk_at "wm"
        rw [hU]
        have hs1 : 1 ≤ 1 + i := by omega
        refine w_cut (fun σ' H' => Same H7 H' ∧ ∃ mv' mo', σ' = [some (.ref a), some (.ref c), some (.int hh), some (.int L), some (.bl ch), some lv, some mv', some (.int ((1 + i : Nat) : Int)), some x, some (.int (valH r g hh ch cw))] ∧ RT3 (valH r g hh ch) H' mv' mo' ∧ MostIn r.q (valH r g hh ch) (1 + i) (j + 1) mo') (fun nx' hnx => ?_) ?_
        · walk_at "wl"
          cases mo with
          | none =>
            cases (show mv = .non from hmv7)
            rw [decide_eq_true rfl]
            walk_at "wl"
            rename_i p8 H8 s8 e8
            refine hnx _ _ ⟨s8, _, some cw, rfl, ⟨⟨p8, x, rfl, by rw [e8, hlen], mono_W _ _ _ _ s8 hx7⟩, fun z => by cases z⟩, ?_⟩
            rw [← hcw]
            exact most_take hq0 hs1 hj2 hmo (fun c hc => by cases hc)
          | some mc =>
            obtain ⟨⟨ma, mx, rfl, hma, hmx⟩, hne⟩ := hmv7
            have hml : mc.length ≤ 1 + i := by
              rcases hmo.1.2.2 with h | h <;> omega
            rw [decide_eq_false hne]
            walk_at "wl"
            refine w_ixT 1 rfl hma rfl ?_
            walk_at "wl"
            refine w_ixT 0 rfl hma rfl ?_
            walk_at "wl"
            refine w_iteD (fun hgt => ?_) (fun hle => ?_)
            · walk_at "wl"
              rename_i p8 H8 s8 e8
              refine hnx _ _ ⟨s8, _, some cw, rfl, ⟨⟨p8, x, rfl, by rw [e8, hlen], mono_W _ _ _ _ s8 hx7⟩, fun z => by cases z⟩, ?_⟩
              rw [← hcw]
              refine most_take hq0 hs1 hj2 hmo (fun c hc => ?_)
              cases hc
              rw [hcw]
              exact hgt
            · walk_at "wl"
              refine hnx _ _ ⟨fun _ _ h => h, _, some mc, rfl, ⟨⟨ma, mx, rfl, hma, hmx⟩, hne⟩, most_keep hq0 hs1 hj2 hmo ?_⟩
              rw [hcw]
              exact hle
        · rintro σ8 H8 ⟨s8, mv', mo', rfl, hmv8, hmo8⟩
          have hlv8 := mono_t3 _ _ _ _ s8 hlv7
          have hx8 := mono_W _ _ _ _ s8 hx7
          have s48 := s47.trans s8
          walk_at "wl"
          cases lo with
          | none =>
            cases (show lv = .non from hlv8)
            rw [decide_eq_true rfl]
            walk_at "wl"
            rename_i p9 H9 s9 e9
            refine ⟨(s4.trans s48).trans s9, _, _, _, _, some cw, mo', rfl, ⟨⟨p9, x, rfl, by rw [e9, hlen], mono_W _ _ _ _ s9 hx8⟩, fun z => by cases z⟩, mono_t3 _ _ _ _ s9 hmv8, ?_, hmo8⟩
            rw [← hcw]
            exact least_take hq0 hs1 hj2 hlo (fun c hc => by cases hc)
          | some lc =>
            obtain ⟨⟨la, lx, rfl, hla, hlx⟩, hne⟩ := hlv8
            have hll : lc.length ≤ 1 + i := by
              rcases hlo.1.2.2 with h | h <;> omega
            rw [decide_eq_false hne]
            walk_at "wl"
            refine w_ixT 1 rfl hla rfl ?_
            walk_at "wl"
            refine w_ixT 0 rfl hla rfl ?_
            walk_at "wl"
            refine w_iteD (fun hgt => ?_) (fun hle => ?_)
            · walk_at "wl"
              rename_i p9 H9 s9 e9
              refine ⟨(s4.trans s48).trans s9, _, _, _, _, some cw, mo', rfl, ⟨⟨p9, x, rfl, by rw [e9, hlen], mono_W _ _ _ _ s9 hx8⟩, fun z => by cases z⟩, mono_t3 _ _ _ _ s9 hmv8, ?_, hmo8⟩
              rw [← hcw]
              refine least_take hq0 hs1 hj2 hlo (fun c hc => ?_)
              cases hc
              rw [hcw]
              exact hgt
            · walk_at "wl"
              refine ⟨s4.trans s48, _, _, _, _, some lc, mo', rfl, ⟨⟨la, lx, rfl, hla, hlx⟩, hne⟩, hmv8, least_keep hq0 hs1 hj2 hlo ?_, hmo8⟩
              rw [hcw]
              exact hle
      · rintro σ H4 ⟨s4, z8, z9, lv, mv, lo, mo, rfl, hlv, hmv, hlo, hmo⟩
        walk_at "wl"
        rw [wl] at hlo hmo
        exact ⟨(s2.trans s3).trans s4, _, _, _, lv, mv, lo, mo, rfl, hlv, hmv, least_next hq0 hlo, most_next hq0 hmo⟩
    · rintro σ H2 ⟨s2, z7, z8, z9, lv, mv, lo, mo, rfl, hlv, hmv, hlo, hmo⟩
      have h0 : Proc r.q (1 + L) 0 [0] := ⟨Nat.le_refl _, fun x hx => by rw [List.mem_singleton] at hx; omega, .inl (by show 1 < 1 + L; omega)⟩
      cases lo with
      | none => exact absurd h0 (hlo _)
      | some lc =>
        cases mo with
        | none => exact absurd h0 (hmo _)
        | some mc =>
          obtain ⟨⟨la, lx, rfl, hla, hlx⟩, _⟩ := hlv
          obtain ⟨⟨ma, mx, rfl, hma, hmx⟩, _⟩ := hmv
          have hl1 := hlo.1.1
          have hm1 := hmo.1.1
          have hll : lc.length ≤ L := by
            rcases hlo.1.2.2 with h | h <;> omega
          have hml : mc.length ≤ L := by
            rcases hmo.1.2.2 with h | h <;> omega
          walk_at "wl"
          refine w_ixT 0 rfl hla rfl ?_
          walk_at "wl"
          refine w_ixT 1 rfl hla rfl ?_
          walk_at "wl"
          refine ⟨_, lc.length, rfl, by omega, by omega, fun v3 H3 s3 h3 => ?_⟩
          walk_at "wl"
          refine w_ixT 0 rfl (s3 _ _ hma) rfl ?_
          walk_at "wl"
          refine w_ixT 1 rfl (s3 _ _ hma) rfl ?_
          walk_at "wl"
          refine ⟨_, mc.length, rfl, by omega, by omega, fun v5 H5 s5 h5 => ?_⟩
          walk_at "wl"
          refine w_ixT 2 rfl ((s3.trans s5) _ _ hma) rfl ?_
          walk_at "wl"
          rename_i p6 H6 s6 e6
          rw [Nat.add_comm 1 L] at hlo hmo
          exact k _ _ lc mc (((s2.trans s3).trans s5).trans s6) hlo hmo ⟨p6, _, _, _, rfl, e6, mono_F _ _ _ _ (s5.trans s6) h3, mono_F _ _ _ _ s6 h5, mono_W _ _ _ _ ((s3.trans s5).trans s6) hmx⟩
end
end WL
/-! the law's greatest sums -/
namespace WL
open PySem PySem.Spec PyProof.Rows L2
open C8 (Cal Met Mak pe_c pe_mk pe_mt pe_mt0 pe_gc)
def fup {α : Type} (f : Nat → α) (i : Nat) (x : α) : Nat → α := fun k => if k = i then x else f k
theorem fup_same {α : Type} {f : Nat → α} {i : Nat} {x : α} : fup f i x i = x := if_pos rfl
theorem fup_ne {α : Type} {f : Nat → α} {i k : Nat} {x : α} (h : k ≠ i) : fup f i x k = f k := if_neg h
/-- a comprehension over a range, by an invariant of its own -/
theorem lc_rngI {σ : L2.St} {Q : VK} {n : Nat} {te : TE} {vs : List Nat} {H1 : Hp} {nn : Nat} (Inv : Addr → Nat → List V → Hp → Prop) (hn : nn < 100000) (hw : ∀ x, wipe ((wipe σ vs).set n (some x)) vs = wipe σ vs)
    (h0 : ∀ D, H1 D = none → Inv D 0 [] (upd H1 D (.lst [])))
    (turn : ∀ (D : Addr) (i : Nat) (xs : List V) (H2 : Hp), i < nn → H1 D = none → H2 D = some (.lst xs) → xs.length = i → Inv D i xs H2 → ∀ A : VK, (∀ y H6, H6 D = some (.lst xs) → Inv D (i + 1) (xs ++ [y]) (upd H6 D (.lst (xs ++ [y]))) → A y H6) → te ((wipe σ vs).set n (some (.int (i : Nat)))) H2 A)
    (done : ∀ D xs H', H1 D = none → H' D = some (.lst xs) → xs.length = nn → Inv D nn xs H' → Q (.ref D) H') : LcW (Itr 0 nn) (gName n) tYes te vs σ H1 Q := fun D hD => by
  refine lc_it walk_range (fun i H' => ∃ xs, H' D = some (.lst xs) ∧ xs.length = i ∧ Inv D i xs H') ⟨[], upd_same, rfl, h0 D hD⟩ (fun _ _ _ _ => trivial) (fun i x H2 H3 hi p y => ?_) fun H' ⟨xs, e, l, h⟩ => done D xs H' hD e l h
  obtain ⟨e1, e2⟩ := y
  have e3 : x = V.int (i : Nat) := by
    rw [e2]
    show V.int (0 + (i : Int)) = _
    rw [Int.zero_add]
  subst e1 e3
  obtain ⟨xs, e, l, h⟩ := p
  refine w_gname ⟨hw _, w_yes (w_iteT' ?_)⟩
  exact turn D i xs H3 hi hD e l h _ fun y H6 e6 h6 => ⟨xs, e6, szl (by omega), xs ++ [y], upd_same, by rw [List.length_append, l]; rfl, h6⟩
/-- over a range, with a filter -/
theorem lc_rngF {σ : L2.St} {Q : VK} {n : Nat} {tt : TT} {te : TE} {vs : List Nat} {δ : Type} {H1 : Hp} {nn : Nat} (R : Rl δ) (hR : Mono R) (hF : Firm R) (p : Nat → Bool) (f : Nat → δ) (hn : nn < 100000) (hw : ∀ x, wipe ((wipe σ vs).set n (some x)) vs = wipe σ vs)
    (turn : ∀ (i : Nat) (H2 : Hp), i < nn → Same H1 H2 → ∀ (A : VK) (B : Hp → Prop), (∀ y H6, p i = true → Same H2 H6 → R H6 y (f i) → A y H6) → (∀ H6, p i = false → Same H2 H6 → B H6) →
      tt ((wipe σ vs).set n (some (.int (i : Nat)))) H2 fun b H5 => if b = true then te ((wipe σ vs).set n (some (.int (i : Nat)))) H5 A else B H5)
    (done : ∀ a ys H', H1 a = none → Same H1 H' → H' a = some (.lst ys) → All2 (R H') ys (((List.range nn).filter p).map f) → Q (.ref a) H') : LcW (Itr 0 nn) (gName n) tt te vs σ H1 Q := fun D hD =>
  lcR walk_range R hR hF p f hD hn (fun _ _ => trivial) (fun i x H2 H3 hi s y A B hA hB => by
    obtain ⟨e1, e2⟩ := y
    have e3 : x = V.int (i : Nat) := by
      rw [e2]
      show V.int (0 + (i : Int)) = _
      rw [Int.zero_add]
    subst e1 e3
    exact ⟨hw _, turn i H3 hi s A B hA hB⟩) fun xs H' s hd al => done D xs H' hD s hd al
def RO : Rl (Option Int) := fun _ v o => v = oV o
theorem mono_o : Mono RO := fun _ _ _ _ _ h => h
theorem firm_o : Firm RO := fun _ _ _ _ _ _ _ h => h
theorem o_items {H : Hp} {xs : List V} {ds : List (Option Int)} (h : All2 (RO H) xs ds) : xs = ds.map oV := by
  refine List.ext_getElem? fun i => ?_
  rw [List.getElem?_map]
  cases e : ds[i]? with
  | none =>
    rw [List.getElem?_eq_none_iff] at e
    rw [List.getElem?_eq_none_iff.mpr (by rw [h.1]; exact e)] <;> rfl
  | some d =>
    obtain ⟨x, hx, rx⟩ := h.at e
    rw [hx, rx] <;> rfl
/-- the best of all ways of t kinds from u to v -/
def BestW (q n : Nat) (wt : Nat → Int) (t u v : Nat) : Option Int → Prop
  | none => ∀ w, Kinds q w → w.length = t → goTo q n u w ≠ v
  | some m => (∃ w, Kinds q w ∧ w.length = t ∧ goTo q n u w = v ∧ sumTo q n wt u w = m) ∧ ∀ w, Kinds q w → w.length = t → goTo q n u w = v → sumTo q n wt u w ≤ m
theorem best_zero {q n u v : Nat} {wt : Nat → Int} : BestW q n wt 0 u v (if u = v then some 0 else none) := by
  by_cases e : u = v
  · rw [if_pos e]
    refine ⟨⟨[], fun x hx => (by cases hx), rfl, e, rfl⟩, fun w _ hl _ => ?_⟩
    rw [List.length_eq_zero_iff.mp hl]
    exact Int.le_refl _
  · rw [if_neg e]
    intro w _ hl
    rw [List.length_eq_zero_iff.mp hl]
    exact e
theorem best_step {q n u v t : Nat} {wt : Nat → Int} {row : Nat → Option Int} {o : Option Int} (hq : 0 < q) (hn : 0 < n) (hu : u < n) (h : ∀ v, v < n → BestW q n wt t u v (row v)) (hi : Into q n wt row v (n * q) o) : BestW q n wt (t + 1) u v o := by
  have last : ∀ w, Kinds q w → w.length = t + 1 → ∃ w0 x, w = w0 ++ [x] ∧ Kinds q w0 ∧ x < q ∧ w0.length = t := fun w hk hl => by
    have hne : w ≠ [] := fun z => by rw [z] at hl; cases hl
    have e := List.dropLast_concat_getLast hne
    generalize w.dropLast = w0 at e
    generalize w.getLast hne = x at e
    subst e
    rw [List.length_append] at hl
    exact ⟨w0, x, rfl, hk.left, hk.right x (List.mem_singleton.mpr rfl), by simpa using hl⟩
  have hdiv : ∀ u x, x < q → (u * q + x) / q = u := fun u x hx => by rw [Nat.mul_comm, Nat.mul_add_div (by omega), Nat.div_eq_of_lt hx, Nat.add_zero]
  cases o with
  | none =>
    intro w hk hl hg
    obtain ⟨w0, x, rfl, hk0, hx, hl0⟩ := last w hk hl
    have hv0 := goTo_lt (q := q) hn w0 u hu
    have h1 := hi (goTo q n u w0 * q + x) (word_lt hv0 hx) (by rw [goTo_append] at hg; exact hg)
    rw [hdiv _ _ hx] at h1
    have h2 := h _ hv0
    rw [h1] at h2
    exact h2 w0 hk0 hl0 rfl
  | some m =>
    obtain ⟨⟨x, y, hx, hxv, hr, he⟩, hall⟩ := hi
    have hd := (Nat.div_lt_iff_lt_mul hq).mpr hx
    refine ⟨?_, fun w hk hl hg => ?_⟩
    · have h2 := h _ hd
      rw [hr] at h2
      obtain ⟨⟨w, h3, h4, h5, h6⟩, _⟩ := h2
      refine ⟨w ++ [x % q], h3.append (fun z hz => ?_), by rw [List.length_append, h4]; rfl, ?_, ?_⟩
      · rw [List.mem_singleton] at hz
        rw [hz]
        exact Nat.mod_lt _ hq
      · rw [goTo_append, h5]
        show (x / q * q + x % q) % n = v
        rw [Nat.mul_comm, Nat.div_add_mod]
        exact hxv
      · rw [sumTo_append, h5, h6, he]
        show y + (wt (x / q * q + x % q) + 0) = _
        rw [Nat.mul_comm, Nat.div_add_mod, Int.add_zero]
    · obtain ⟨w0, x, rfl, hk0, hx, hl0⟩ := last w hk hl
      have hv0 := goTo_lt (q := q) hn w0 u hu
      rw [goTo_append] at hg
      have h2 := h _ hv0
      rw [sumTo_append]
      show sumTo q n wt u w0 + (wt (goTo q n u w0 * q + x) + 0) ≤ m
      cases hr2 : row (goTo q n u w0) with
      | none =>
        rw [hr2] at h2
        exact absurd rfl (h2 w0 hk0 hl0)
      | some z =>
        rw [hr2] at h2
        have h3 := h2.2 w0 hk0 hl0 rfl
        have h4 := hall (goTo q n u w0 * q + x) z (word_lt hv0 hx) hg (by rw [hdiv _ _ hx]; exact hr2)
        omega
/-- the greatest sum of all closed ways of t kinds -/
def TopSum (q n : Nat) (wt : Nat → Int) (t : Nat) (m : Int) : Prop := (∃ u w, Closed q n u w ∧ w.length = t ∧ sumTo q n wt u w = m) ∧ ∀ u w, Closed q n u w → w.length = t → sumTo q n wt u w ≤ m
/-- rows in the heap -/
structure RowsAt (H : Hp) (L : Addr) (rb : Nat → Addr) (n : Nat) (rr : Nat → List (Option Int)) : Prop where
  tab : H L = some (.lst ((List.range n).map fun k => V.ref (rb k)))
  row : ∀ k, k < n → H (rb k) = some (.lst ((rr k).map oV))
  len : ∀ k, k < n → (rr k).length = n
section
variable {P : Program} {w : World} {K : PySem.W.Frag} {mg : Str → Option Value} {base : Heap}
abbrev sp_law_sums : Sp := fun vs H Q _ => ∃ (q : Nat) (v : V) (g : Ga) (m : Nat), vs = [.int q, v, .int m] ∧ (q = 2 ∨ q = 3) ∧ RG H v g ∧ g.Ok q ∧ q ^ (g.l - 1) ≤ 60 ∧ m ≤ 60 ∧
  ∀ a' H' (S : List Int), H a' = none → Same H H' → H' a' = some (.lst (S.map V.int)) → S.length = m → (∀ (t : Nat) x, S[t]? = some x → TopSum q (q ^ (g.l - 1)) g.at (t + 1) x) → Q (.ref a') H'
theorem ok_law_sums (T : Txt K mg) : Cal P w K mg base 2 "_law_sums" sp_law_sums [] := by
  refine cal_of T.f_law_sums T.g_law_sums rfl rfl sc_law_sums (fun _ _ _ _ _ _ us hl => match us, hl with | [_, _, _], _ => rfl) (fun vs H Q E h => ?_) (fun cdv A outer s H vs Q E hr h => ⟨_, (pss_cons (ps_asg (pe_tup (pa_cons (pe_c (ok_law_power T) hr (by decide) rfl (pa_cons (pv 0) (pa_cons (pe_op op_sub (pe_ix (ix_tupK (K := K) rfl) (pv 1) pe_int (fun _ _ => rfl)) pe_int) pa_nil))) (pa_cons (pe_lst pa_nil) pa_nil))) (pg_tupK (K := K) (n := 2) rfl rfl (pgs_cons (pg_name (i := 3) sc_law_sums.nd rfl (.inr rfl)) (pgs_cons (pg_name (i := 4) sc_law_sums.nd rfl (.inl rfl)) pgs_nil))))
      (pss_cons (ps_set (i := 5) sc_law_sums.nd rfl (Or.inr rfl) (pe_lc (own := [("_law_k", 7)]) (g := (gName 7)) (tt := tYes) rfl sc_law_sums.nd (pi_range1 rfl T.b_range (pa_cons (pv 3) pa_nil)) (blkOk_by (N := N_law_sums) (sc := defScope s_law_sums) (own := [("_law_k", 7)]) (by decide +kernel)) (fun _ _ _ _ _ => (pg_name (i := 7) sc_law_sums.nd rfl (.inr rfl))) (fun _ _ _ _ _ => pts_nil) (fun _ _ _ _ _ => (pe_lc (own := [("_law_j", 6)]) (g := (gName 6)) (tt := tYes) rfl sc_law_sums.nd (pi_range1 rfl T.b_range (pa_cons (pv 3) pa_nil)) (blkOk_by (N := N_law_sums) (sc := _) (own := [("_law_j", 6)]) (by kernel_rfl)) (fun _ _ _ _ _ => (pg_name (i := 6) sc_law_sums.nd rfl (.inl rfl))) (fun _ _ _ _ _ => pts_nil) (fun _ _ _ _ _ => (pe_ifExp (pt_cmpR op_eq (pv 7) (pv 6) (nomark _)) pe_int pe_non))))))
      (pss_cons (ps_for PassesOwn.never rfl (pi_range1 rfl T.b_range (pa_cons (pv 2) pa_nil)) (pg_name (i := 8) sc_law_sums.nd rfl (.inl rfl)) (pss_cons (ps_setLc (i := 9) (own := [("_law_k", 7)]) (g := (gName 7)) (tt := tYes) rfl sc_law_sums.nd rfl rfl (sw_true rfl rfl rfl (by decide +kernel)) (pi_range1 rfl T.b_range (pa_cons (pv 3) pa_nil)) (blkOk_by (N := N_law_sums) (sc := defScope s_law_sums) (own := [("_law_k", 7)]) (by decide +kernel)) (fun _ _ _ _ _ => (pg_name (i := 7) sc_law_sums.nd rfl (.inl rfl))) (fun _ _ _ _ _ => pts_nil) (fun _ _ _ _ _ => (pe_op op_rep (pe_lst (pa_cons pe_non pa_nil)) (pv 3))))
      (pss_cons (ps_for PassesOwn.never rfl (pi_range1 rfl T.b_range (pa_cons (pv 3) pa_nil)) (pg_name (i := 10) sc_law_sums.nd rfl (.inl rfl)) (pss_one (ps_for PassesOwn.never rfl (pi_enumTK (K := K) rfl (by rfl) T.b_enumerate (pa_cons (pe_ix (ix_tupK (K := K) rfl) (pv 1) pe_int (fun _ _ => rfl)) pa_nil)) (pg_tupK (K := K) (n := 2) rfl rfl (pgs_cons (pg_name (i := 11) sc_law_sums.nd rfl (.inl rfl)) (pgs_cons (pg_name (i := 12) sc_law_sums.nd rfl (.inl rfl)) pgs_nil))) (pss_cons (ps_set (i := 13) sc_law_sums.nd rfl (Or.inl rfl) (pe_op op_mod (pv 11) (pv 3)))
      (pss_cons (ps_set (i := 14) sc_law_sums.nd rfl (Or.inl rfl) (pe_ix (ix_listK (K := K) rfl) (pe_ix (ix_listK (K := K) rfl) (pv 5) (pv 10) (fun _ _ => rfl)) (pe_op op_fdiv (pv 11) (pv 0)) (fun _ _ => rfl)))
      (pss_cons (ps_set (i := 15) sc_law_sums.nd rfl (Or.inl rfl) (pe_ix (ix_listK (K := K) rfl) (pe_ix (ix_listK (K := K) rfl) (pv 9) (pv 10) (fun _ _ => rfl)) (pv 13) (fun _ _ => rfl)))
      (pss_one (ps_if (PW.pt (pw_and (pt_cmpR ol_notN (pv 14) pe_non (nomark _)) (pw_and1 (PW.pt (pw_or (pt_cmpR ol_isN (pv 15) pe_non (nomark _)) (pw_or1 (pt_cmpR op_lt (pv 15) (pe_op op_add (pv 14) (pv 12)) (nomark _)))))))) (pss_one (ps_asg (pe_op op_add (pv 14) (pv 12)) (pg_sub (pe_ix (ix_listK (K := K) rfl) (pv 9) (pv 10) (fun _ _ => rfl)) (pv 13) set_list))) pss_nil))))))))
      (pss_cons (ps_set (i := 5) sc_law_sums.nd rfl (Or.inr rfl) (pv 9))
      (pss_one (ps_expr (pe_bm PySem.F.plainAttrs_list PySem.F.slot_list_append PySem.F.type_list_append mt_append (pv 4) (pa_cons (pe_callB (cl_maxK (K := K) rfl rfl) (by rfl) T.b_max (by decide +kernel) (pa_cons (pe_lc (own := [("_law_k", 7)]) (g := (gName 7)) (tt := _) rfl sc_law_sums.nd (pi_range1 rfl T.b_range (pa_cons (pv 3) pa_nil)) (blkOk_by (N := N_law_sums) (sc := defScope s_law_sums) (own := [("_law_k", 7)]) (by decide +kernel)) (fun _ _ _ _ _ => (pg_name (i := 7) sc_law_sums.nd rfl (.inl rfl))) (fun _ _ _ _ _ => (pts_one (pt_cmpR ol_notN (pe_ix (ix_listK (K := K) rfl) (pe_ix (ix_listK (K := K) rfl) (pv 5) (pv 7) (fun _ _ => rfl)) (pv 7) (fun _ _ => rfl)) pe_non (nomark _)))) (fun _ _ _ _ _ => (pe_ix (ix_listK (K := K) rfl) (pe_ix (ix_listK (K := K) rfl) (pv 5) (pv 7) (fun _ _ => rfl)) (pv 7) (fun _ _ => rfl)))) pa_nil)) pa_nil))))))))
      (pss_one (ps_ret (pv 4)))))), ?_⟩)
  · obtain ⟨q, v, g, m, rfl, _⟩ := h
    rfl
  · obtain ⟨q, v, g, m, rfl, hq, ⟨a, b, rfl, ha, hb⟩, og, hn, hm, k⟩ := h
    have hq0 : 0 < q := by omega
    have hl1 := og.l1
    have h9 := pow_big hq og.small (by decide)
    have hp : 0 < q ^ (g.l - 1) := Nat.pow_pos hq0
    have hwl : g.ws.length = q ^ (g.l - 1) * q := by
      rw [og.len, ← Nat.pow_succ]
      congr 1
      omega
    generalize hN : q ^ (g.l - 1) = N at *
    walk_at "wl"
    refine w_ixT 0 rfl ha rfl ?_
    walk_at "wl"
    refine ⟨q, g.l - 1, by rw [Int.natCast_sub hl1]; rfl, by omega, by omega, ?_⟩
    rw [hN]
    walk_at "wl"
    rename_i F H1 hF s1 e1 pt H2 s2 e2
    refine w_rngAt N rfl (by omega) ?_
    refine lc_rngI (fun D i xs H' => Same H2 H' ∧ ∃ rb : Nat → Addr, xs = (List.range i).map (fun k => V.ref (rb k)) ∧ ∀ k, k < i → rb k ≠ D ∧ H2 (rb k) = none ∧ H' (rb k) = some (.lst (((List.range N).map fun j => if k = j then some (0 : Int) else none).map oV))) (by omega) (fun _ => rfl) (fun D hD => ⟨same_upd hD, fun _ => 0, rfl, fun k hk => by omega⟩) (fun D i xs H3 hi hD e3 hxl ⟨s3, rb, hxs, hrb⟩ A hA => ?_) (fun D xs H3 hD e3 hxl ⟨s3, rb, hxs, hrb⟩ => ?_)
    · walk_at "wl"
      refine w_rngAt N rfl (by omega) ?_
      refine lc_rng RO mono_o firm_o (fun j => if i = j then some 0 else none) (by omega) (fun _ => rfl) (fun j H4 hj s4 B hB => ?_) (fun la ys H4 hla s4 e4 al4 => ?_)
      · walk_at "wl"
        refine w_iteD (fun hij => ?_) (fun hij => ?_)
        · walk_at "wl"
          exact hB _ _ (fun _ _ h => h) (by rw [if_pos (by omega)]; rfl)
        · walk_at "wl"
          exact hB _ _ (fun _ _ h => h) (by rw [if_neg (by omega)]; rfl)
      · have hlaD : la ≠ D := fun z => by rw [z, e3] at hla; cases hla
        have hla2 : H2 la = none := by
          cases hh : H2 la with
          | none => rfl
          | some o => rw [s3 _ _ hh] at hla; cases hla
        refine hA _ _ (s4 _ _ e3) ⟨Same.mut (s3.trans s4) hD, fup rb i la, ?_, fun k hk => ?_⟩
        · rw [List.range_succ, List.map_append, hxs]
          congr 1
          · refine List.map_congr_left fun k hk => ?_
            rw [List.mem_range] at hk
            rw [fup_ne (by omega)]
          · show _ = [V.ref (fup rb i la i)]
            rw [fup_same]
        · by_cases e : k = i
          · subst e
            rw [fup_same]
            exact ⟨hlaD, hla2, by rw [upd_ne hlaD, e4, o_items al4]⟩
          · rw [fup_ne e]
            obtain ⟨h1, h2, h3⟩ := hrb k (by omega)
            exact ⟨h1, h2, by rw [upd_ne h1]; exact s4 _ _ h3⟩
    · have hF3 := s3 _ _ (s2 _ _ e1)
      walk_at "wl"
      refine w_rngAt m rfl (by omega) ?_
      refine f_rng (fun t σ H' => Same H H' ∧ ∃ z6 z7 z8 z9 z10 z11 z12 z13 z14 z15 L rb rr S, σ = [some (.int q), some (.ref a), some (.int m), some (.int (N : Nat)), some (.ref F), some (.ref L), z6, z7, z8, z9, z10, z11, z12, z13, z14, z15] ∧ RowsAt H' L rb N rr ∧ L ≠ F ∧ (∀ k, k < N → rb k ≠ F) ∧
        (∀ u v, u < N → v < N → BestW q N g.at t u v (fnO (rr u) v)) ∧ H' F = some (.lst (S.map V.int)) ∧ S.length = t ∧ ∀ t x, S[t]? = some x → TopSum q N g.at (t + 1) x)
        ⟨(s1.trans s2).trans s3, _, _, _, _, _, _, _, _, _, _, D, rb, fun k => (List.range N).map fun j => if k = j then some (0 : Int) else none, [], rfl, ⟨by rw [e3, hxs], fun k hk => (hrb k hk).2.2, fun k hk => by rw [List.length_map, List.length_range]⟩, ?_, fun k hk => ?_, fun u v hu hv => ?_, hF3, rfl, fun t x h => by cases h⟩ ?_ ?_
      · rintro rfl
        rw [s2 _ _ e1] at hD
        cases hD
      · rintro rfl
        have := (hrb k hk).2.1
        rw [s2 _ _ e1] at this
        cases this
      · show BestW q N g.at 0 u v (((List.range N).map fun j => if u = j then some (0 : Int) else none).getD v none)
        rw [List.getD_eq_getElem?_getD, List.getElem?_map, List.getElem?_range hv]
        exact best_zero
      · rintro t σ H4 ht ⟨s4, z6, z7, z8, z9, z10, z11, z12, z13, z14, z15, L, rb, rr, S, rfl, hR, hLF, hrbF, hBW, eF, hSl, hST⟩
        walk_at "wl"
        refine w_rngAt N rfl (by omega) ?_
        refine lc_rngI (fun D i xs H' => Same H4 H' ∧ ∃ rb : Nat → Addr, xs = (List.range i).map (fun k => V.ref (rb k)) ∧ (∀ k, k < i → rb k ≠ D ∧ H4 (rb k) = none ∧ H' (rb k) = some (.lst ((List.replicate N (none : Option Int)).map oV))) ∧ ∀ k k', k < i → k' < i → k ≠ k' → rb k ≠ rb k') (by omega) (fun _ => rfl) (fun D hD => ⟨same_upd hD, fun _ => 0, rfl, fun k hk => by omega, fun k k' hk => by omega⟩) (fun D i xs H5 hi hD e5 hxl ⟨s5, rb2, hxs, hrb, hinj⟩ A hA => ?_) (fun D2 xs H5 hD2 e5 hxl ⟨s5, rb2, hxs, hrb2, hinj⟩ => ?_)
        · walk_at "wl"
          rename_i p6 H6 hp6 s6 e6
          refine w_rep N rfl e6 (by omega) (by simp; omega) fun la H7 hla s7 e7 => ?_
          have s57 := s6.trans s7
          have hla5 : H5 la = none := by
            cases hh : H5 la with
            | none => rfl
            | some o => rw [s6 _ _ hh] at hla; cases hla
          have hla4 : H4 la = none := by
            cases hh : H4 la with
            | none => rfl
            | some o => rw [s5 _ _ hh] at hla5; cases hla5
          have hlaD : la ≠ D := fun z => by rw [z, e5] at hla5; cases hla5
          have e7' : H7 la = some (.lst ((List.replicate N (none : Option Int)).map oV)) := by
            rw [e7]
            congr 2
            simp
          refine hA _ _ (s57 _ _ e5) ⟨Same.mut (s5.trans s57) hD, fup rb2 i la, ?_, fun k hk => ?_, fun k k' hk hk' hne => ?_⟩
          · rw [List.range_succ, List.map_append, hxs]
            congr 1
            · refine List.map_congr_left fun k hk => ?_
              rw [List.mem_range] at hk
              rw [fup_ne (by omega)]
            · show _ = [V.ref (fup rb2 i la i)]
              rw [fup_same]
          · by_cases e : k = i
            · subst e
              rw [fup_same]
              exact ⟨hlaD, hla4, by rw [upd_ne hlaD, e7']⟩
            · rw [fup_ne e]
              obtain ⟨h1, h2, h3⟩ := hrb k (by omega)
              exact ⟨h1, h2, by rw [upd_ne h1]; exact s57 _ _ h3⟩
          · have old : ∀ k, k < i → rb2 k ≠ la := fun k hk z => by
              have := (hrb k hk).2.2
              rw [z, hla5] at this
              cases this
            by_cases e : k = i
            · by_cases e' : k' = i
              · omega
              · rw [e, fup_same, fup_ne e']
                exact Ne.symm (old k' (by omega))
            · by_cases e' : k' = i
              · rw [fup_ne e, e', fup_same]
                exact old k (by omega)
              · rw [fup_ne e, fup_ne e']
                exact hinj k k' (by omega) (by omega) hne
        · walk_at "wl"
          refine w_rngAt N rfl (by omega) ?_
          refine f_rng (fun s σ H' => Same H4 H' ∧ ∃ z6 z7 z10 z11 z12 z13 z14 z15 rr2, σ = [some (.int q), some (.ref a), some (.int m), some (.int (N : Nat)), some (.ref F), some (.ref L), z6, z7, some (.int (t : Nat)), some (.ref D2), z10, z11, z12, z13, z14, z15] ∧ RowsAt H' D2 rb2 N rr2 ∧
            (∀ k, k < s → k < N → ∀ v, v < N → Into q N g.at (fnO (rr k)) v (N * q) (fnO (rr2 k) v)) ∧ ∀ k, s ≤ k → k < N → rr2 k = List.replicate N none)
            ⟨s5, _, _, _, _, _, _, _, _, fun _ => List.replicate N none, rfl, ⟨by rw [e5, hxs], fun k hk => (hrb2 k hk).2.2, fun k hk => by rw [List.length_replicate]⟩, fun k hk => by omega, fun k _ _ => rfl⟩ ?_ ?_
          · rintro st σ H6 hst ⟨s6, z6, z7, z10, z11, z12, z13, z14, z15, rr2, rfl, hR2, hI2, hN2⟩
            have ha6 := (s4.trans s6) _ _ ha
            have hb6 := (s4.trans s6) _ _ hb
            walk_at "wl"
            refine w_ixT 1 rfl ha6 rfl ?_
            walk_at "wl"
            refine f_enumT (xs := g.ws.map V.int) (fun x σ H' => Same H4 H' ∧ ∃ z6 z7 z11 z12 z13 z14 z15 rr2, σ = [some (.int q), some (.ref a), some (.int m), some (.int (N : Nat)), some (.ref F), some (.ref L), z6, z7, some (.int (t : Nat)), some (.ref D2), some (.int (st : Nat)), z11, z12, z13, z14, z15] ∧ RowsAt H' D2 rb2 N rr2 ∧
              (∀ k, k < st → k < N → ∀ v, v < N → Into q N g.at (fnO (rr k)) v (N * q) (fnO (rr2 k) v)) ∧ (∀ v, v < N → Into q N g.at (fnO (rr st)) v x (fnO (rr2 st) v)) ∧ ∀ k, st < k → k < N → rr2 k = List.replicate N none)
              (fun x σ H' _ h => (s4.trans h.1) _ _ hb) ⟨s6, _, _, _, _, _, _, _, rr2, rfl, hR2, hI2, fun v hv => ?_, fun k hk => hN2 k (by omega)⟩ ?_ ?_
            · rw [hN2 st (Nat.le_refl _) hst]
              rw [show fnO (List.replicate N (none : Option Int)) v = none by
                show (List.replicate N (none : Option Int)).getD v none = none
                simp [List.getD_eq_getElem?_getD, List.getElem?_replicate, hv]]
              intro x hx
              omega
            · rintro x pv σ H7 H8 hx hpv ⟨s7, z6, z7, z11, z12, z13, z14, z15, rr2, rfl, hR2, hI2, hC2, hN2⟩ s8
              obtain ⟨pt, rfl, hpt⟩ := int_at hpv
              have hxN : x < N * q := by rw [List.length_map, hwl] at hx; exact hx
              have hat : g.at x = pt := by
                unfold Ga.at
                rw [List.getD_eq_getElem?_getD, hpt]
                rfl
              have s78 := s7.trans s8
              have hxq : x / q < N := (Nat.div_lt_iff_lt_mul hq0).mpr hxN
              have hxm : x % N < N := Nat.mod_lt _ hp
              walk_at "wl"
              refine w_ixL st rfl (s78 _ _ hR.tab) (by rw [List.getElem?_map, List.getElem?_range hst]; rfl) ?_
              walk_at "wl"
              refine w_ixL (x / q) (by rw [Int.natCast_ediv]) (s78 _ _ (hR.row st hst)) (oV_get (by rw [hR.len st hst]; exact hxq)) ?_
              walk_at "wl"
              have hD8 := s8 _ _ hR2.tab
              have hr8 := s8 _ _ (hR2.row st hst)
              refine w_ixL st rfl hD8 (by rw [List.getElem?_map, List.getElem?_range hst]; rfl) ?_
              walk_at "wl"
              refine w_ixL (x % N) (by rw [Int.natCast_emod]) hr8 (oV_get (by rw [hR2.len st hst]; exact hxm)) ?_
              walk_at "wl"
              have keepR : RowsAt H8 D2 rb2 N rr2 := ⟨hD8, fun k hk => s8 _ _ (hR2.row k hk), hR2.len⟩
              -- what a new sum does
              have put : ∀ (z6 z7 z11 z12 z13 z14 z15 : Option V) (tt : Int), (fnO (rr st)) (x / q) = some tt → (∀ mm, fnO (rr2 st) (x % N) = some mm → mm < tt + g.at x) →
                  (Same H4 (upd H8 (rb2 st) (.lst ((rr2 st).map oV |>.set (x % N) (.int (tt + pt))))) ∧ ∃ z6' z7' z11' z12' z13' z14' z15' rr2', ([some (.int q), some (.ref a), some (.int m), some (.int (N : Nat)), some (.ref F), some (.ref L), z6, z7, some (.int (t : Nat)), some (.ref D2), some (.int (st : Nat)), z11, z12, z13, z14, z15] : L2.St) = ([some (.int q), some (.ref a), some (.int m), some (.int (N : Nat)), some (.ref F), some (.ref L), z6', z7', some (.int (t : Nat)), some (.ref D2), some (.int (st : Nat)), z11', z12', z13', z14', z15'] : L2.St) ∧ RowsAt (upd H8 (rb2 st) (.lst ((rr2 st).map oV |>.set (x % N) (.int (tt + pt))))) D2 rb2 N rr2' ∧
                  (∀ k, k < st → k < N → ∀ v, v < N → Into q N g.at (fnO (rr k)) v (N * q) (fnO (rr2' k) v)) ∧ (∀ v, v < N → Into q N g.at (fnO (rr st)) v (x + 1) (fnO (rr2' st) v)) ∧ ∀ k, st < k → k < N → rr2' k = List.replicate N none) := fun z6 z7 z11 z12 z13 z14 z15 tt htt hmm => by
                have hlen := hR2.len st hst
                refine ⟨Same.mut s78 (hrb2 st hst).2.1, z6, z7, z11, z12, z13, z14, z15, fup rr2 st ((rr2 st).set (x % N) (some (tt + pt))), rfl, ⟨?_, fun k hk => ?_, fun k hk => ?_⟩, fun k hk hkN v hv => ?_, fun v hv => ?_, fun k hk hkN => ?_⟩
                · rw [upd_ne (Ne.symm (hrb2 st hst).1)]
                  exact hD8
                · by_cases e : k = st
                  · subst e
                    rw [fup_same, upd_same, List.map_set]
                  · rw [fup_ne e, upd_ne (hinj k st hk hst e)]
                    exact s8 _ _ (hR2.row k hk)
                · by_cases e : k = st
                  · subst e
                    rw [fup_same, List.length_set]
                    exact hlen
                  · rw [fup_ne e]
                    exact hR2.len k hk
                · rw [fup_ne (by omega)]
                  exact hI2 k hk hkN v hv
                · rw [fup_same]
                  rw [show fnO ((rr2 st).set (x % N) (some (tt + pt))) v = if x % N = v then some (tt + pt) else fnO (rr2 st) v from getD_set _ _ _ _ _ (by omega)]
                  by_cases e : x % N = v
                  · subst e
                    rw [if_pos rfl, ← hat]
                    exact into_take (hC2 _ hv) rfl htt hmm
                  · rw [if_neg e]
                    exact into_none (hC2 v hv) (.inr e)
                · rw [fup_ne (by omega)]
                  exact hN2 k hk hkN
              cases htot : (rr st).getD (x / q) none with
              | none =>
                rw [decide_eq_true (show oV none = V.non from rfl)]
                walk_at "wl"
                exact ⟨s78, _, _, _, _, _, _, _, rr2, rfl, keepR, hI2, fun v hv => into_none (hC2 v hv) (.inl htot), hN2⟩
              | some tt =>
                rw [decide_eq_false (show ¬ oV (some tt) = V.non from fun z => by cases z)]
                walk_at "wl"
                cases hheld : (rr2 st).getD (x % N) none with
                | none =>
                  rw [decide_eq_true (show oV none = V.non from rfl)]
                  walk_at "wl"
                  refine w_ixL st rfl hD8 (by rw [List.getElem?_map, List.getElem?_range hst]; rfl) ?_
                  walk_at "wl"
                  refine w_setL (x % N) (by rw [Int.natCast_emod]) hr8 (by rw [List.length_map, hR2.len st hst]; exact hxm) ?_
                  walk_at "wl"
                  refine put _ _ _ _ _ _ _ tt htot (fun mm hmm => ?_)
                  rw [show fnO (rr2 st) (x % N) = none from hheld] at hmm
                  cases hmm
                | some mm =>
                  rw [decide_eq_false (show ¬ oV (some mm) = V.non from fun z => by cases z)]
                  walk_at "wl"
                  refine w_iteD (fun hlt => ?_) (fun hge => ?_)
                  · walk_at "wl"
                    refine w_ixL st rfl hD8 (by rw [List.getElem?_map, List.getElem?_range hst]; rfl) ?_
                    walk_at "wl"
                    refine w_setL (x % N) (by rw [Int.natCast_emod]) hr8 (by rw [List.length_map, hR2.len st hst]; exact hxm) ?_
                    walk_at "wl"
                    refine put _ _ _ _ _ _ _ tt htot (fun mm' hmm => ?_)
                    rw [show fnO (rr2 st) (x % N) = some mm from hheld] at hmm
                    cases hmm
                    rw [hat]
                    exact hlt
                  · walk_at "wl"
                    refine ⟨s78, _, _, _, _, _, _, _, rr2, rfl, keepR, hI2, fun v hv => ?_, hN2⟩
                    by_cases e : x % N = v
                    · subst e
                      have hh := hC2 _ hv
                      rw [show fnO (rr2 st) (x % N) = some mm from hheld] at hh ⊢
                      refine into_keep hh htot ?_
                      rw [hat]
                      exact Int.not_lt.mp hge
                    · exact into_none (hC2 v hv) (.inr e)
            · rintro σ H7 ⟨s7, z6, z7, z11, z12, z13, z14, z15, rr2, rfl, hR2, hI2, hC2, hN2⟩
              walk_at "wl"
              rw [List.length_map, hwl] at hC2
              refine ⟨s7, _, _, _, _, _, _, _, _, rr2, rfl, hR2, fun k hk hkN => ?_, fun k hk => hN2 k (by omega)⟩
              by_cases e : k = st
              · subst e
                exact hC2
              · exact hI2 k (by omega) hkN
          · rintro σ H6 ⟨s6, z6, z7, z10, z11, z12, z13, z14, z15, rr2, rfl, hR2, hI2, _⟩
            have hBW2 : ∀ u v, u < N → v < N → BestW q N g.at (t + 1) u v (fnO (rr2 u) v) := fun u v hu hv => best_step hq0 hp hu (fun v hv => hBW u v hu hv) (hI2 u hu hu v hv)
            have eF6 := s6 _ _ eF
            have hFD2 : D2 ≠ F := fun z => by rw [z, eF] at hD2; cases hD2
            have hFrb2 : ∀ k, k < N → rb2 k ≠ F := fun k hk z => by
              have := (hrb2 k hk).2.1
              rw [z, eF] at this
              cases this
            walk_at "wl"
            refine w_rngAt N rfl (by omega) ?_
            refine lc_rngF RInt mono_int firm_int (fun i => ((rr2 i).getD i none).isSome) (fun i => ((rr2 i).getD i none).getD 0) (by omega) (fun _ => rfl) (fun i H7 hi s7 A B hA hB => ?_) (fun la ys H7 hla s7 e7 al7 => ?_)
            · walk_at "wl"
              refine w_ixL i rfl (s7 _ _ hR2.tab) (by rw [List.getElem?_map, List.getElem?_range hi]; rfl) ?_
              walk_at "wl"
              refine w_ixL i rfl (s7 _ _ (hR2.row i hi)) (oV_get (by rw [hR2.len i hi]; exact hi)) ?_
              walk_at "wl"
              cases hv : (rr2 i).getD i none with
              | none =>
                rw [decide_eq_true (show oV none = V.non from rfl)]
                walk_at "wl"
                exact hB _ (by rw [hv]; rfl) (fun _ _ h => h)
              | some y =>
                rw [decide_eq_false (show ¬ oV (some y) = V.non from fun z => by cases z)]
                walk_at "wl"
                refine w_ixL i rfl (s7 _ _ hR2.tab) (by rw [List.getElem?_map, List.getElem?_range hi]; rfl) ?_
                walk_at "wl"
                refine w_ixL i rfl (s7 _ _ (hR2.row i hi)) (oV_get (by rw [hR2.len i hi]; exact hi)) ?_
                exact hA _ _ (by rw [hv]; rfl) (fun _ _ h => h) (by rw [hv]; rfl)
            · have hmem : ∀ y : Int, y ∈ ((List.range N).filter fun i => ((rr2 i).getD i none).isSome).map (fun i => ((rr2 i).getD i none).getD 0) ↔ ∃ i, i < N ∧ (rr2 i).getD i none = some y := fun y => by
                rw [List.mem_map]
                constructor
                · rintro ⟨i, hi, rfl⟩
                  rw [List.mem_filter, List.mem_range] at hi
                  refine ⟨i, hi.1, ?_⟩
                  cases hv : (rr2 i).getD i none with
                  | none => rw [hv] at hi; cases hi.2
                  | some y => rfl
                · rintro ⟨i, hi, hv⟩
                  refine ⟨i, ?_, by rw [hv]; rfl⟩
                  rw [List.mem_filter, List.mem_range, hv]
                  exact ⟨hi, rfl⟩
              have hpos : 0 < (((List.range N).filter fun i => ((rr2 i).getD i none).isSome).map (fun i => ((rr2 i).getD i none).getD 0)).length := by
                have h0 := hBW2 0 0 hp hp
                cases hv : (rr2 0).getD 0 none with
                | none =>
                  rw [show fnO (rr2 0) 0 = none from hv] at h0
                  have hz : ∀ t, goTo q N 0 (List.replicate t 0) = 0 := fun t => by
                    induction t with
                    | zero => rfl
                    | succ t ih =>
                      show goTo q N ((0 * q + 0) % N) (List.replicate t 0) = 0
                      rw [Nat.zero_mul, Nat.zero_add, Nat.zero_mod]
                      exact ih
                  exact absurd (hz (t + 1)) (h0 (List.replicate (t + 1) 0) (fun x hx => by rw [List.eq_of_mem_replicate hx]; exact hq0) (by rw [List.length_replicate]))
                | some y =>
                  exact List.length_pos_of_mem ((hmem y).mpr ⟨0, hp, hv⟩)
              walk_at "wl"
              refine ⟨la, _, rfl, sqL (by rw [int_items al7] at e7; exact e7), hpos, fun mx hmx hall => ?_⟩
              walk_at "wl"
              refine w_app (s7 _ _ eF6) (by rw [List.length_map]; omega) ?_
              walk_at "wl"
              have s67 := (s4.trans s6).trans s7
              refine ⟨Same.mut s67 hF, _, _, _, _, _, _, _, _, _, _, D2, rb2, rr2, S ++ [mx], rfl, ⟨by rw [upd_ne hFD2]; exact s7 _ _ hR2.tab, fun k hk => by rw [upd_ne (hFrb2 k hk)]; exact s7 _ _ (hR2.row k hk), hR2.len⟩, hFD2, hFrb2, hBW2, by rw [upd_same, List.map_append]; rfl, by rw [List.length_append, hSl]; rfl, fun t' x hx => ?_⟩
              rw [List.getElem?_append] at hx
              split at hx
              · exact hST t' x hx
              · rename_i hge
                have e : t' = t := by
                  have := (List.getElem?_eq_some_iff.mp hx).1
                  simp at this
                  omega
                subst e
                rw [hSl, Nat.sub_self] at hx
                have ex : mx = x := by simpa using hx
                subst ex
                obtain ⟨i, hi, hv⟩ := (hmem mx).mp hmx
                have h1 := hBW2 i i hi hi
                rw [show fnO (rr2 i) i = some mx from hv] at h1
                obtain ⟨⟨w0, h2, h3, h4, h5⟩, _⟩ := h1
                refine ⟨⟨i, w0, ⟨hi, h2, h4⟩, h3, h5⟩, fun u w hc hl => ?_⟩
                have h6 := hBW2 u u hc.1 hc.1
                cases hv2 : (rr2 u).getD u none with
                | none =>
                  rw [show fnO (rr2 u) u = none from hv2] at h6
                  exact absurd hc.2.2 (h6 w hc.2.1 hl)
                | some y =>
                  rw [show fnO (rr2 u) u = some y from hv2] at h6
                  have h7 := h6.2 w hc.2.1 hl hc.2.2
                  have h8 := hall y ((hmem y).mpr ⟨u, hc.1, hv2⟩)
                  omega
      · rintro σ H4 ⟨s4, z6, z7, z8, z9, z10, z11, z12, z13, z14, z15, L, rb, rr, S, rfl, hR, hLF, hrbF, hBW, eF, hSl, hST⟩
        walk_at "wl"
        exact k _ _ S hF s4 eF hSl hST
end
end WL
/-! draws -/
namespace WL
open PySem PySem.Spec PyProof.Rows L2
open C8 (Cal Met Mak pe_c pe_mk pe_mt pe_mt0 pe_gc)
/-- all but the draw's own two objects stays -/
def SameD (a al : Addr) (H H' : Hp) : Prop := ∀ b o, b ≠ a → b ≠ al → H b = some o → H' b = some o
theorem SameD.rfl' {a al : Addr} {H : Hp} : SameD a al H H := fun _ _ _ _ h => h
theorem SameD.trans {a al : Addr} {H H1 H2 : Hp} (s : SameD a al H H1) (t : SameD a al H1 H2) : SameD a al H H2 := fun b o h1 h2 h => t b o h1 h2 (s b o h1 h2 h)
theorem SameD.of {a al : Addr} {H H1 : Hp} (s : Same H H1) : SameD a al H H1 := fun b o _ _ h => s b o h
theorem SameD.mut {a al D : Addr} {H H' : Hp} {o : HO} (s : SameD a al H H') (h : H D = none) : SameD a al H (upd H' D o) := fun b x h1 h2 e => by
  rw [upd_ne (ne_of_none e h)]
  exact s b x h1 h2 e
def NN (ls : List Int) : Prop := ∀ x ∈ ls, 0 ≤ x
/-- the state of the draws: its dict at a, the large numbers at al, the cells at ac -/
structure DrAt (H : Hp) (a al ac : Addr) : Prop where
  ex : ∃ kvs ls cs rest turn, H a = some (.dK kvs) ∧ kvs.length ≤ 4 ∧ valV kvs (.inr "large") = some (.ref al) ∧ valV kvs (.inr "rest") = some (.int rest) ∧ valV kvs (.inr "cells") = some (.ref ac) ∧ valV kvs (.inr "turn") = some (.int turn) ∧
    H al = some (.lst (ls.map V.int)) ∧ H ac = some (.lst (cs.map V.int)) ∧ NN ls ∧ NN cs ∧ 0 ≤ rest ∧ 0 ≤ turn ∧ ls.length ≤ 63 ∧ cs.length ≤ 63
  n1 : a ≠ al
  n2 : a ≠ ac
  n3 : al ≠ ac
theorem putK_len {κ : Type} [DecidableEq κ] {kvs : List (κ × V)} {k : κ} {v x : V} (h : valV kvs k = some x) : (putK kvs k v).length = kvs.length := by
  unfold putK
  rw [if_pos (by rw [valV_any, h]; rfl), List.length_map]
theorem DrAt.same {H H' : Hp} {a al ac : Addr} (d : DrAt H a al ac) (s : Same H H') : DrAt H' a al ac := by
  obtain ⟨kvs, ls, cs, rest, turn, h1, h2, h3, h4, h5, h6, h7, h8, h9⟩ := d.ex
  exact ⟨⟨kvs, ls, cs, rest, turn, s _ _ h1, h2, h3, h4, h5, h6, s _ _ h7, s _ _ h8, h9⟩, d.n1, d.n2, d.n3⟩
theorem DrAt.fresh {H H' : Hp} {a al ac D : Addr} {o : HO} (d : DrAt H a al ac) (d' : DrAt H' a al ac) (h : H D = none) : DrAt (upd H' D o) a al ac := by
  obtain ⟨_, _, _, _, _, g1, _, _, _, _, _, g7, g8, _⟩ := d.ex
  obtain ⟨kvs, ls, cs, rest, turn, h1, h2, h3, h4, h5, h6, h7, h8, h9⟩ := d'.ex
  exact ⟨⟨kvs, ls, cs, rest, turn, by rw [upd_ne (ne_of_none g1 h)]; exact h1, h2, h3, h4, h5, h6, by rw [upd_ne (ne_of_none g7 h)]; exact h7, by rw [upd_ne (ne_of_none g8 h)]; exact h8, h9⟩, d.n1, d.n2, d.n3⟩
def RNN : Rl Unit := fun _ v _ => ∃ i : Int, v = .int i ∧ 0 ≤ i
theorem mono_nn : Mono RNN := fun _ _ _ _ _ h => h
theorem firm_nn : Firm RNN := fun _ _ _ _ _ _ _ h => h
theorem nn_items {H : Hp} : ∀ (xs : List V) (ds : List Unit), All2 (RNN H) xs ds → ∃ is : List Int, xs = is.map V.int ∧ NN is ∧ is.length = ds.length
  | [], [], _ => ⟨[], rfl, fun x hx => (by cases hx), rfl⟩
  | [], _ :: _, h => by cases h.1
  | _ :: _, [], h => by cases h.1
  | x :: xs, d :: ds, h => by
    obtain ⟨is, h1, h2, h3⟩ := nn_items xs ds ⟨by simpa using h.1, fun i y e a b => h.2 (i + 1) y e a b⟩
    obtain ⟨i, hi, h0⟩ := h.2 0 x d rfl rfl
    refine ⟨i :: is, by rw [hi, h1]; rfl, fun z hz => ?_, by rw [List.length_cons, List.length_cons, h3]⟩
    rcases List.mem_cons.mp hz with e | e
    · rw [e]; exact h0
    · exact h2 z e
theorem dp_intsI {K : PySem.W.Frag} {H : Hp} : ∀ w : List Int, DpAll K H (w.map V.int) (w.map PyData.int)
  | [] => .nil
  | n :: w => .cons (.int _) (dp_intsI w)
theorem shaped_ints (ls : List Int) : SeqAt.shaped (.list (ls.map PyData.int)) = true := by
  have h : ∀ ls : List Int, PyData.canLayAll0 (ls.map PyData.int) = true ∧ PyData.depthAll (ls.map PyData.int) ≤ 1 := fun ls => by
    induction ls with
    | nil => exact ⟨by simp [PyData.canLayAll0], by simp [PyData.depthAll]⟩
    | cons n ls ih =>
      simp only [List.map_cons, PyData.canLayAll0, PyData.canLay0, PyData.depthAll, PyData.depth, Bool.true_and]
      exact ⟨ih.1, by have := ih.2; omega⟩
  refine shaped_of ?_ ?_
  · unfold PyData.canLay0
    exact (h ls).1
  · unfold PyData.depth
    have := (h ls).2
    omega
section
variable {P : Program} {w : World} {K : PySem.W.Frag} {mg : Str → Option Value} {base : Heap}
abbrev sp_law_begun (K : PySem.W.Frag) : Sp := fun vs H Q _ => ∃ (s0 : Addr) (ns : List Int), vs = [.ref s0] ∧ SqL K H s0 (ns.map V.int) ∧ ns.length ≤ 63 ∧ ∀ a al ac H', Same H H' → DrAt H' a al ac → H a = none → H al = none → Q (.ref a) H'
theorem ok_law_begun (T : Txt K mg) : Cal P w K mg base 1 "_law_begun" (sp_law_begun K) [] := by
  refine cal_of T.f_law_begun T.g_law_begun rfl rfl sc_law_begun (fun _ _ _ _ _ _ us hl => match us, hl with | [_], _ => rfl) (fun vs H Q E h => ?_) (fun cdv A outer s H vs Q E hr h => ⟨_, (pss_cons (ps_setLc (i := 1) (own := [("_law_grain", 2)]) (g := (gName 2)) (tt := _) rfl sc_law_begun.nd rfl rfl (sw_true rfl rfl rfl (by decide +kernel)) (pi_listK (K := K) rfl (pv 0)) (blkOk_by (N := N_law_begun) (sc := defScope s_law_begun) (own := [("_law_grain", 2)]) (by decide +kernel)) (fun _ _ _ _ _ => (pg_name (i := 2) sc_law_begun.nd rfl (.inl rfl))) (fun _ _ _ _ _ => (pts_one (pt_cmpR op_ge (pe_callB cl_abs (by rfl) T.b_abs (by decide +kernel) (pa_cons (pv 2) pa_nil)) (pe_op op_pow pe_int pe_int) (nomark _)))) (fun _ _ _ _ _ => (pe_op op_sub (pe_callB cl_abs (by rfl) T.b_abs (by decide +kernel) (pa_cons (pv 2) pa_nil)) (pe_op op_pow pe_int pe_int))))
      (pss_one (ps_ret (pe_disp (pps_cons pe_str (pv 1) (pps_cons pe_str pe_int (pps_cons pe_str (pe_lc (own := [("_law_grain", 2)]) (g := (gName 2)) (tt := tYes) rfl sc_law_begun.nd (pi_listK (K := K) rfl (pv 0)) (blkOk_by (N := N_law_begun) (sc := defScope s_law_begun) (own := [("_law_grain", 2)]) (by decide +kernel)) (fun _ _ _ _ _ => (pg_name (i := 2) sc_law_begun.nd rfl (.inl rfl))) (fun _ _ _ _ _ => pts_nil) (fun _ _ _ _ _ => (pe_callB cl_abs (by rfl) T.b_abs (by decide +kernel) (pa_cons (pv 2) pa_nil)))) (pps_cons pe_str pe_int pps_nil)))) (by rfl) (by rfl) (fun z => by cases z) (by decide))))), ?_⟩)
  · obtain ⟨s0, ns, rfl, _⟩ := h
    rfl
  · obtain ⟨s0, ns, rfl, hs, hn, k⟩ := h
    walk_at "wl"
    refine w_iLstAtQ hs ?_
    refine lc_lstQ RNN mono_nn firm_nn (fun i => decide (10 ^ 18 ≤ ((ns.getD i 0).natAbs : Int))) (fun _ => ()) hs (by rw [List.length_map]; omega) (fun _ => rfl) (fun i x H2 hi hx s2 A B hA hB => ?_) (fun la ys H2 hla s2 e2 al2 => ?_)
    · obtain ⟨n, rfl, hx2⟩ := int_at hx
      have gn : ns.getD i 0 = n := by
        rw [List.getD_eq_getElem?_getD, hx2]
        rfl
      walk_at "wl"
      rw [abs_nat]
      have e18 : (10 : Int) ^ Int.toNat 18 = 10 ^ 18 := by decide
      rw [e18]
      refine w_iteD (fun hge => ?_) (fun hlt => ?_)
      · walk_at "wl"
        rw [abs_nat, e18]
        exact hA _ _ (by rw [gn]; exact decide_eq_true hge) (fun _ _ h => h) ⟨_, rfl, by omega⟩
      · exact hB _ (by rw [gn]; exact decide_eq_false hlt) (fun _ _ h => h)
    · obtain ⟨ls, rfl, hls, hll⟩ := nn_items _ _ al2
      have hll2 : ls.length ≤ 63 := by
        rw [hll, List.length_map]
        have h2 := List.length_filter_le (fun i => decide (10 ^ 18 ≤ ((ns.getD i 0).natAbs : Int))) (List.range (ns.map V.int).length)
        rw [List.length_range] at h2
        have h3 : (ns.map V.int).length = ns.length := List.length_map _
        omega
      walk_at "wl"
      refine w_disp fun p hp => ?_
      have s3 : Same H2 (upd H2 p (.dK [])) := same_upd hp
      have e3 : upd H2 p (.dK []) p = some (.dK []) := upd_same
      generalize upd H2 p (.dK []) = H3 at s3 e3
      walk_at "wl"
      have s23 := s2.trans s3
      refine w_iLstAtQ (SqL.ext hs s23) ?_
      refine lc_lstQ RNN mono_nn firm_nn (fun i => true) (fun _ => ()) (SqL.ext hs s23) (by rw [List.length_map]; omega) (fun _ => rfl) (fun i x H4 hi hx s4 A B hA hB => ?_) (fun lc zs H4 hlc s4 e4 al4 => ?_)
      · obtain ⟨n, rfl, hx2⟩ := int_at hx
        walk_at "wl"
        rw [abs_nat]
        exact hA _ _ rfl (fun _ _ h => h) ⟨_, rfl, by omega⟩
      · obtain ⟨cs, rfl, hcs, hcl⟩ := nn_items _ _ al4
        have hcl2 : cs.length ≤ 63 := by
          rw [hcl, List.length_map, filter_all, List.length_range, List.length_map]
          exact hn
        walk_at "wl"
        have hlap : la ≠ p := fun z => by rw [z, hp] at e2; cases e2
        have hlcp : lc ≠ p := fun z => by rw [z, e3] at hlc; cases hlc
        have hlala : la ≠ lc := fun z => by rw [← z, s3 _ _ e2] at hlc; cases hlc
        have hp0 : H p = none := by
          cases hh : H p with
          | none => rfl
          | some o => rw [s2 _ _ hh] at hp; cases hp
        refine ⟨s4 _ _ e3, [(.inr "large", .ref la), (.inr "rest", .int 0), (.inr "cells", .ref lc), (.inr "turn", .int 0)], rfl, (show 4 ≤ 15 by omega), ?_⟩
        refine k p la lc _ (Same.mut (s23.trans s4) hp0) ⟨⟨_, ls, cs, 0, 0, upd_same, (show 4 ≤ 4 from Nat.le_refl _), by rfl, by rfl, by rfl, by rfl, by rw [upd_ne hlap]; exact (s3.trans s4) _ _ e2, by rw [upd_ne hlcp]; exact e4, hls, hcs, by decide, by decide, hll2, hcl2⟩, Ne.symm hlap, Ne.symm hlcp, hlala⟩ hp0 hla
abbrev sp_law_mixed : Sp := fun vs H Q _ => ∃ (a al ac : Addr), vs = [.ref a] ∧ DrAt H a al ac ∧ ∀ (i : Int) H', SameD a al H H' → (∀ ls, H al = some (.lst ls) → H' al = some (.lst ls)) → DrAt H' a al ac → 0 ≤ i → Q (.int i) H'
theorem ok_law_mixed (T : Txt K mg) : Cal P w K mg base 1 "_law_mixed" sp_law_mixed [] := by
  refine cal_of T.f_law_mixed T.g_law_mixed rfl rfl sc_law_mixed (fun _ _ _ _ _ _ us hl => match us, hl with | [_], _ => rfl) (fun vs H Q E h => ?_) (fun cdv A outer s H vs Q E hr h => ⟨_, (pss_cons (ps_dput (hu_of hr) (pv 0) pe_str (pe_op op_add (pe_dget (hu_of hr) (pv 0) pe_str (fun _ _ => rfl)) pe_int) rfl)
      (pss_cons (ps_par (i := 1) (j := 2) rfl sc_law_mixed.nd rfl rfl (by decide) rfl rfl (pa_cons (pe_callTy cl_int (by rfl) T.b_int (by decide +kernel) (pa_cons (pe_dget (hu_of hr) (pv 0) pe_str (fun _ _ => rfl)) pa_nil)) (pa_cons pe_int pa_nil)) (by rfl))
      (pss_cons (ps_for PassesOwn.never rfl (pi_listK (K := K) rfl (pe_lst (pa_cons pe_int (pa_cons pe_int (pa_cons pe_int pa_nil))))) (pg_name (i := 3) sc_law_mixed.nd rfl (.inl rfl)) (pss_cons (ps_set (i := 4) sc_law_mixed.nd rfl (Or.inl rfl) (pe_op op_mod (pe_op op_add (pe_op op_mul (pv 1) pe_int) (pe_op op_fdiv (pv 3) pe_int)) (pv 3)))
      (pss_cons (ps_for PassesOwn.never rfl (pi_listK (K := K) rfl (pe_dget (hu_of hr) (pv 0) pe_str (fun _ _ => rfl))) (pg_name (i := 5) sc_law_mixed.nd rfl (.inl rfl)) (pss_one (ps_set (i := 4) sc_law_mixed.nd rfl (Or.inl rfl) (pe_op op_mod (pe_op op_add (pe_op op_mul (pv 4) pe_int) (pe_callTy cl_int (by rfl) T.b_int (by decide +kernel) (pa_cons (pv 5) pa_nil))) (pv 3)))))
      (pss_one (ps_set (i := 2) sc_law_mixed.nd rfl (Or.inl rfl) (pe_op op_add (pe_op op_mul (pv 2) pe_int) (pe_op op_mod (pe_op op_pow (pv 4) pe_int) (pv 3))))))))
      (pss_one (ps_ret (pv 2)))))), ?_⟩)
  · obtain ⟨a, al, ac, rfl, _⟩ := h
    rfl
  · obtain ⟨a, al, ac, rfl, dr, k⟩ := h
    obtain ⟨kvs, ls, cs, rest, turn, h1, h2, h3, h4, h5, h6, h7, h8, h9, h10, h11, h12, h13, h14⟩ := id dr.ex
    walk_at "wl"
    refine w_dgetS (.inl h1) h6 ?_
    walk_at "wl"
    refine w_dputS h1 (by omega) ?_
    have hv : ∀ j : Key, valV (putK kvs (.inr "turn") (.int (turn + 1))) j = if j = .inr "turn" then some (.int (turn + 1)) else valV kvs j := fun j => valV_put ..
    have dr2 : DrAt (upd H a (.dK (putK kvs (.inr "turn") (.int (turn + 1))))) a al ac := ⟨⟨_, ls, cs, rest, turn + 1, upd_same, by rw [putK_len h6]; exact h2, by rw [hv, if_neg (by decide)]; exact h3, by rw [hv, if_neg (by decide)]; exact h4, by rw [hv, if_neg (by decide)]; exact h5, by rw [hv, if_pos rfl], by rw [upd_ne (Ne.symm dr.n1)]; exact h7, by rw [upd_ne (Ne.symm dr.n2)]; exact h8, h9, h10, h11, by omega, h13, h14⟩, dr.n1, dr.n2, dr.n3⟩
    have e1 : upd H a (.dK (putK kvs (.inr "turn") (.int (turn + 1)))) a = some (.dK (putK kvs (.inr "turn") (.int (turn + 1)))) := upd_same
    have e8 : upd H a (.dK (putK kvs (.inr "turn") (.int (turn + 1)))) ac = some (.lst (cs.map V.int)) := by rw [upd_ne (Ne.symm dr.n2)]; exact h8
    have sd : SameD a al H (upd H a (.dK (putK kvs (.inr "turn") (.int (turn + 1))))) := fun b o hb _ h => by rw [upd_ne hb]; exact h
    have sal : ∀ ls, H al = some (.lst ls) → upd H a (.dK (putK kvs (.inr "turn") (.int (turn + 1)))) al = some (.lst ls) := fun ls h => by rw [upd_ne (Ne.symm dr.n1)]; exact h
    have vt : valV (putK kvs (.inr "turn") (.int (turn + 1))) (.inr "turn") = some (.int (turn + 1)) := by rw [hv, if_pos rfl]
    have vc : valV (putK kvs (.inr "turn") (.int (turn + 1))) (.inr "cells") = some (.ref ac) := by rw [hv, if_neg (by decide)]; exact h5
    generalize putK kvs (.inr "turn") (.int (turn + 1)) = kvs2 at *
    generalize upd H a (.dK kvs2) = H1 at *
    walk_at "wl"
    refine w_dgetS (.inl e1) vt ?_
    walk_at "wl"
    rename_i p2 H2 hp2 s2 e2
    refine f_lst (xs := [.int 2147483629, .int 2147483587, .int 2147483579]) (fun i σ H' => Same H2 H' ∧ ∃ z3 z4 z5 fd, 0 ≤ fd ∧ σ = [some (.ref a), some (.int (turn + 1)), some (.int fd), z3, z4, z5]) (fun i σ H' _ h => h.1 _ _ e2) ⟨fun _ _ h => h, _, _, _, 0, by decide, rfl⟩ ?_ ?_
    · rintro i x σ H3 hi hx ⟨s3, z3, z4, z5, fd, hfd, rfl⟩
      have hG : ∃ G : Int, x = .int G ∧ 2147483000 < G ∧ G < 2147483648 := by
        match i, hx with
        | 0, hx => cases hx; exact ⟨_, rfl, by decide, by decide⟩
        | 1, hx => cases hx; exact ⟨_, rfl, by decide, by decide⟩
        | 2, hx => cases hx; exact ⟨_, rfl, by decide, by decide⟩
      obtain ⟨G, rfl, hG1, hG2⟩ := hG
      have e13 := (s2.trans s3) _ _ e1
      have e83 := (s2.trans s3) _ _ e8
      walk_at "wl"
      refine w_dgetS (.inl e13) vc ?_
      walk_at "wl"
      have hb0 := Int.emod_nonneg ((turn + 1) * 69621 + G / 7) (show G ≠ 0 by omega)
      have hb1 := Int.emod_lt_of_pos ((turn + 1) * 69621 + G / 7) (show 0 < G by omega)
      refine f_lst (xs := cs.map V.int) (fun j σ H' => H' = H3 ∧ ∃ z5 bl, 0 ≤ bl ∧ bl < G ∧ σ = [some (.ref a), some (.int (turn + 1)), some (.int fd), some (.int G), some (.int bl), z5]) (fun j σ H' _ h => h.1 ▸ e83) ⟨rfl, _, _, hb0, hb1, rfl⟩ ?_ ?_
      · rintro j x σ H4 hj hx ⟨rfl, z5, bl, hbl0, hbl1, rfl⟩
        obtain ⟨n, rfl, hn⟩ := int_at hx
        walk_at "wl"
        exact ⟨rfl, _, _, Int.emod_nonneg _ (by omega), Int.emod_lt_of_pos _ (by omega), rfl⟩
      · rintro σ H4 ⟨rfl, z5, bl, hbl0, hbl1, rfl⟩
        walk_at "wl"
        exact ⟨s3, _, _, _, _, Int.add_nonneg (Int.mul_nonneg hfd (by decide)) (Int.emod_nonneg _ (by omega)), rfl⟩
    · rintro σ H3 ⟨s3, z3, z4, z5, fd, hfd, rfl⟩
      walk_at "wl"
      exact k _ _ (sd.trans (SameD.of (s2.trans s3))) (fun ls h => (s2.trans s3) _ _ (sal ls h)) (dr2.same (s2.trans s3)) hfd
abbrev sp_law_take : Sp := fun vs H Q _ => ∃ (a al ac : Addr) (n : Nat), vs = [.ref a, .int n] ∧ DrAt H a al ac ∧ 0 < n ∧ n ≤ 1000 ∧ ∀ (i : Nat) H', SameD a al H H' → DrAt H' a al ac → i < n → Q (.int i) H'
theorem DrAt.rest {H : Hp} {a al ac : Addr} (d : DrAt H a al ac) : ∃ kvs rest, H a = some (.dK kvs) ∧ kvs.length ≤ 4 ∧ valV kvs (.inr "rest") = some (.int rest) ∧ 0 ≤ rest ∧ ∀ r : Int, 0 ≤ r → DrAt (upd H a (.dK (putK kvs (.inr "rest") (.int r)))) a al ac := by
  obtain ⟨kvs, ls, cs, rest, turn, h1, h2, h3, h4, h5, h6, h7, h8, h9, h10, h11, h12, h13, h14⟩ := id d.ex
  refine ⟨kvs, rest, h1, h2, h4, h11, fun r hr => ?_⟩
  have hv : ∀ j : Key, valV (putK kvs (.inr "rest") (.int r)) j = if j = .inr "rest" then some (.int r) else valV kvs j := fun j => valV_put ..
  exact ⟨⟨_, ls, cs, r, turn, upd_same, by rw [putK_len h4]; exact h2, by rw [hv, if_neg (by decide)]; exact h3, by rw [hv, if_pos rfl], by rw [hv, if_neg (by decide)]; exact h5, by rw [hv, if_neg (by decide)]; exact h6, by rw [upd_ne (Ne.symm d.n1)]; exact h7, by rw [upd_ne (Ne.symm d.n2)]; exact h8, h9, h10, hr, h12, h13, h14⟩, d.n1, d.n2, d.n3⟩
theorem sameD_put {H : Hp} {a al : Addr} {o : HO} : SameD a al H (upd H a o) := fun b x hb _ h => by rw [upd_ne hb]; exact h
theorem ok_law_take (T : Txt K mg) : Cal P w K mg base 2 "_law_take" sp_law_take [] := by
  refine cal_of T.f_law_take T.g_law_take rfl rfl sc_law_take (fun _ _ _ _ _ _ us hl => match us, hl with | [_, _], _ => rfl) (fun vs H Q E h => ?_) (fun cdv A outer s H vs Q E hr h => ⟨_, (pss_cons (ps_if (pt_cmpR op_eq (pe_dget (hu_of hr) (pv 0) pe_str (fun _ _ => rfl)) pe_int (nomark _)) (pss_one (ps_dput (hu_of hr) (pv 0) pe_str (pe_ifExp (pt_cmpR (op_neDK (K := K) rfl hr.units) (pe_dget (hu_of hr) (pv 0) pe_str (fun _ _ => rfl)) (pe_lst pa_nil) (nomark _)) (pe_bm PySem.F.plainAttrs_list PySem.F.slot_list_pop PySem.F.type_list_pop mt_popAt (pe_dget (hu_of hr) (pv 0) pe_str (fun _ _ => rfl)) (pa_cons pe_int pa_nil)) (pe_c (ok_law_mixed T) hr (by decide) rfl (pa_cons (pv 0) pa_nil))) rfl)) pss_nil)
      (pss_cons (ps_set (i := 2) sc_law_take.nd rfl (Or.inl rfl) (pe_op op_mod (pe_callTy cl_int (by rfl) T.b_int (by decide +kernel) (pa_cons (pe_dget (hu_of hr) (pv 0) pe_str (fun _ _ => rfl)) pa_nil)) (pv 1)))
      (pss_cons (ps_dput (hu_of hr) (pv 0) pe_str (pe_op op_fdiv (pe_callTy cl_int (by rfl) T.b_int (by decide +kernel) (pa_cons (pe_dget (hu_of hr) (pv 0) pe_str (fun _ _ => rfl)) pa_nil)) (pv 1)) rfl)
      (pss_one (ps_ret (pv 2)))))), ?_⟩)
  · obtain ⟨a, al, ac, n, rfl, _⟩ := h
    rfl
  · obtain ⟨a, al, ac, n, rfl, dr, hn, hn2, k⟩ := h
    walk_at "wm"
    refine w_cut (fun σ' H' => σ' = [some (.ref a), some (.int n), none] ∧ SameD a al H H' ∧ DrAt H' a al ac) (fun nx' hnx => ?_) ?_
    · obtain ⟨kvs, ls, cs, rest, turn, h1, h2, h3, h4, h5, h6, h7, h8, h9, h10, h11, h12, h13, h14⟩ := id dr.ex
      walk_at "wl"
      refine w_dgetS (.inl h1) h4 ?_
      walk_at "wl"
      refine w_iteD (fun h0 => ?_) (fun h0 => ?_)
      · walk_at "wl"
        refine w_dgetS (.inl h1) h3 ?_
        walk_at "wl"
        rename_i pn H1 hpn s1 e1
        have dr1 := dr.same s1
        refine ⟨.list (ls.map .int), .list [], .lst (sqL (s1 _ _ h7)) (dp_intsI ls), .lst (sqL e1) .nil, shaped_ints ls, shaped_ints [], ?_⟩
        cases ls with
        | nil =>
          have e : (!PyData.eqv (.list (([] : List Int).map .int)) (.list [])) = false := by simp [PyData.eqv, PyData.eqvAll]
          rw [e]
          walk_at "wl"
          refine ⟨a, al, ac, rfl, dr1, fun i H2 sd2 _ dr2 hi => ?_⟩
          obtain ⟨kvs2, rest2, g1, g2, g3, g4, g5⟩ := dr2.rest
          walk_at "wl"
          refine w_dputS g1 (by omega) ?_
          exact hnx _ _ ⟨rfl, ((SameD.of s1).trans sd2).trans sameD_put, g5 i hi⟩
        | cons l0 ls =>
          have e : (!PyData.eqv (.list ((l0 :: ls).map .int)) (.list [])) = true := by simp [PyData.eqv, PyData.eqvAll]
          rw [e]
          have h71 := s1 _ _ h7
          have h11' := s1 _ _ h1
          walk_at "wl"
          refine w_bm ?_
          walk_at "wl"
          refine w_dgetS (.inl h11') h3 ?_
          refine w_bmAtL h71 ?_
          walk_at "wl"
          refine ⟨al, _, 0, 0, .int l0, rfl, rfl, h71, by decide, by decide, by simp [seqIndex?], rfl, ?_⟩
          walk_at "wl"
          refine w_dputS (kvs := kvs) (by rw [upd_ne dr.n1]; exact h11') (by omega) ?_
          have hv : ∀ j : Key, valV (putK kvs (.inr "rest") (.int l0)) j = if j = .inr "rest" then some (.int l0) else valV kvs j := fun j => valV_put ..
          refine hnx _ _ ⟨rfl, fun b o hb hb2 h => by rw [upd_ne hb, upd_ne hb2]; exact s1 _ _ h, ⟨_, ls, cs, l0, turn, upd_same, by rw [putK_len h4]; exact h2, by rw [hv, if_neg (by decide)]; exact h3, by rw [hv, if_pos rfl], by rw [hv, if_neg (by decide)]; exact h5, by rw [hv, if_neg (by decide)]; exact h6, by rw [upd_ne (Ne.symm dr.n1), upd_same]; rfl, by rw [upd_ne (Ne.symm dr.n2), upd_ne (Ne.symm dr.n3)]; exact s1 _ _ h8, fun x hx => h9 x (List.mem_cons_of_mem _ hx), h10, h9 l0 List.mem_cons_self, h12, by rw [List.length_cons] at h13; omega, h14⟩, dr.n1, dr.n2, dr.n3⟩
      · walk_at "wl"
        exact hnx _ _ ⟨rfl, SameD.rfl', dr⟩
    · rintro σ1 H1 ⟨rfl, sd1, dr1⟩
      obtain ⟨kvs2, rest2, g1, g2, g3, g4, g5⟩ := dr1.rest
      walk_at "wl"
      refine w_dgetS (.inl g1) g3 ?_
      walk_at "wl"
      refine w_dgetS (.inl g1) g3 ?_
      walk_at "wl"
      refine w_dputS g1 (by omega) ?_
      walk_at "wl"
      have m0 := Int.emod_nonneg rest2 (show (n : Int) ≠ 0 by omega)
      have m1 := Int.emod_lt_of_pos rest2 (show (0 : Int) < n by omega)
      have e : rest2 % (n : Int) = ((rest2 % (n : Int)).toNat : Int) := by omega
      rw [e]
      exact k _ _ (sd1.trans sameD_put) (g5 _ (Int.ediv_nonneg g4 (by omega))) (by omega)
abbrev sp_law_pick : Sp := fun vs H Q _ => ∃ (a al ac b : Addr) (xs : List V), vs = [.ref a, .ref b] ∧ DrAt H a al ac ∧ H b = some (.lst xs) ∧ b ≠ al ∧ 0 < xs.length ∧ xs.length ≤ 1000 ∧ ∀ (i : Nat) x H', SameD a al H H' → DrAt H' a al ac → xs[i]? = some x → Q x H'
theorem ok_law_pick (T : Txt K mg) : Cal P w K mg base 3 "_law_pick" sp_law_pick [] := by
  refine cal_of T.f_law_pick T.g_law_pick rfl rfl sc_law_pick (fun _ _ _ _ _ _ us hl => match us, hl with | [_, _], _ => rfl) (fun vs H Q E h => ?_) (fun cdv A outer s H vs Q E hr h => ⟨_, (pss_one (ps_ret (pe_ix (ix_listK (K := K) rfl) (pv 1) (pe_c (ok_law_take T) hr (by decide) rfl (pa_cons (pv 0) (pa_cons (pe_callB (cl_lenK (K := K) rfl) (by rfl) T.b_len (by decide +kernel) (pa_cons (pv 1) pa_nil)) pa_nil))) (fun _ _ => rfl)))), ?_⟩)
  · obtain ⟨a, al, ac, b, xs, rfl, _⟩ := h
    rfl
  · obtain ⟨a, al, ac, b, xs, rfl, dr, hb, hba, hx0, hx1, k⟩ := h
    have hbda : b ≠ a := fun e => by
      obtain ⟨_, _, _, _, _, h1, _⟩ := dr.ex
      rw [e, h1] at hb
      cases hb
    walk_at "wl"
    refine ⟨a, al, ac, xs.length, rfl, dr, hx0, hx1, fun i H1 sd dr1 hi => ?_⟩
    refine w_ixL i rfl (sd _ _ hbda hba hb) (List.getElem?_eq_getElem hi) ?_
    exact k i _ H1 sd dr1 (List.getElem?_eq_getElem hi)
end
end WL
/-! drawn rules and gauges -/
namespace WL
open PySem PySem.Spec PyProof.Rows L2
open C8 (Cal Met Mak pe_c pe_mk pe_mt pe_mt0 pe_gc)
theorem DrAt.ne {H : Hp} {a al ac b : Addr} (d : DrAt H a al ac) {o : HO} (h : H b = some o) (h1 : ∀ kv, o ≠ .dK kv) (h2 : ∀ xs, o ≠ .lst xs) : b ≠ a ∧ b ≠ al := by
  obtain ⟨kvs, ls, _, _, _, g1, _, _, _, _, _, g7, _⟩ := d.ex
  refine ⟨fun e => ?_, fun e => ?_⟩
  · rw [e, g1] at h
    exact h1 _ (Option.some.inj h).symm
  · rw [e, g7] at h
    exact h2 _ (Option.some.inj h).symm
theorem sd_tup {H H' : Hp} {a al ac b : Addr} {xs : List V} (d : DrAt H a al ac) (s : SameD a al H H') (h : H b = some (.tup xs)) : H' b = some (.tup xs) := by
  obtain ⟨h1, h2⟩ := d.ne h (fun _ z => by cases z) (fun _ z => by cases z)
  exact s _ _ h1 h2 h
theorem sd_W {H H' : Hp} {a al ac : Addr} {v : V} {u : List Nat} (d : DrAt H a al ac) (s : SameD a al H H') (h : W H v u) : W H' v u := by
  obtain ⟨b, e, h⟩ := h
  exact ⟨b, e, sd_tup d s h⟩
theorem sd_M {H H' : Hp} {a al ac : Addr} {v : V} {r : Ru} (d : DrAt H a al ac) (s : SameD a al H H') (h : RM H v r) : RM H' v r := by
  obtain ⟨b, c, e, h1, h2⟩ := h
  exact ⟨b, c, e, sd_tup d s h1, sd_tup d s h2⟩
theorem sd_G {H H' : Hp} {a al ac : Addr} {v : V} {g : Ga} (d : DrAt H a al ac) (s : SameD a al H H') (h : RG H v g) : RG H' v g := by
  obtain ⟨b, c, e, h1, h2⟩ := h
  exact ⟨b, c, e, sd_tup d s h1, sd_tup d s h2⟩
theorem DrAt.none_ne {H : Hp} {a al ac b : Addr} (d : DrAt H a al ac) (h : H b = none) : b ≠ a ∧ b ≠ al := by
  obtain ⟨kvs, ls, _, _, _, g1, _, _, _, _, _, g7, _⟩ := d.ex
  exact ⟨fun e => (by rw [e, g1] at h; cases h), fun e => (by rw [e, g7] at h; cases h)⟩
/-- a list of words that is not empty is no list of the draws -/
theorem DrAt.words_ne {H : Hp} {a al ac b : Addr} {ws : List (List Nat)} (d : DrAt H a al ac) (h : RLst W H (.ref b) ws) (h0 : ws ≠ []) : b ≠ a ∧ b ≠ al := by
  obtain ⟨c, xs, e, hc, hal⟩ := h
  cases e
  obtain ⟨kvs, ls, _, _, _, g1, _, _, _, _, _, g7, _⟩ := d.ex
  refine ⟨fun e => ?_, fun e => ?_⟩
  · rw [e, g1] at hc
    cases hc
  · rw [e, g7] at hc
    cases hc
    cases ws with
    | nil => exact h0 rfl
    | cons u ws =>
      obtain ⟨x, hx, p, hp, _⟩ := hal.at (i := 0) (d := u) rfl
      obtain ⟨n, hn, _⟩ := int_at hx
      rw [hn] at hp
      cases hp
theorem sd_words {H H' : Hp} {a al ac b : Addr} {ws : List (List Nat)} (d : DrAt H a al ac) (s : SameD a al H H') (hb : b ≠ a ∧ b ≠ al) (h : RLst W H (.ref b) ws) : RLst W H' (.ref b) ws := by
  obtain ⟨c, xs, e, hc, hal⟩ := h
  cases e
  exact ⟨b, xs, rfl, s _ _ hb.1 hb.2 hc, hal.imp fun x u h => sd_W d s h⟩
/-- a comprehension over a range that draws -/
theorem lc_draw {σ : L2.St} {Q : VK} {n : Nat} {te : TE} {vs : List Nat} {H1 : Hp} {nn : Nat} {a al ac : Addr} (C : V → Prop) (dr : DrAt H1 a al ac) (hn : nn < 100000) (hw : ∀ x, wipe ((wipe σ vs).set n (some x)) vs = wipe σ vs)
    (turn : ∀ (i : Nat) (H2 : Hp), i < nn → SameD a al H1 H2 → DrAt H2 a al ac → ∀ A : VK, (∀ y H6, SameD a al H2 H6 → DrAt H6 a al ac → C y → A y H6) → te ((wipe σ vs).set n (some (.int (i : Nat)))) H2 A)
    (done : ∀ D xs H', H1 D = none → SameD a al H1 H' → DrAt H' a al ac → H' D = some (.lst xs) → xs.length = nn → (∀ x ∈ xs, C x) → Q (.ref D) H') : LcW (Itr 0 nn) (gName n) tYes te vs σ H1 Q := by
  refine lc_rngI (fun D i xs H' => SameD a al H1 H' ∧ DrAt H' a al ac ∧ ∀ x ∈ xs, C x) hn hw (fun D hD => ⟨(SameD.rfl' (H := H1)).mut hD, dr.fresh dr hD, fun x hx => (by cases hx)⟩) (fun D i xs H2 hi hD e2 hl ⟨s2, d2, c2⟩ A hA => ?_) (fun D xs H' hD e hl ⟨s, d, c⟩ => done D xs H' hD s d e hl c)
  refine turn i H2 hi s2 d2 _ fun y H6 s6 d6 cy => ?_
  obtain ⟨h1, h2⟩ := dr.none_ne hD
  refine hA y H6 (s6 _ _ h1 h2 e2) ⟨(s2.trans s6).mut hD, dr.fresh d6 hD, fun x hx => ?_⟩
  rcases List.mem_append.mp hx with h | h
  · exact c2 x h
  · rw [List.mem_singleton] at h
    rw [h]
    exact cy
theorem kinds_choose {q : Nat} : ∀ xs : List V, (∀ x ∈ xs, ∃ k, x = nV k ∧ k < q) → ∃ t : List Nat, xs = t.map nV ∧ Kinds q t
  | [], _ => ⟨[], rfl, fun x hx => (by cases hx)⟩
  | x :: xs, h => by
    obtain ⟨k, hk, hq⟩ := h x List.mem_cons_self
    obtain ⟨t, ht, hkt⟩ := kinds_choose xs fun y hy => h y (List.mem_cons_of_mem _ hy)
    refine ⟨k :: t, by rw [hk, ht]; rfl, fun y hy => ?_⟩
    rcases List.mem_cons.mp hy with e | e
    · rw [e]; exact hq
    · exact hkt y e
theorem ints_choose (C : Int → Prop) : ∀ xs : List V, (∀ x ∈ xs, ∃ k : Int, x = .int k ∧ C k) → ∃ t : List Int, xs = t.map V.int ∧ ∀ y ∈ t, C y
  | [], _ => ⟨[], rfl, fun y hy => (by cases hy)⟩
  | x :: xs, h => by
    obtain ⟨k, hk, hc⟩ := h x List.mem_cons_self
    obtain ⟨t, ht, hct⟩ := ints_choose C xs fun y hy => h y (List.mem_cons_of_mem _ hy)
    refine ⟨k :: t, by rw [hk, ht]; rfl, fun y hy => ?_⟩
    rcases List.mem_cons.mp hy with e | e
    · rw [e]; exact hc
    · exact hct y e
def RK (q : Nat) : Rl Unit := fun _ v _ => ∃ k, v = nV k ∧ k < q
theorem mono_k {q : Nat} : Mono (RK q) := fun _ _ _ _ _ h => h
theorem firm_k {q : Nat} : Firm (RK q) := fun _ _ _ _ _ _ _ h => h
theorem rk_choose {q : Nat} {H : Hp} {xs : List V} {ds : List Unit} (h : All2 (RK q H) xs ds) : ∃ t : List Nat, xs = t.map nV ∧ Kinds q t ∧ t.length = ds.length := by
  obtain ⟨t, h1, h2⟩ := kinds_choose (q := q) xs fun x hx => by
    obtain ⟨i, hi, e⟩ := List.mem_iff_getElem.mp hx
    have hi2 : i < ds.length := by rw [← h.1]; exact hi
    have := h.2 i x ds[i] (by rw [List.getElem?_eq_getElem hi, e]) (List.getElem?_eq_getElem hi2)
    exact this
  exact ⟨t, h1, h2, by rw [← h.1, h1, List.length_map]⟩
theorem mod_nat {i : Int} {q : Nat} (hq : 0 < q) : ∃ k : Nat, V.int (i % (q : Int)) = nV k ∧ k < q := by
  have h0 := Int.emod_nonneg i (show (q : Int) ≠ 0 by omega)
  have h1 := Int.emod_lt_of_pos i (show (0 : Int) < q by omega)
  exact ⟨(i % (q : Int)).toNat, by show V.int _ = V.int _; congr 1; omega, by omega⟩
section
variable {P : Program} {w : World} {K : PySem.W.Frag} {mg : Str → Option Value} {base : Heap}
abbrev sp_law_table : Sp := fun vs H Q _ => ∃ (a al ac : Addr) (q l : Nat), vs = [.ref a, .int q, .int l] ∧ DrAt H a al ac ∧ (q = 2 ∨ q = 3) ∧ 1 ≤ l ∧ l ≤ 6 ∧
  ∀ v t H', SameD a al H H' → DrAt H' a al ac → W H' v t → Kinds q t → t.length = q ^ l → Q v H'
theorem ok_law_table (T : Txt K mg) : Cal P w K mg base 3 "_law_table" sp_law_table [] := by
  refine cal_of T.f_law_table T.g_law_table rfl rfl sc_law_table (fun _ _ _ _ _ _ us hl => match us, hl with | [_, _, _], _ => rfl) (fun vs H Q E h => ?_) (fun cdv A outer s H vs Q E hr h => ⟨_, (pss_cons (ps_par (i := 3) (j := 4) rfl sc_law_table.nd rfl rfl (by decide) rfl rfl (pa_cons (pe_c (ok_law_power T) hr (by decide) rfl (pa_cons (pv 1) (pa_cons (pv 2) pa_nil))) (pa_cons (pe_c (ok_law_take T) hr (by decide) rfl (pa_cons (pv 0) (pa_cons pe_int pa_nil))) pa_nil)) (by rfl))
      (pss_cons (ps_set (i := 5) sc_law_table.nd rfl (Or.inl rfl) (pe_c (ok_law_words T) hr (by decide) rfl (pa_cons (pv 1) (pa_cons (pv 2) pa_nil))))
      (pss_cons (ps_if (pt_cmpR op_eq (pv 4) pe_int (nomark _)) (pss_one (ps_ret (pe_callTy (cl_tupleK (K := K) rfl) (by rfl) T.b_tuple (by decide +kernel) (pa_cons (pe_lc (own := [("_law_word_here", 6)]) (g := (gName 6)) (tt := tYes) rfl sc_law_table.nd (pi_listK (K := K) rfl (pv 5)) (blkOk_by (N := N_law_table) (sc := defScope s_law_table) (own := [("_law_word_here", 6)]) (by decide +kernel)) (fun _ _ _ _ _ => (pg_name (i := 6) sc_law_table.nd rfl (.inl rfl))) (fun _ _ _ _ _ => pts_nil) (fun _ _ _ _ _ => (pe_op op_mod (pe_callB (cl_sumK (K := K) rfl rfl) (by rfl) T.b_sum (by decide +kernel) (pa_cons (pv 6) pa_nil)) (pv 1)))) pa_nil)))) pss_nil)
      (pss_cons (ps_if (pt_cmpR op_eq (pv 4) pe_int (nomark _)) (pss_cons (ps_asg (pe_tup (pa_cons (pe_c (ok_law_take T) hr (by decide) rfl (pa_cons (pv 0) (pa_cons (pv 2) pa_nil))) (pa_cons (pe_c (ok_law_take T) hr (by decide) rfl (pa_cons (pv 0) (pa_cons (pv 1) pa_nil))) pa_nil))) (pg_tupK (K := K) (n := 2) rfl rfl (pgs_cons (pg_name (i := 7) sc_law_table.nd rfl (.inr rfl)) (pgs_cons (pg_name (i := 8) sc_law_table.nd rfl (.inr rfl)) pgs_nil))))
      (pss_one (ps_ret (pe_callTy (cl_tupleK (K := K) rfl) (by rfl) T.b_tuple (by decide +kernel) (pa_cons (pe_lc (own := [("_law_word_here", 6)]) (g := (gName 6)) (tt := tYes) rfl sc_law_table.nd (pi_listK (K := K) rfl (pv 5)) (blkOk_by (N := N_law_table) (sc := defScope s_law_table) (own := [("_law_word_here", 6)]) (by decide +kernel)) (fun _ _ _ _ _ => (pg_name (i := 6) sc_law_table.nd rfl (.inl rfl))) (fun _ _ _ _ _ => pts_nil) (fun _ _ _ _ _ => (pe_op op_mod (pe_op op_add (pe_ix (ix_tupK (K := K) rfl) (pv 6) (pv 7) (fun _ _ => rfl)) (pv 8)) (pv 1)))) pa_nil))))) pss_nil)
      (pss_cons (ps_if (PW.pt (pw_and (pt_cmpR op_eq (pv 4) pe_int (nomark _)) (pw_and1 (pt_cmpR op_gt (pv 2) pe_int (nomark _))))) (pss_cons (ps_set (i := 9) sc_law_table.nd rfl (Or.inr rfl) (pe_callTy (cl_tupleK (K := K) rfl) (by rfl) T.b_tuple (by decide +kernel) (pa_cons (pe_lc (own := [("_law_k", 10)]) (g := (gName 10)) (tt := tYes) rfl sc_law_table.nd (pi_range1 rfl T.b_range (pa_cons (pe_op op_fdiv (pv 3) (pv 1)) pa_nil)) (blkOk_by (N := N_law_table) (sc := defScope s_law_table) (own := [("_law_k", 10)]) (by decide +kernel)) (fun _ _ _ _ _ => (pg_name (i := 10) sc_law_table.nd rfl (.inl rfl))) (fun _ _ _ _ _ => pts_nil) (fun _ _ _ _ _ => (pe_c (ok_law_take T) hr (by decide) rfl (pa_cons (pv 0) (pa_cons (pv 1) pa_nil))))) pa_nil)))
      (pss_one (ps_ret (pe_callTy (cl_tupleK (K := K) rfl) (by rfl) T.b_tuple (by decide +kernel) (pa_cons (pe_lc (own := [("_law_word_here", 6)]) (g := (gName 6)) (tt := tYes) rfl sc_law_table.nd (pi_listK (K := K) rfl (pv 5)) (blkOk_by (N := N_law_table) (sc := defScope s_law_table) (own := [("_law_word_here", 6)]) (by decide +kernel)) (fun _ _ _ _ _ => (pg_name (i := 6) sc_law_table.nd rfl (.inl rfl))) (fun _ _ _ _ _ => pts_nil) (fun _ _ _ _ _ => (pe_op op_mod (pe_op op_add (pe_ix (ix_tupK (K := K) rfl) (pv 6) pe_int (fun _ _ => rfl)) (pe_ix (ix_tupK (K := K) rfl) (pv 9) (pe_c (ok_law_number T) hr (by decide) rfl (pa_cons (pv 1) (pa_cons (pe_slice (sl_tupK (K := K) rfl) (pv 6) (po_some pe_int) po_none) pa_nil))) (fun _ _ => rfl))) (pv 1)))) pa_nil))))) pss_nil)
      (pss_one (ps_ret (pe_callTy (cl_tupleK (K := K) rfl) (by rfl) T.b_tuple (by decide +kernel) (pa_cons (pe_lc (own := [("_law_k", 10)]) (g := (gName 10)) (tt := tYes) rfl sc_law_table.nd (pi_range1 rfl T.b_range (pa_cons (pv 3) pa_nil)) (blkOk_by (N := N_law_table) (sc := defScope s_law_table) (own := [("_law_k", 10)]) (by decide +kernel)) (fun _ _ _ _ _ => (pg_name (i := 10) sc_law_table.nd rfl (.inl rfl))) (fun _ _ _ _ _ => pts_nil) (fun _ _ _ _ _ => (pe_c (ok_law_take T) hr (by decide) rfl (pa_cons (pv 0) (pa_cons (pv 1) pa_nil))))) pa_nil))))))))), ?_⟩)
  · obtain ⟨a, al, ac, q, l, rfl, _⟩ := h
    rfl
  · obtain ⟨a, al, ac, q, l, rfl, dr, hq, hl1, hl, k⟩ := h
    have hq0 : 0 < q := by omega
    have hps : q ^ l ≤ 1000 := Nat.le_trans (Nat.pow_le_pow_left (show q ≤ 3 by omega) l) (Nat.le_trans (Nat.pow_le_pow_right (by decide) hl) (by decide))
    have hpp : 0 < q ^ l := Nat.pow_pos hq0
    walk_at "wl"
    refine ⟨q, l, rfl, by omega, by omega, ?_⟩
    walk_at "wl"
    refine ⟨a, al, ac, 5, rfl, dr, by decide, by decide, fun way H1 sd1 dr1 hway => ?_⟩
    walk_at "wl"
    have dr2 := dr1
    have sd2 := sd1
    refine ⟨q, l, rfl, hq, by omega, hps, fun v3 H3 s3 h3 => ?_⟩
    have dr3 := dr2.same s3
    have sd3 := sd2.trans (SameD.of s3)
    obtain ⟨b, xs, rfl, hb, hal⟩ := id h3
    have hbne := dr3.words_ne h3 (fun z => by have := allWords_length q l; rw [z] at this; simp at this; omega)
    have hxl : xs.length = q ^ l := by rw [hal.1, allWords_length]
    walk_at "wl"
    refine w_iteD (fun hw0 => ?_) (fun hw0 => ?_)
    · walk_at "wl"
      refine lc_lst (RK q) mono_k firm_k (fun _ => ()) hb (by omega) (fun _ => rfl) (fun i x H4 hi hx s4 A hA => ?_) (fun la ys H4 hla s4 e4 al4 => ?_)
      · obtain ⟨p, rfl, hp⟩ := hal.2 i x _ hx (allWords_at (by omega))
        walk_at "wl"
        refine ⟨p, (wordOf q l i).map fun (n : Nat) => (n : Int), rfl, sqT (by rw [s4 _ _ hp, List.map_map]; rfl), ?_⟩
        walk_at "wl"
        exact hA _ _ (fun _ _ h => h) (mod_nat hq0)
      · obtain ⟨t, rfl, hkt, htl⟩ := rk_choose al4
        walk_at "wl"
        rename_i p5 H5 s5 e5
        exact k _ t _ (sd3.trans (SameD.of (s4.trans s5))) (dr3.same (s4.trans s5)) ⟨p5, rfl, e5⟩ hkt (by rw [htl, List.length_map, List.length_range, hxl])
    · walk_at "wl"
      refine w_iteD (fun hw1 => ?_) (fun hw1 => ?_)
      · walk_at "wl"
        refine ⟨a, al, ac, l, rfl, dr3, by omega, by omega, fun spot H4 sd4 dr4 hspot => ?_⟩
        walk_at "wl"
        refine ⟨a, al, ac, q, rfl, dr4, by omega, by omega, fun added H5 sd5 dr5 hadded => ?_⟩
        walk_at "wl"
        rename_i p6 H6 s6 e6
        have sd36 := (sd4.trans sd5).trans (SameD.of s6)
        have dr6 := dr5.same s6
        obtain ⟨_, xs6, eb, hb6, hal6⟩ := sd_words dr3 sd36 hbne h3
        cases eb
        have hxl6 : xs6.length = q ^ l := by rw [hal6.1, allWords_length]
        walk_at "wl"
        refine lc_lst (RK q) mono_k firm_k (fun _ => ()) hb6 (by omega) (fun _ => rfl) (fun i x H7 hi hx s7 A hA => ?_) (fun la ys H7 hla s7 e7 al7 => ?_)
        · obtain ⟨p, rfl, hp⟩ := hal6.2 i x _ hx (allWords_at (by omega))
          walk_at "wl"
          refine w_ixT spot rfl (s7 _ _ hp) (nV_get (by rw [wordOf_length]; exact hspot)) ?_
          walk_at "wl"
          exact hA _ _ (fun _ _ h => h) (mod_nat hq0)
        · obtain ⟨t, rfl, hkt, htl⟩ := rk_choose al7
          walk_at "wl"
          rename_i p8 H8 s8 e8
          exact k _ t _ ((sd3.trans sd36).trans (SameD.of (s7.trans s8))) (dr6.same (s7.trans s8)) ⟨p8, rfl, e8⟩ hkt (by rw [htl, List.length_map, List.length_range, hxl6])
      · walk_at "wl"
        refine w_iteD (fun hw2 => ?_) (fun hw2 => ?_)
        · walk_at "wl"
          refine w_iteD (fun hl2 => ?_) (fun hl2 => ?_)
          · have hdv : q ^ l / q = q ^ (l - 1) := by
              have e : q ^ l = q ^ (l - 1) * q := by rw [← Nat.pow_succ]; congr 1; omega
              rw [e, Nat.mul_div_cancel _ hq0]
            walk_at "wl"
            refine w_rngAt (q ^ l / q) (by rw [Int.natCast_ediv]) (Nat.lt_of_le_of_lt (Nat.div_le_self _ _) (by omega)) ?_
            refine lc_draw (fun x => ∃ k, x = nV k ∧ k < q) dr3 (Nat.lt_of_le_of_lt (Nat.div_le_self _ _) (by omega)) (fun _ => rfl) (fun i H4 hi sd4 dr4 A hA => ?_) (fun la ys H4 hla sd4 dr4 e4 hyl hC => ?_)
            · walk_at "wl"
              exact ⟨a, al, ac, q, rfl, dr4, hq0, by omega, fun kk H5 sd5 dr5 hkk => hA _ _ sd5 dr5 ⟨kk, rfl, hkk⟩⟩
            · obtain ⟨t, rfl, hkt⟩ := kinds_choose _ hC
              rw [List.length_map, hdv] at hyl
              walk_at "wl"
              rename_i p5 H5 s5 e5
              have sd35 := sd4.trans (SameD.of s5)
              have dr5 := dr4.same s5
              obtain ⟨_, xs6, eb, hb6, hal6⟩ := sd_words dr3 sd35 hbne h3
              cases eb
              have hxl6 : xs6.length = q ^ l := by rw [hal6.1, allWords_length]
              walk_at "wl"
              refine lc_lst (RK q) mono_k firm_k (fun _ => ()) hb6 (by omega) (fun _ => rfl) (fun i x H7 hi hx s7 A hA => ?_) (fun la ys H7 hla s7 e7 al7 => ?_)
              · obtain ⟨p, rfl, hp⟩ := hal6.2 i x _ hx (allWords_at (by omega))
                have wlen := wordOf_length q l i
                have wk := wordOf_kinds hq0 l i
                generalize wordOf q l i = wd at *
                walk_at "wl"
                refine w_ixT 0 rfl (s7 _ _ hp) (nV_get (by omega)) ?_
                walk_at "wl"
                refine w_slFrom 1 rfl (s7 _ _ hp) fun p8 H8 s8 e8 => ?_
                walk_at "wl"
                have wk1 : Kinds q (wd.drop 1) := fun x hx => wk x (List.mem_of_mem_drop hx)
                refine ⟨q, _, wd.drop 1, rfl, ⟨p8, rfl, by rw [e8, List.map_drop]⟩, by omega, ?_⟩
                refine w_ixT (num q (wd.drop 1)) rfl ((s7.trans s8) _ _ e5) (nV_get ?_) ?_
                · rw [hyl]
                  have := num_lt hq0 wk1
                  rw [List.length_drop, wlen] at this
                  exact this
                walk_at "wl"
                exact hA _ _ s8 (mod_nat hq0)
              · obtain ⟨t2, rfl, hkt2, htl2⟩ := rk_choose al7
                walk_at "wl"
                rename_i p8 H8 s8 e8
                exact k _ t2 _ ((sd3.trans sd35).trans (SameD.of (s7.trans s8))) (dr5.same (s7.trans s8)) ⟨p8, rfl, e8⟩ hkt2 (by rw [htl2, List.length_map, List.length_range, hxl6])
          · walk_at "wl"
            refine w_rngAt (q ^ l) rfl (by omega) ?_
            refine lc_draw (fun x => ∃ k, x = nV k ∧ k < q) dr3 (by omega) (fun _ => rfl) (fun i H4 hi sd4 dr4 A hA => ?_) (fun la ys H4 hla sd4 dr4 e4 hyl hC => ?_)
            · walk_at "wl"
              exact ⟨a, al, ac, q, rfl, dr4, hq0, by omega, fun kk H5 sd5 dr5 hkk => hA _ _ sd5 dr5 ⟨kk, rfl, hkk⟩⟩
            · obtain ⟨t, rfl, hkt⟩ := kinds_choose _ hC
              rw [List.length_map] at hyl
              walk_at "wl"
              rename_i p5 H5 s5 e5
              exact k _ t _ ((sd3.trans sd4).trans (SameD.of s5)) (dr4.same s5) ⟨p5, rfl, e5⟩ hkt hyl
        · walk_at "wl"
          refine w_rngAt (q ^ l) rfl (by omega) ?_
          refine lc_draw (fun x => ∃ k, x = nV k ∧ k < q) dr3 (by omega) (fun _ => rfl) (fun i H4 hi sd4 dr4 A hA => ?_) (fun la ys H4 hla sd4 dr4 e4 hyl hC => ?_)
          · walk_at "wl"
            exact ⟨a, al, ac, q, rfl, dr4, hq0, by omega, fun kk H5 sd5 dr5 hkk => hA _ _ sd5 dr5 ⟨kk, rfl, hkk⟩⟩
          · obtain ⟨t, rfl, hkt⟩ := kinds_choose _ hC
            rw [List.length_map] at hyl
            walk_at "wl"
            rename_i p5 H5 s5 e5
            exact k _ t _ ((sd3.trans sd4).trans (SameD.of s5)) (dr4.same s5) ⟨p5, rfl, e5⟩ hkt hyl
/-- what a drawn model keeps -/
structure OkL (r : Ru) (m : Nat) : Prop where
  ok : r.Ok
  q2 : r.q = 2 → r.w ≤ m
  q3 : r.q = 3 → r.w ≤ 2
theorem ok_intro {q : Nat} {f : Int} {l m : Nat} {t : List Nat} (hq : q = 2 ∨ q = 3) (h1 : 1 ≤ l) (h2 : q = 2 → l ≤ m) (hm : m ≤ 4) (h3 : q = 3 → l ≤ 2) (hf : -2 ≤ f ∧ f ≤ 1) (hl : t.length = q ^ l) (hk : Kinds q t) : OkL ⟨q, f, l, t⟩ m := by
  refine ⟨⟨hq, h1, ?_, hl, hk, by show -40 ≤ f; omega, ?_⟩, h2, h3⟩
  · show q ^ (l - 1) ≤ 9
    rcases hq with e | e
    · have := h2 e
      subst e
      exact Nat.le_trans (Nat.pow_le_pow_right (by decide) (show l - 1 ≤ 3 by omega)) (by decide)
    · have := h3 e
      subst e
      exact Nat.le_trans (Nat.pow_le_pow_right (by decide) (show l - 1 ≤ 1 by omega)) (by decide)
  · show f + (l : Int) - 1 ≤ 40
    rcases hq with e | e
    · have := h2 e
      omega
    · have := h3 e
      omega
abbrev sp_law_model : Sp := fun vs H Q _ => ∃ (a al ac : Addr), vs = [.ref a, .int 3] ∧ DrAt H a al ac ∧ ∀ v r H', SameD a al H H' → DrAt H' a al ac → RM H' v r → OkL r 3 → Q v H'
theorem ok_law_model (T : Txt K mg) : Cal P w K mg base 4 "_law_model" sp_law_model [] := by
  refine cal_of T.f_law_model T.g_law_model rfl rfl sc_law_model (fun _ _ _ _ _ _ us hl => match us, hl with | [_, _], _ => rfl) (fun vs H Q E h => ?_) (fun cdv A outer s H vs Q E hr h => ⟨_, (pss_cons (ps_set (i := 2) sc_law_model.nd rfl (Or.inl rfl) (pe_c (ok_law_pick T) hr (by decide) rfl (pa_cons (pv 0) (pa_cons (pe_lst (pa_cons pe_int (pa_cons pe_int (pa_cons pe_int (pa_cons pe_int pa_nil))))) pa_nil))))
      (pss_cons (ps_set (i := 3) sc_law_model.nd rfl (Or.inl rfl) (pe_op op_add pe_int (pe_c (ok_law_take T) hr (by decide) rfl (pa_cons (pv 0) (pa_cons (pe_ifExp (pt_cmpR op_eq (pv 2) pe_int (nomark _)) (pv 1) (pe_callB (cl_max2 rfl) (by rfl) T.b_max (by decide +kernel) (pa_cons pe_int (pa_cons (pe_op op_sub (pv 1) pe_int) pa_nil)))) pa_nil)))))
      (pss_one (ps_ret (pe_tup (pa_cons (pv 2) (pa_cons (pe_c (ok_law_pick T) hr (by decide) rfl (pa_cons (pv 0) (pa_cons (pe_lst (pa_cons pe_int (pa_cons pe_int (pa_cons (pe_un un_neg pe_int) (pa_cons (pe_un un_neg pe_int) (pa_cons pe_int (pa_cons (pe_un un_neg pe_int) pa_nil))))))) pa_nil))) (pa_cons (pv 3) (pa_cons (pe_c (ok_law_table T) hr (by decide) rfl (pa_cons (pv 0) (pa_cons (pv 2) (pa_cons (pv 3) pa_nil)))) pa_nil))))))))), ?_⟩)
  · obtain ⟨a, al, ac, rfl, _⟩ := h
    rfl
  · obtain ⟨a, al, ac, rfl, dr, k⟩ := h
    walk_at "wl"
    rename_i p1 H1 hp1 s1 e1
    have dr1 := dr.same s1
    have n1 := dr.none_ne hp1
    refine ⟨a, al, ac, p1, _, rfl, dr1, e1, n1.2, by decide, by decide, fun i x H2 sd2 dr2 hx => ?_⟩
    have hq : ∃ q : Nat, x = nV q ∧ (q = 2 ∨ q = 3) := by
      match i, hx with
      | 0, hx => cases hx; exact ⟨2, rfl, .inl rfl⟩
      | 1, hx => cases hx; exact ⟨2, rfl, .inl rfl⟩
      | 2, hx => cases hx; exact ⟨2, rfl, .inl rfl⟩
      | 3, hx => cases hx; exact ⟨3, rfl, .inr rfl⟩
    obtain ⟨q, rfl, hq⟩ := hq
    have sdA := (SameD.of (a := a) (al := al) s1).trans sd2
    walk_at "wl"
    refine w_if_int (((if q = 2 then 3 else 2 : Nat) : Nat) : Int) (fun Q' hQ' => ?_) (fun H3 s3 => ?_)
    · refine w_iteD (fun h => ?_) (fun h => ?_)
      · walk_at "wl"
        have e : q = 2 := by omega
        rw [if_pos e] at hQ'
        exact hQ' _ (fun _ _ h => h)
      · walk_at "wl"
        have e : ¬ q = 2 := by omega
        rw [if_neg e] at hQ'
        exact hQ' _ (fun _ _ h => h)
    have hw : (if q = 2 then 3 else 2) ≤ 3 ∧ 0 < (if q = 2 then 3 else 2) := by split <;> omega
    have hw3 : q = 3 → (if q = 2 then 3 else 2) = 2 := fun e => if_neg (by omega)
    generalize (if q = 2 then 3 else 2) = M at *
    walk_at "wl"
    refine ⟨a, al, ac, M, rfl, dr2.same s3, hw.2, by omega, fun wd H4 sd4 dr4 hwd => ?_⟩
    have sd14 := (sdA.trans (SameD.of s3)).trans sd4
    walk_at "wl"
    rename_i p5 H5 hp5 s5 e5
    have dr5 := dr4.same s5
    have n5 := dr4.none_ne hp5
    refine ⟨a, al, ac, p5, _, rfl, dr5, e5, n5.2, by decide, by decide, fun j y H6 sd6 dr6 hy => ?_⟩
    have hf : ∃ f : Int, y = .int f ∧ -2 ≤ f ∧ f ≤ 1 := by
      match j, hy with
      | 0, hy => cases hy; exact ⟨_, rfl, by decide, by decide⟩
      | 1, hy => cases hy; exact ⟨_, rfl, by decide, by decide⟩
      | 2, hy => cases hy; exact ⟨_, rfl, by decide, by decide⟩
      | 3, hy => cases hy; exact ⟨_, rfl, by decide, by decide⟩
      | 4, hy => cases hy; exact ⟨_, rfl, by decide, by decide⟩
      | 5, hy => cases hy; exact ⟨_, rfl, by decide, by decide⟩
    obtain ⟨f, rfl, hf1, hf2⟩ := hf
    walk_at "wl"
    refine ⟨a, al, ac, q, 1 + wd, by rw [Int.natCast_add]; rfl, dr6, hq, by omega, by omega, fun v t H7 sd7 dr7 hW hkt htl => ?_⟩
    obtain ⟨tb, rfl, htb⟩ := hW
    walk_at "wl"
    rename_i p8 H8 s8 e8
    refine k _ ⟨q, f, 1 + wd, t⟩ _ (((sd14.trans (SameD.of s5)).trans sd6).trans (sd7.trans (SameD.of s8))) (dr7.same s8) ⟨p8, tb, rfl, by rw [e8]; rfl, s8 _ _ htb⟩ (ok_intro hq (by omega) (fun e => by omega) (by decide) (fun e => by have := hw3 e; omega) ⟨hf1, hf2⟩ htl hkt)
/-- the models that people write -/
def known : List Ru := [⟨2, -1, 3, [0, 1, 0, 1, 1, 0, 1, 0]⟩, ⟨2, 0, 2, [0, 1, 1, 0]⟩, ⟨2, 0, 2, [0, 0, 0, 1]⟩, ⟨2, 0, 2, [0, 1, 1, 1]⟩, ⟨2, -1, 3, [0, 0, 0, 1, 1, 1, 0, 1]⟩, ⟨2, -1, 3, [0, 1, 1, 1, 0, 1, 1, 0]⟩,
  ⟨2, 1, 1, [0, 1]⟩, ⟨3, 0, 2, [0, 1, 2, 1, 2, 0, 2, 0, 1]⟩, ⟨3, 0, 1, [0, 2, 1]⟩, ⟨2, -1, 3, [0, 0, 1, 1, 0, 0, 1, 1]⟩, ⟨2, -1, 4, [0, 0, 0, 0, 1, 1, 0, 1, 0, 0, 0, 0, 1, 1, 1, 1]⟩, ⟨2, 0, 1, [0, 0]⟩]
theorem known_ok : ∀ r ∈ known, OkL r 4 := by
  intro r hr
  have h : (r.q = 2 ∨ r.q = 3) ∧ 1 ≤ r.w ∧ (r.q = 2 → r.w ≤ 4) ∧ (r.q = 3 → r.w ≤ 2) ∧ (-2 ≤ r.f ∧ r.f ≤ 1) ∧ r.t.length = r.q ^ r.w ∧ (∀ x ∈ r.t, x < r.q) := by
    revert r
    unfold known
    intro r hr
    simp only [List.mem_cons, List.not_mem_nil, or_false] at hr
    rcases hr with rfl | rfl | rfl | rfl | rfl | rfl | rfl | rfl | rfl | rfl | rfl | rfl <;> decide
  obtain ⟨h1, h2, h3, h4, h5, h6, h7⟩ := h
  exact ok_intro h1 h2 h3 (Nat.le_refl _) h4 h5 h6 h7
abbrev sp_law_known : Sp := fun vs H Q _ => ∃ (a al ac : Addr), vs = [.ref a] ∧ DrAt H a al ac ∧ ∀ v r H', SameD a al H H' → DrAt H' a al ac → RM H' v r → OkL r 4 → Q v H'
theorem all2_cat {α β : Type} {r : α → β → Prop} {xs ys : List α} {ds es : List β} (h : All2 r xs ds) (h' : All2 r ys es) : All2 r (xs ++ ys) (ds ++ es) := h.append h'
theorem ok_law_known (T : Txt K mg) : Cal P w K mg base 4 "_law_known" sp_law_known [] := by
  refine cal_of T.f_law_known T.g_law_known rfl rfl sc_law_known (fun _ _ _ _ _ _ us hl => match us, hl with | [_], _ => rfl) (fun vs H Q E h => ?_) (fun cdv A outer s H vs Q E hr h => ⟨_, (pss_cons (ps_set (i := 1) sc_law_known.nd rfl (Or.inl rfl) (pe_lst (pa_cons (pe_tup (pa_cons pe_int (pa_cons (pe_un un_neg pe_int) (pa_cons pe_int (pa_cons (pe_tup (pa_cons pe_int (pa_cons pe_int (pa_cons pe_int (pa_cons pe_int (pa_cons pe_int (pa_cons pe_int (pa_cons pe_int (pa_cons pe_int pa_nil))))))))) pa_nil))))) (pa_cons (pe_tup (pa_cons pe_int (pa_cons pe_int (pa_cons pe_int (pa_cons (pe_tup (pa_cons pe_int (pa_cons pe_int (pa_cons pe_int (pa_cons pe_int pa_nil))))) pa_nil))))) (pa_cons (pe_tup (pa_cons pe_int (pa_cons pe_int (pa_cons pe_int (pa_cons (pe_tup (pa_cons pe_int (pa_cons pe_int (pa_cons pe_int (pa_cons pe_int pa_nil))))) pa_nil))))) pa_nil)))))
      (pss_cons (ps_set (i := 1) sc_law_known.nd rfl (Or.inl rfl) (pe_op op_cat (pv 1) (pe_lst (pa_cons (pe_tup (pa_cons pe_int (pa_cons pe_int (pa_cons pe_int (pa_cons (pe_tup (pa_cons pe_int (pa_cons pe_int (pa_cons pe_int (pa_cons pe_int pa_nil))))) pa_nil))))) pa_nil))))
      (pss_cons (ps_set (i := 1) sc_law_known.nd rfl (Or.inl rfl) (pe_op op_cat (pv 1) (pe_lst (pa_cons (pe_tup (pa_cons pe_int (pa_cons (pe_un un_neg pe_int) (pa_cons pe_int (pa_cons (pe_tup (pa_cons pe_int (pa_cons pe_int (pa_cons pe_int (pa_cons pe_int (pa_cons pe_int (pa_cons pe_int (pa_cons pe_int (pa_cons pe_int pa_nil))))))))) pa_nil))))) (pa_cons (pe_tup (pa_cons pe_int (pa_cons (pe_un un_neg pe_int) (pa_cons pe_int (pa_cons (pe_tup (pa_cons pe_int (pa_cons pe_int (pa_cons pe_int (pa_cons pe_int (pa_cons pe_int (pa_cons pe_int (pa_cons pe_int (pa_cons pe_int pa_nil))))))))) pa_nil))))) (pa_cons (pe_tup (pa_cons pe_int (pa_cons pe_int (pa_cons pe_int (pa_cons (pe_tup (pa_cons pe_int (pa_cons pe_int pa_nil))) pa_nil))))) pa_nil))))))
      (pss_cons (ps_set (i := 1) sc_law_known.nd rfl (Or.inl rfl) (pe_op op_cat (pv 1) (pe_lst (pa_cons (pe_tup (pa_cons pe_int (pa_cons pe_int (pa_cons pe_int (pa_cons (pe_tup (pa_cons pe_int (pa_cons pe_int (pa_cons pe_int (pa_cons pe_int (pa_cons pe_int (pa_cons pe_int (pa_cons pe_int (pa_cons pe_int (pa_cons pe_int pa_nil)))))))))) pa_nil))))) (pa_cons (pe_tup (pa_cons pe_int (pa_cons pe_int (pa_cons pe_int (pa_cons (pe_tup (pa_cons pe_int (pa_cons pe_int (pa_cons pe_int pa_nil)))) pa_nil))))) (pa_cons (pe_tup (pa_cons pe_int (pa_cons (pe_un un_neg pe_int) (pa_cons pe_int (pa_cons (pe_tup (pa_cons pe_int (pa_cons pe_int (pa_cons pe_int (pa_cons pe_int (pa_cons pe_int (pa_cons pe_int (pa_cons pe_int (pa_cons pe_int pa_nil))))))))) pa_nil))))) pa_nil))))))
      (pss_cons (ps_set (i := 1) sc_law_known.nd rfl (Or.inl rfl) (pe_op op_cat (pv 1) (pe_lst (pa_cons (pe_tup (pa_cons pe_int (pa_cons (pe_un un_neg pe_int) (pa_cons pe_int (pa_cons (pe_tup (pa_cons pe_int (pa_cons pe_int (pa_cons pe_int (pa_cons pe_int (pa_cons pe_int (pa_cons pe_int (pa_cons pe_int (pa_cons pe_int (pa_cons pe_int (pa_cons pe_int (pa_cons pe_int (pa_cons pe_int (pa_cons pe_int (pa_cons pe_int (pa_cons pe_int (pa_cons pe_int pa_nil))))))))))))))))) pa_nil))))) (pa_cons (pe_tup (pa_cons pe_int (pa_cons pe_int (pa_cons pe_int (pa_cons (pe_tup (pa_cons pe_int (pa_cons pe_int pa_nil))) pa_nil))))) pa_nil)))))
      (pss_one (ps_ret (pe_c (ok_law_pick T) hr (by decide) rfl (pa_cons (pv 0) (pa_cons (pv 1) pa_nil)))))))))), ?_⟩)
  · obtain ⟨a, al, ac, rfl, _⟩ := h
    rfl
  · obtain ⟨a, al, ac, rfl, dr, k⟩ := h
    walk_at "wl"
    refine w_cat (by walk_at "hp") (by walk_at "hp") (by simp) fun D1 K1 hD1 sk1 ek1 => ?_
    walk_at "wl"
    refine w_cat (by walk_at "hp") (by walk_at "hp") (by simp) fun D2 K2 hD2 sk2 ek2 => ?_
    walk_at "wl"
    refine w_cat (by walk_at "hp") (by walk_at "hp") (by simp) fun D3 K3 hD3 sk3 ek3 => ?_
    walk_at "wl"
    refine w_cat (by walk_at "hp") (by walk_at "hp") (by simp) fun D4 K4 hD4 sk4 ek4 => ?_
    obtain ⟨_, ls0, _, _, _, _, _, _, _, _, _, g7, _⟩ := id dr.ex
    have n4 : D4 ≠ al := by
      refine Ne.symm (ne_of_none (o := HO.lst (ls0.map V.int)) ?_ hD4)
      walk_at "hp"
    have hall : ∃ xs, K4 D4 = some (.lst xs) ∧ All2 (RM K4) xs known := ⟨_, ek4, All2.cons (r := RM K4) ⟨_, _, rfl, by walk_at "hp", by walk_at "hp"⟩ (All2.cons (r := RM K4) ⟨_, _, rfl, by walk_at "hp", by walk_at "hp"⟩ (All2.cons (r := RM K4) ⟨_, _, rfl, by walk_at "hp", by walk_at "hp"⟩ (All2.cons (r := RM K4) ⟨_, _, rfl, by walk_at "hp", by walk_at "hp"⟩ (All2.cons (r := RM K4) ⟨_, _, rfl, by walk_at "hp", by walk_at "hp"⟩ (All2.cons (r := RM K4) ⟨_, _, rfl, by walk_at "hp", by walk_at "hp"⟩ (All2.cons (r := RM K4) ⟨_, _, rfl, by walk_at "hp", by walk_at "hp"⟩ (All2.cons (r := RM K4) ⟨_, _, rfl, by walk_at "hp", by walk_at "hp"⟩ (All2.cons (r := RM K4) ⟨_, _, rfl, by walk_at "hp", by walk_at "hp"⟩ (All2.cons (r := RM K4) ⟨_, _, rfl, by walk_at "hp", by walk_at "hp"⟩ (All2.cons (r := RM K4) ⟨_, _, rfl, by walk_at "hp", by walk_at "hp"⟩ (All2.cons (r := RM K4) ⟨_, _, rfl, by walk_at "hp", by walk_at "hp"⟩ (All2.nil))))))))))))⟩
    obtain ⟨xs, ex, hall⟩ := hall
    have s04 : Same H K4 := by walk_at "sm"
    have dr4 := dr.same s04
    have hxl : xs.length = 12 := hall.1
    walk_at "wl"
    refine ⟨a, al, ac, D4, xs, rfl, dr4, ex, n4, by omega, by omega, fun i x H2 sd2 dr2 hx => ?_⟩
    obtain ⟨r, hr, hM⟩ := hall.at' hx
    exact k x r H2 ((SameD.of s04).trans sd2) dr2 (sd_M dr4 sd2 hM) (known_ok r (List.mem_of_getElem? hr))
abbrev sp_law_any_model : Sp := fun vs H Q _ => ∃ (a al ac : Addr), vs = [.ref a, .int 3] ∧ DrAt H a al ac ∧ ∀ v r H', SameD a al H H' → DrAt H' a al ac → RM H' v r → OkL r 3 → Q v H'
theorem ok_law_any_model (T : Txt K mg) : Cal P w K mg base 5 "_law_any_model" sp_law_any_model [] := by
  refine cal_of T.f_law_any_model T.g_law_any_model rfl rfl sc_law_any_model (fun _ _ _ _ _ _ us hl => match us, hl with | [_, _], _ => rfl) (fun vs H Q E h => ?_) (fun cdv A outer s H vs Q E hr h => ⟨_, (pss_cons (ps_set (i := 2) sc_law_any_model.nd rfl (Or.inl rfl) (pe_c (ok_law_known T) hr (by decide) rfl (pa_cons (pv 0) pa_nil)))
      (pss_one (ps_ret (pe_ifExp (PW.pt (pw_and (pt_cmpR op_eq (pe_c (ok_law_take T) hr (by decide) rfl (pa_cons (pv 0) (pa_cons pe_int pa_nil))) pe_int (nomark _)) (pw_and1 (pt_cmpR op_le (pe_ix (ix_tupK (K := K) rfl) (pv 2) pe_int (fun _ _ => rfl)) (pv 1) (nomark _))))) (pv 2) (pe_c (ok_law_model T) hr (by decide) rfl (pa_cons (pv 0) (pa_cons (pv 1) pa_nil))))))), ?_⟩)
  · obtain ⟨a, al, ac, rfl, _⟩ := h
    rfl
  · obtain ⟨a, al, ac, rfl, dr, k⟩ := h
    walk_at "wl"
    refine ⟨a, al, ac, rfl, dr, fun v r H1 sd1 dr1 hM hok => ?_⟩
    walk_at "wl"
    refine ⟨a, al, ac, 3, rfl, dr1, by decide, by decide, fun kk H2 sd2 dr2 hkk => ?_⟩
    have hM2 := sd_M dr1 sd2 hM
    obtain ⟨p, b, rfl, hp, hb⟩ := id hM2
    have rest : sp_law_model [.ref a, .int 3] H2 Q C8.E0 := ⟨a, al, ac, rfl, dr2, fun v' r' H' sd' dr' hM' hok' => k v' r' H' ((sd1.trans sd2).trans sd') dr' hM' hok'⟩
    walk_at "wl"
    refine w_iteD (fun h0 => ?_) (fun h0 => ?_)
    · walk_at "wl"
      refine w_ixT 2 rfl hp rfl ?_
      walk_at "wl"
      refine w_iteD (fun h3 => ?_) (fun h3 => ?_)
      · walk_at "wl"
        exact k _ r H2 (sd1.trans sd2) dr2 hM2 ⟨hok.ok, fun _ => by omega, hok.q3⟩
      · walk_at "wl"
        exact rest
    · walk_at "wl"
      exact rest
abbrev sp_law_gauge : Sp := fun vs H Q _ => ∃ (a al ac : Addr) (q : Nat), vs = [.ref a, .int q, .int 2] ∧ DrAt H a al ac ∧ (q = 2 ∨ q = 3) ∧ ∀ v (g : Ga) H', SameD a al H H' → DrAt H' a al ac → RG H' v g → g.Ok q → g.l ≤ 2 → (∀ x ∈ g.ws, -99 ≤ x ∧ x ≤ 99) → Q v H'
theorem ok_law_gauge (T : Txt K mg) : Cal P w K mg base 3 "_law_gauge" sp_law_gauge [] := by
  refine cal_of T.f_law_gauge T.g_law_gauge rfl rfl sc_law_gauge (fun _ _ _ _ _ _ us hl => match us, hl with | [_, _, _], _ => rfl) (fun vs H Q E h => ?_) (fun cdv A outer s H vs Q E hr h => ⟨_, (pss_cons (ps_par (i := 3) (j := 4) rfl sc_law_gauge.nd rfl rfl (by decide) rfl rfl (pa_cons (pe_op op_add pe_int (pe_c (ok_law_take T) hr (by decide) rfl (pa_cons (pv 0) (pa_cons (pv 2) pa_nil)))) (pa_cons (pe_c (ok_law_take T) hr (by decide) rfl (pa_cons (pv 0) (pa_cons pe_int pa_nil))) pa_nil)) (by rfl))
      (pss_cons (ps_set (i := 5) sc_law_gauge.nd rfl (Or.inr rfl) (pe_ix (ix_listK (K := K) rfl) (pe_lst (pa_cons pe_int (pa_cons pe_int (pa_cons pe_int (pa_cons pe_int pa_nil))))) (pv 4) (fun _ _ => rfl)))
      (pss_one (ps_ret (pe_tup (pa_cons (pv 3) (pa_cons (pe_callTy (cl_tupleK (K := K) rfl) (by rfl) T.b_tuple (by decide +kernel) (pa_cons (pe_lc (own := [("_law_k", 6)]) (g := (gName 6)) (tt := tYes) rfl sc_law_gauge.nd (pi_range1 rfl T.b_range (pa_cons (pe_c (ok_law_power T) hr (by decide) rfl (pa_cons (pv 1) (pa_cons (pv 3) pa_nil))) pa_nil)) (blkOk_by (N := N_law_gauge) (sc := defScope s_law_gauge) (own := [("_law_k", 6)]) (by decide +kernel)) (fun _ _ _ _ _ => (pg_name (i := 6) sc_law_gauge.nd rfl (.inl rfl))) (fun _ _ _ _ _ => pts_nil) (fun _ _ _ _ _ => (pe_op op_sub (pe_c (ok_law_take T) hr (by decide) rfl (pa_cons (pv 0) (pa_cons (pe_op op_add (pe_op op_mul pe_int (pv 5)) pe_int) pa_nil))) (pv 5)))) pa_nil)) pa_nil))))))), ?_⟩)
  · obtain ⟨a, al, ac, q, rfl, _⟩ := h
    rfl
  · obtain ⟨a, al, ac, q, rfl, dr, hq, k⟩ := h
    walk_at "wl"
    refine ⟨a, al, ac, 2, rfl, dr, by decide, by decide, fun sz H1 sd1 dr1 hsz => ?_⟩
    walk_at "wl"
    refine ⟨a, al, ac, 4, rfl, dr1, by decide, by decide, fun way H2 sd2 dr2 hway => ?_⟩
    walk_at "wl"
    rename_i p3 H3 hp3 s3 e3
    have hps : q ^ (1 + sz) ≤ 9 := Nat.le_trans (Nat.pow_le_pow_left (show q ≤ 3 by omega) _) (Nat.le_trans (Nat.pow_le_pow_right (by decide) (show 1 + sz ≤ 2 by omega)) (by decide))
    have hwv : ∃ wv : Nat, ([V.int 1, V.int 3, V.int 9, V.int 99] : List V)[way]? = some (nV wv) ∧ 1 ≤ wv ∧ wv ≤ 99 := by
      match way, hway with
      | 0, _ => exact ⟨1, rfl, by decide, by decide⟩
      | 1, _ => exact ⟨3, rfl, by decide, by decide⟩
      | 2, _ => exact ⟨9, rfl, by decide, by decide⟩
      | 3, _ => exact ⟨99, rfl, by decide, by decide⟩
    obtain ⟨wv, hwv, hw1, hw2⟩ := hwv
    refine w_ixL way rfl e3 hwv ?_
    walk_at "wl"
    refine ⟨q, 1 + sz, by rw [Int.natCast_add]; rfl, by omega, by omega, ?_⟩
    have dr3 := dr2.same s3
    walk_at "wl"
    refine w_rngAt (q ^ (1 + sz)) rfl (by omega) ?_
    refine lc_draw (fun x => ∃ i : Int, x = .int i ∧ (-99 ≤ i ∧ i ≤ 99)) dr3 (by omega) (fun _ => rfl) (fun i H4 hi sd4 dr4 A hA => ?_) (fun la ys H4 hla sd4 dr4 e4 hyl hC => ?_)
    · walk_at "wl"
      refine ⟨a, al, ac, 2 * wv + 1, by rw [Int.natCast_add, Int.natCast_mul]; rfl, dr4, by omega, by omega, fun kk H5 sd5 dr5 hkk => ?_⟩
      walk_at "wl"
      exact hA _ _ sd5 dr5 ⟨_, rfl, by omega, by omega⟩
    · obtain ⟨t, rfl, hwt⟩ := ints_choose _ _ hC
      rw [List.length_map] at hyl
      walk_at "wl"
      rename_i p5 H5 s5 e5 p6 H6 s6 e6
      refine k _ ⟨1 + sz, t⟩ _ ((((sd1.trans sd2).trans (SameD.of s3)).trans sd4).trans (SameD.of (s5.trans s6))) (dr4.same (s5.trans s6)) ⟨p6, p5, rfl, by rw [e6]; congr 3, s6 _ _ e5⟩ ⟨by show 1 ≤ 1 + sz; omega, hyl, by show q ^ (1 + sz) ≤ 729; omega⟩ (by show 1 + sz ≤ 2; omega) hwt
end
end WL
/-! rings are closed ways; hours are led gauges -/
namespace WL
/-! ### sums over a round -/
def sumN (f : Int → Int) (s : Nat) : Int := ((List.range s).map fun (k : Nat) => f (k : Int)).sum
theorem sumN_succ (f : Int → Int) (s : Nat) : sumN f (s + 1) = sumN f s + f s := by
  unfold sumN
  rw [List.range_succ, List.map_append, List.sum_append]
  simp
theorem sumN_congr {f h : Int → Int} (s : Nat) (e : ∀ k : Nat, k < s → f k = h k) : sumN f s = sumN h s := by
  unfold sumN
  congr 1
  refine List.map_congr_left fun k hk => e k (List.mem_range.mp hk)
theorem sumN_sub (f h : Int → Int) : ∀ s, sumN (fun k => f k - h k) s = sumN f s - sumN h s
  | 0 => rfl
  | s + 1 => by
    rw [sumN_succ, sumN_succ, sumN_succ, sumN_sub f h s]
    omega
/-- back by one cell -/
theorem sumN_back (f : Int → Int) : ∀ s, sumN (fun k => f (k - 1)) s = sumN f s + f (-1) - f ((s : Int) - 1)
  | 0 => by
    show (0 : Int) = 0 + f (-1) - f (((0 : Nat) : Int) - 1)
    have e : ((0 : Nat) : Int) - 1 = -1 := rfl
    rw [e]
    omega
  | s + 1 => by
    rw [sumN_succ, sumN_succ, sumN_back f s]
    have e : (((s + 1 : Nat) : Int) - 1) = (s : Int) := by omega
    rw [e]
    omega
theorem sumN_shift1 {f : Int → Int} {s : Nat} (hp : ∀ k, f (k + s) = f k) : sumN (fun k => f (k - 1)) s = sumN f s := by
  rw [sumN_back]
  have := hp (-1)
  rw [show (-1 : Int) + s = (s : Int) - 1 by omega] at this
  omega
theorem sumN_shiftN {f : Int → Int} {s : Nat} (hp : ∀ k, f (k + s) = f k) : ∀ m : Nat, sumN (fun k => f (k - m)) s = sumN f s
  | 0 => by
    refine sumN_congr s fun k _ => ?_
    show f ((k : Int) - ((0 : Nat) : Int)) = f k
    rw [show (k : Int) - ((0 : Nat) : Int) = k by omega]
  | m + 1 => by
    rw [← sumN_shiftN hp m, ← sumN_shift1 (f := fun k => f (k - m)) (s := s) (fun k => by
      show f (k + s - m) = f (k - m)
      rw [← hp (k - m)]
      congr 1
      omega)]
    refine sumN_congr s fun k _ => ?_
    show f _ = f _
    congr 1
    omega
theorem sumN_shift {f : Int → Int} {s : Nat} (hs : 0 < s) (hp : ∀ k, f (k + s) = f k) (m : Int) : sumN (fun k => f (k - m)) s = sumN f s := by
  have hm : ∀ (j : Nat) k, f (k + j * s) = f k := fun j => by
    induction j with
    | zero => intro k; congr 1; omega
    | succ j ih =>
      intro k
      rw [show k + ((j + 1 : Nat) : Int) * s = (k + j * s) + s by rw [Int.natCast_add, Int.add_mul]; omega, hp, ih]
  -- a shift by a number that is not negative
  obtain ⟨t, ht⟩ : ∃ t : Nat, ∀ k, f (k - m) = f (k - t) := by
    have h0 : 0 ≤ m + m.natAbs * s := by
      have : (m.natAbs : Int) * 1 ≤ (m.natAbs : Int) * s := Int.mul_le_mul_of_nonneg_left (by omega) (by omega)
      omega
    refine ⟨(m + m.natAbs * s).toNat, fun k => ?_⟩
    rw [Int.toNat_of_nonneg h0, ← hm m.natAbs (k - (m + m.natAbs * s))]
    congr 1
    omega
  rw [← sumN_shiftN hp t]
  exact sumN_congr s fun k _ => ht k
/-! ### windows -/
/-- a window of a ring from any cell -/
def winI (c : List Nat) (l : Nat) (k : Int) : List Nat := (List.range l).map fun (j : Nat) => cellAt c (k + j)
theorem winI_length (c : List Nat) (l : Nat) (k : Int) : (winI c l k).length = l := by
  unfold winI
  rw [List.length_map, List.length_range]
theorem winI_kinds {q : Nat} {c : List Nat} (hq : 0 < q) (hc : Kinds q c) (l : Nat) (k : Int) : Kinds q (winI c l k) := fun x hx => by
  unfold winI at hx
  rw [List.mem_map] at hx
  obtain ⟨j, _, rfl⟩ := hx
  exact cellAt_lt hq hc _
theorem cellAt_per (c : List Nat) (k : Int) : cellAt c (k + c.length) = cellAt c k := by
  unfold cellAt
  rw [Int.add_emod_right]
theorem winI_per (c : List Nat) (l : Nat) (k : Int) : winI c l (k + c.length) = winI c l k := by
  unfold winI
  refine List.map_congr_left fun j _ => ?_
  rw [show k + (c.length : Int) + j = (k + j) + c.length by omega, cellAt_per]
theorem winI_snoc (c : List Nat) (l : Nat) (k : Int) : winI c (l + 1) k = winI c l k ++ [cellAt c (k + l)] := by
  unfold winI
  rw [List.range_succ, List.map_append]
  rfl
theorem winI_cons (c : List Nat) (l : Nat) (k : Int) : winI c (l + 1) k = cellAt c k :: winI c l (k + 1) := by
  unfold winI
  rw [List.range_succ_eq_map, List.map_cons, List.map_map]
  congr 1
  · congr 1
    simp
  · refine List.map_congr_left fun j _ => ?_
    show cellAt c (k + ((j + 1 : Nat) : Int)) = cellAt c (k + 1 + j)
    congr 1
    omega
theorem readR_eq (q : Nat) (g : Ga) (c : List Nat) : readR q g c = sumN (fun k => g.at (num q (winI c g.l k))) c.length := rfl
/-! ### closed ways -/
section
variable {q l : Nat}
theorem goTo_num (hq : 0 < q) : ∀ (w : List Nat) (u : Nat), u < q ^ l → goTo q (q ^ l) u w = (u * q ^ w.length + num q w) % q ^ l
  | [], u, hu => by
    show u = (u * 1 + 0) % q ^ l
    rw [Nat.mul_one, Nat.add_zero, Nat.mod_eq_of_lt hu]
  | k :: w, u, hu => by
    have hn : 0 < q ^ l := Nat.pow_pos hq
    show goTo q (q ^ l) ((u * q + k) % q ^ l) w = _
    rw [goTo_num hq w _ (Nat.mod_lt _ hn), num_cons, List.length_cons, Nat.pow_succ]
    rw [Nat.add_mod, Nat.mul_mod, Nat.mod_mod, ← Nat.mul_mod, ← Nat.add_mod]
    congr 1
    rw [Nat.add_mul, Nat.mul_assoc, Nat.mul_comm q, Nat.add_assoc]
/-- the node at a cell: the window behind it -/
theorem node_step (hq : 0 < q) {c : List Nat} (hc : Kinds q c) (k : Int) : (num q (winI c l (k - l)) * q + cellAt c k) % q ^ l = num q (winI c l (k + 1 - l)) := by
  have e1 : num q (winI c l (k - l)) * q + cellAt c k = num q (winI c (l + 1) (k - l)) := by
    rw [winI_snoc, num_snoc]
    congr 2
    omega
  rw [e1, winI_cons, num_cons, winI_length, Nat.add_comm, Nat.mul_comm, Nat.add_mul_mod_self_left]
  rw [show k - (l : Int) + 1 = k + 1 - l by omega]
  refine Nat.mod_eq_of_lt ?_
  have := num_lt hq (winI_kinds hq hc l (k + 1 - l))
  rwa [winI_length] at this
theorem node_lt (hq : 0 < q) {c : List Nat} (hc : Kinds q c) (k : Int) : num q (winI c l k) < q ^ l := by
  have := num_lt hq (winI_kinds hq hc l k)
  rwa [winI_length] at this
theorem cellAt_get {c : List Nat} {i : Nat} (hi : i < c.length) : c[i]? = some (cellAt c (i : Int)) := by
  unfold cellAt
  rw [← Int.natCast_emod, Int.toNat_natCast, Nat.mod_eq_of_lt hi, List.getD_eq_getElem?_getD, List.getElem?_eq_getElem hi]
  rfl
theorem way_part (hq : 0 < q) {c : List Nat} (hc : Kinds q c) (wt : Nat → Int) : ∀ i, i ≤ c.length → goTo q (q ^ l) (num q (winI c l (0 - l))) (c.take i) = num q (winI c l ((i : Int) - l)) ∧ sumTo q (q ^ l) wt (num q (winI c l (0 - l))) (c.take i) = sumN (fun k => wt (num q (winI c (l + 1) (k - l)))) i
  | 0, _ => ⟨rfl, rfl⟩
  | i + 1, hi => by
    obtain ⟨h1, h2⟩ := way_part hq hc wt i (by omega)
    have e := cellAt_get (c := c) (show i < c.length by omega)
    rw [take_snoc e, goTo_append, sumTo_append, h1, h2, sumN_succ]
    refine ⟨?_, ?_⟩
    · show (num q (winI c l ((i : Int) - l)) * q + cellAt c i) % q ^ l = _
      rw [node_step hq hc]
      congr 3
    · show _ + (wt (num q (winI c l ((i : Int) - l)) * q + cellAt c i) + 0) = _
      rw [winI_snoc, num_snoc, Int.add_zero]
      congr 4
      congr 1
      omega
/-- a ring is a closed way -/
theorem ring_closed (hq : 0 < q) {c : List Nat} (hc : Kinds q c) : Closed q (q ^ l) (num q (winI c l (0 - l))) c := by
  refine ⟨node_lt hq hc _, hc, ?_⟩
  have h := (way_part (l := l) hq hc (fun _ => 0) c.length (Nat.le_refl _)).1
  rw [List.take_length] at h
  rw [h, show (c.length : Int) - l = (0 - l) + c.length by omega, winI_per]
theorem rep_length' (w : List Nat) (m : Nat) : (List.replicate m w).flatten.length = m * w.length := by
  rw [List.length_flatten, List.map_replicate, List.sum_replicate_nat]
/-- the node of a closed way hangs on the ring alone -/
theorem closed_node (hq : 0 < q) {u v : Nat} {c : List Nat} (h1 : 1 ≤ c.length) (hu : Closed q (q ^ l) u c) (hv : Closed q (q ^ l) v c) : u = v := by
  have e : ∀ u, Closed q (q ^ l) u c → u = num q (List.replicate l c).flatten % q ^ l := fun u hu => by
    have h := closed_rep (q := q) (n := q ^ l) u c hu.2.2 l
    rw [goTo_num hq _ _ hu.1] at h
    have hd : q ^ l ∣ u * q ^ (List.replicate l c).flatten.length := by
      refine Nat.dvd_mul_left_of_dvd (Nat.pow_dvd_pow q ?_) u
      rw [rep_length']
      exact Nat.le_mul_of_pos_right _ h1
    obtain ⟨z, hz⟩ := hd
    rw [hz, Nat.mul_add_mod] at h
    exact h.symm
  rw [e u hu, e v hv]
/-- what a closed way sums up to is the reading of its ring -/
theorem closed_sum (hq : 0 < q) {g : Ga} (hl : g.l = l + 1) {u : Nat} {c : List Nat} (h1 : 1 ≤ c.length) (hu : Closed q (q ^ l) u c) : sumTo q (q ^ l) g.at u c = readR q g c := by
  have hc := hu.2.1
  have e := closed_node hq h1 hu (ring_closed hq hc)
  have h := (way_part (l := l) hq hc g.at c.length (Nat.le_refl _)).2
  rw [List.take_length] at h
  rw [e, h, readR_eq, hl]
  exact sumN_shift (f := fun k => g.at (num q (winI c (l + 1) k))) (by omega) (fun k => by rw [winI_per]) l
end
/-! ### hours -/
theorem ga_at_map {q L : Nat} (hq : 0 < q) (F : List Nat → Int) {u : List Nat} (hu : Kinds q u) (hl : u.length = L) : (⟨L, (allWords q L).map F⟩ : Ga).at (num q u) = F u := by
  have h := num_lt hq hu
  unfold Ga.at
  rw [List.getD_eq_getElem?_getD, List.getElem?_map, allWords_at (by rw [← hl]; exact h)]
  show F (wordOf q L (num q u)) = F u
  rw [← hl, wordOf_num hq u hu]
theorem led_at {r : Ru} (o : r.Ok) (g : Ga) {u : List Nat} (hu : Kinds r.q u) (hl : u.length = g.l + r.w - 1) : (gaugeLed r g).at (num r.q u) = g.at (num r.q (stepWord r u)) :=
  ga_at_map (by have := o.q2; omega) _ hu hl
theorem cellAt_round {r : Ru} {c : List Nat} (h1 : 1 ≤ c.length) (k : Int) : cellAt (roundOf r c) k = toldK r (winI c r.w (k + r.f)) := by
  have hl : (roundOf r c).length = c.length := round_length r c
  have h0 := Int.emod_nonneg k (b := (c.length : Int)) (by omega)
  have h2 := Int.emod_lt_of_pos k (b := (c.length : Int)) (by omega)
  have hi : (k % (c.length : Int)).toNat < c.length := by omega
  unfold cellAt
  rw [hl]
  unfold roundOf
  rw [List.getD_eq_getElem?_getD, List.getElem?_map, List.getElem?_range hi]
  show toldK r ((List.range r.w).map fun (j : Nat) => cellAt c (((k % (c.length : Int)).toNat : Int) + r.f + j)) = _
  congr 1
  unfold winI
  refine List.map_congr_left fun j _ => ?_
  rw [Int.toNat_of_nonneg h0]
  unfold cellAt
  congr 2
  rw [Int.add_assoc, Int.add_assoc, Int.emod_add_emod]
theorem step_win {r : Ru} (o : r.Ok) {c : List Nat} (h1 : 1 ≤ c.length) (l : Nat) (k : Int) : stepWord r (winI c (l + r.w - 1) k) = winI (roundOf r c) l (k - r.f) := by
  have hw := o.w1
  unfold stepWord
  rw [winI_length, show l + r.w - 1 + 1 - r.w = l by omega]
  unfold winI
  refine List.map_congr_left fun i hi => ?_
  rw [List.mem_range] at hi
  rw [cellAt_round h1]
  congr 1
  refine List.ext_getElem? fun j => ?_
  rw [List.getElem?_take, List.getElem?_drop, List.getElem?_map]
  by_cases hj : j < r.w
  · rw [if_pos hj, List.getElem?_range (by omega)]
    unfold winI
    rw [List.getElem?_map, List.getElem?_range hj]
    show some (cellAt c (k + ((i + j : Nat) : Int))) = some (cellAt c (k - r.f + i + r.f + j))
    congr 2
    omega
  · rw [if_neg hj, List.getElem?_eq_none (by rw [winI_length]; omega)]
theorem read_led {r : Ru} (o : r.Ok) (g : Ga) {c : List Nat} (hc : Kinds r.q c) (h1 : 1 ≤ c.length) : readR r.q (gaugeLed r g) c = readR r.q g (roundOf r c) := by
  have hq0 : 0 < r.q := by have := o.q2; omega
  rw [readR_eq, readR_eq, round_length]
  have e : sumN (fun k => (gaugeLed r g).at (num r.q (winI c (gaugeLed r g).l k))) c.length = sumN (fun k => g.at (num r.q (winI (roundOf r c) g.l (k - r.f)))) c.length := sumN_congr _ fun k _ => by
    show (gaugeLed r g).at (num r.q (winI c (g.l + r.w - 1) k)) = _
    rw [led_at o g (winI_kinds hq0 hc _ _) (winI_length _ _ _), step_win o h1]
  rw [e]
  exact sumN_shift (f := fun k => g.at (num r.q (winI (roundOf r c) g.l k))) (by omega) (fun k => by
    have := winI_per (roundOf r c) g.l k
    rw [round_length] at this
    rw [this]) r.f
theorem later_comm (r : Ru) (c : List Nat) : ∀ h, laterN r h (roundOf r c) = roundOf r (laterN r h c)
  | 0 => rfl
  | h + 1 => by
    show roundOf r (laterN r h (roundOf r c)) = roundOf r (roundOf r (laterN r h c))
    rw [later_comm r c h]
theorem read_ledN {r : Ru} (o : r.Ok) (g : Ga) : ∀ (h : Nat) {c : List Nat}, Kinds r.q c → 1 ≤ c.length → readR r.q (ledN r h g) c = readR r.q g (laterN r h c)
  | 0, c, _, _ => rfl
  | h + 1, c, hc, h1 => by
    show readR r.q (gaugeLed r (ledN r h g)) c = readR r.q g (roundOf r (laterN r h c))
    rw [read_led o _ hc h1, read_ledN o g h (round_kinds o c) (by rw [round_length]; exact h1), later_comm]
theorem steps_comm (r : Ru) (u : List Nat) : ∀ h, stepsN r h (stepWord r u) = stepWord r (stepsN r h u)
  | 0 => rfl
  | h + 1 => by
    show stepWord r (stepsN r h (stepWord r u)) = stepWord r (stepWord r (stepsN r h u))
    rw [steps_comm r u h]
theorem ledW_eq {r : Ru} (o : r.Ok) (g : Ga) (hl : 1 ≤ g.l) : ∀ h, 1 ≤ h ∨ g.ws.length = r.q ^ g.l → ledW r g h = ledN r h g
  | 0, hh => by
    have hw : g.ws.length = r.q ^ g.l := hh.elim (fun z => by omega) id
    have hq0 : 0 < r.q := by have := o.q2; omega
    show (⟨g.l + 0 * (r.w - 1), _⟩ : Ga) = g
    have e : g.l + 0 * (r.w - 1) = g.l := by omega
    rw [e]
    cases g with
    | mk l ws =>
      congr 1
      refine List.ext_getElem? fun i => ?_
      rw [List.getElem?_map]
      by_cases hi : i < r.q ^ l
      · rw [allWords_at hi, List.getElem?_eq_getElem (by rw [show ws.length = r.q ^ l from hw]; exact hi)]
        show some ((⟨l, ws⟩ : Ga).at (num r.q (wordOf r.q l i))) = _
        rw [num_wordOf hq0 l i hi]
        unfold Ga.at
        rw [List.getD_eq_getElem?_getD, List.getElem?_eq_getElem (by rw [show ws.length = r.q ^ l from hw]; exact hi)]
        rfl
      · rw [List.getElem?_eq_none (by rw [allWords_length]; exact Nat.le_of_not_lt hi), List.getElem?_eq_none (by rw [show ws.length = r.q ^ l from hw]; exact Nat.le_of_not_lt hi)]
        rfl
  | h + 1, hh => by
    have hq0 : 0 < r.q := by have := o.q2; omega
    have hw := o.w1
    have key : ∀ h, (ledN r (h + 1) g) = ⟨g.l + (h + 1) * (r.w - 1), (allWords r.q (g.l + (h + 1) * (r.w - 1))).map fun u => g.at (num r.q (stepsN r (h + 1) u))⟩ := by
      intro h
      induction h with
      | zero =>
        show gaugeLed r g = _
        unfold gaugeLed
        rw [show g.l + r.w - 1 = g.l + (0 + 1) * (r.w - 1) by omega]
        rfl
      | succ h ih =>
        show gaugeLed r (ledN r (h + 1) g) = _
        rw [ih]
        unfold gaugeLed
        have el : g.l + (h + 1) * (r.w - 1) + r.w - 1 = g.l + (h + 1 + 1) * (r.w - 1) := by rw [Nat.add_mul (h + 1) 1, Nat.one_mul]; omega
        show (⟨g.l + (h + 1) * (r.w - 1) + r.w - 1, (allWords r.q (g.l + (h + 1) * (r.w - 1) + r.w - 1)).map _⟩ : Ga) = _
        rw [el]
        congr 1
        refine List.map_congr_left fun u hu => ?_
        have hu2 : Kinds r.q u ∧ u.length = g.l + (h + 1 + 1) * (r.w - 1) := by
          unfold allWords at hu
          rw [List.mem_map] at hu
          obtain ⟨i, _, rfl⟩ := hu
          exact ⟨wordOf_kinds hq0 _ _, wordOf_length _ _ _⟩
        rw [ga_at_map hq0 _ (stepWord_kinds o u) (by rw [stepWord_length, hu2.2]; omega), steps_comm]
        rfl
    rw [key h]
    rfl
/-! ### the change -/
theorem num_take {q : Nat} (hq : 0 < q) {u : List Nat} (hu : Kinds q u) {l : Nat} (hl : l ≤ u.length) : num q u / q ^ (u.length - l) = num q (u.take l) := by
  have e : num q u = num q (u.take l) * q ^ (u.drop l).length + num q (u.drop l) := by
    conv => lhs; rw [← List.take_append_drop l u]
    unfold num
    rw [List.foldl_append, num_foldl]
    rfl
  have h := num_lt hq (u := u.drop l) fun x hx => hu x (List.mem_of_mem_drop hx)
  rw [List.length_drop] at e h
  rw [e, Nat.mul_comm, Nat.mul_add_div (Nat.pow_pos hq), Nat.div_eq_of_lt h, Nat.add_zero]
theorem winI_take (c : List Nat) {l L : Nat} (h : l ≤ L) (k : Int) : (winI c L k).take l = winI c l k := by
  unfold winI
  rw [← List.map_take, List.take_range, Nat.min_eq_left h]
theorem change_at {r : Ru} {g : Ga} (o : r.Ok) (og : g.Ok r.q) (hs : r.q ^ (g.l + r.w - 1) ≤ 729) {u : List Nat} (hu : Kinds r.q u) (hl : u.length = g.l + r.w - 1) : (changeG r g).at (num r.q u) = g.at (num r.q (stepWord r u)) - g.at (num r.q (u.take g.l)) := by
  have hq0 : 0 < r.q := by have := o.q2; omega
  have hw := o.w1
  have hn := num_lt hq0 hu
  rw [hl] at hn
  have hlen := change_len o og hs
  have h1 : (changeG r g).at (num r.q u) = (gaugeLed r g).at (num r.q u) - (widen r.q g (gaugeLed r g).l).at (num r.q u) := by
    show ((List.range (gaugeLed r g).ws.length).map fun i => (gaugeLed r g).at i - (widen r.q g (gaugeLed r g).l).at i).getD (num r.q u) 0 = _
    rw [List.getD_eq_getElem?_getD, List.getElem?_map, List.getElem?_range (by rw [(led_ok o og hs).len]; exact hn)]
    rfl
  have h2 : (widen r.q g (gaugeLed r g).l).at (num r.q u) = g.at (num r.q (u.take g.l)) := by
    have hx : r.q ^ g.l * r.q ^ (g.l + r.w - 1 - g.l) = r.q ^ (g.l + r.w - 1) := by rw [← Nat.pow_add]; congr 1; omega
    show ((List.range (g.ws.length * r.q ^ (g.l + r.w - 1 - g.l))).map fun i => g.at (i / r.q ^ (g.l + r.w - 1 - g.l))).getD (num r.q u) 0 = _
    rw [List.getD_eq_getElem?_getD, List.getElem?_map, List.getElem?_range (by rw [og.len, hx]; exact hn)]
    show g.at (num r.q u / r.q ^ (g.l + r.w - 1 - g.l)) = _
    rw [← hl, num_take hq0 hu (by omega)]
  rw [h1, h2, led_at o g hu hl]
theorem read_change {r : Ru} {g : Ga} (o : r.Ok) (og : g.Ok r.q) (hs : r.q ^ (g.l + r.w - 1) ≤ 729) {c : List Nat} (hc : Kinds r.q c) (h1 : 1 ≤ c.length) : readR r.q (changeG r g) c = readR r.q g (roundOf r c) - readR r.q g c := by
  have hq0 : 0 < r.q := by have := o.q2; omega
  have hw := o.w1
  rw [← read_led o g hc h1, readR_eq, readR_eq, readR_eq, ← sumN_sub]
  refine sumN_congr _ fun k _ => ?_
  have hk := winI_kinds hq0 hc (g.l + r.w - 1) k
  have hl := winI_length c (g.l + r.w - 1) k
  show (changeG r g).at (num r.q (winI c (g.l + r.w - 1) k)) = (gaugeLed r g).at (num r.q (winI c (g.l + r.w - 1) k)) - _
  rw [change_at o og hs hk hl, led_at o g hk hl, winI_take c (by omega)]
theorem read_neg (q : Nat) (g : Ga) (c : List Nat) : readR q (negG g) c = 0 - readR q g c := by
  have e : ∀ n, (negG g).at n = 0 - g.at n := fun n => by
    show (g.ws.map fun x => 0 - x).getD n 0 = 0 - g.ws.getD n 0
    rw [List.getD_eq_getElem?_getD, List.getD_eq_getElem?_getD, List.getElem?_map]
    cases g.ws[n]? <;> rfl
  have h0 : ∀ s, sumN (fun _ => 0) s = 0 := fun s => by
    induction s with
    | zero => rfl
    | succ s ih => rw [sumN_succ, ih]; rfl
  rw [readR_eq, readR_eq, ← h0 c.length, ← sumN_sub]
  exact sumN_congr _ fun k _ => e _
end WL
/-! what the law asks -/
namespace WL
theorem low_uniq {p a : Int} {s b : Nat} (hs : 0 < s) (hb : 0 < b) (e : p * b = a * s) : lowestF p s = lowestF a b := by
  have g1 := gcd_pos' p hs
  have g2 := gcd_pos' a hb
  have ea : p.natAbs * b = a.natAbs * s := by
    have := congrArg Int.natAbs e
    rw [Int.natAbs_mul, Int.natAbs_mul, Int.natAbs_natCast, Int.natAbs_natCast] at this
    exact this
  have eg : Nat.gcd p.natAbs s * b = s * Nat.gcd a.natAbs b := by
    rw [← Nat.gcd_mul_right, ea, Nat.mul_comm a.natAbs s, Nat.gcd_mul_left]
  obtain ⟨s', hs'⟩ := Nat.gcd_dvd_right p.natAbs s
  obtain ⟨b', hb'⟩ := Nat.gcd_dvd_right a.natAbs b
  have hp : ((Nat.gcd p.natAbs s : Nat) : Int) ∣ p := Int.ofNat_dvd_left.mpr (Nat.gcd_dvd_left _ _)
  have ha : ((Nat.gcd a.natAbs b : Nat) : Int) ∣ a := Int.ofNat_dvd_left.mpr (Nat.gcd_dvd_left _ _)
  obtain ⟨p', hp'⟩ := hp
  obtain ⟨a', ha'⟩ := ha
  unfold lowestF
  generalize Nat.gcd p.natAbs s = x at *
  generalize Nat.gcd a.natAbs b = y at *
  have h1 : s' = b' := by
    rw [hs', hb', ← Nat.mul_assoc, Nat.mul_assoc x s', Nat.mul_comm s', ← Nat.mul_assoc] at eg
    exact (Nat.eq_of_mul_eq_mul_left (Nat.mul_pos g1 g2) eg).symm
  subst h1
  have hsp : 0 < s' := by
    rcases Nat.eq_zero_or_pos s' with z | z
    · rw [z] at hs'
      omega
    · exact z
  have h2 : p' = a' := by
    rw [hp', ha', hs', hb', Int.natCast_mul, Int.natCast_mul] at e
    refine Int.eq_of_mul_eq_mul_left (a := (x : Int) * y * s') ?_ ?_
    · have : 0 < (x : Int) * y * s' := Int.mul_pos (Int.mul_pos (by omega) (by omega)) (by omega)
      omega
    · have l1 : (x : Int) * y * s' * p' = x * p' * (y * s') := by
        rw [Int.mul_assoc (x : Int) y s', Int.mul_assoc, Int.mul_comm ((y : Int) * s'), ← Int.mul_assoc]
      have l2 : (x : Int) * y * s' * a' = y * a' * (x * s') := by
        rw [Int.mul_comm (x : Int) y, Int.mul_assoc (y : Int) x s', Int.mul_assoc, Int.mul_comm ((x : Int) * s'), ← Int.mul_assoc]
      rw [l1, l2]
      exact e
  subst h2
  show (p / (x : Int), s / x) = (a / (y : Int), b / y)
  rw [hp', ha', hs', hb', Int.mul_ediv_cancel_left _ (by omega), Int.mul_ediv_cancel_left _ (by omega), Nat.mul_div_cancel_left _ g1, Nat.mul_div_cancel_left _ g2]
theorem lex_total : ∀ {a b : List Nat}, a.length = b.length → a ≠ b → lexLt a b ∨ lexLt b a
  | [], [], _, h => absurd rfl h
  | [], _ :: _, h, _ => by cases h
  | _ :: _, [], h, _ => by cases h
  | x :: a, y :: b, hl, hne => by
    by_cases e : x = y
    · subst e
      rcases lex_total (a := a) (b := b) (by simpa using hl) (fun z => hne (by rw [z])) with h | h
      · exact .inl (.inr ⟨rfl, h⟩)
      · exact .inr (.inr ⟨rfl, h⟩)
    · rcases Nat.lt_or_ge x y with h | h
      · exact .inl (.inl h)
      · exact .inr (.inl (by omega))
section
variable {q l : Nat} {g : Ga} {val : List Nat → Int} {a : Int} {b : Nat}
/-- a fraction that bounds all rings and is reached -/
theorem top_eq {p : Int} {s : Nat} (hs : 0 < s) (hq : 0 < q) (hl : g.l = l + 1) (hM : MaxMean q (q ^ l) g.at a b) (hr : ∃ c, Kinds q c ∧ 1 ≤ c.length ∧ readR q g c * s = p * c.length) (hall : ∀ c, Kinds q c → 1 ≤ c.length → c.length ≤ q ^ l → readR q g c * s ≤ p * c.length) : p * b = a * s := by
  have hb := hM.pos
  obtain ⟨u, w, hc, h1, h2, h3⟩ := hM.has
  have e := closed_sum hq hl h1 hc
  rw [e] at h3
  have k1 := hall w hc.2.1 h1 h2
  obtain ⟨c, kc, c1, c2⟩ := hr
  have k2 := hM.most _ c (ring_closed (l := l) hq kc)
  rw [closed_sum hq hl c1 (ring_closed hq kc)] at k2
  -- a/b = read w / |w| ≤ p/s = read c / |c| ≤ a/b
  refine Int.le_antisymm ?_ ?_
  · refine Int.le_of_mul_le_mul_right (a := (c.length : Int)) ?_ (by omega)
    have m1 : readR q g c * b * s ≤ a * c.length * s := Int.mul_le_mul_of_nonneg_right k2 (by omega)
    have e1 : readR q g c * b * s = p * b * c.length := by rw [Int.mul_assoc, Int.mul_comm (b : Int), ← Int.mul_assoc, c2, Int.mul_assoc, Int.mul_comm (c.length : Int), ← Int.mul_assoc]
    have e2 : a * c.length * s = a * s * c.length := by rw [Int.mul_assoc, Int.mul_comm (c.length : Int), ← Int.mul_assoc]
    rw [← e1, ← e2]
    exact m1
  · refine Int.le_of_mul_le_mul_right (a := (w.length : Int)) ?_ (by omega)
    have m1 : readR q g w * s * b ≤ p * w.length * b := Int.mul_le_mul_of_nonneg_right k1 (by omega)
    have e1 : readR q g w * s * b = a * s * w.length := by rw [Int.mul_assoc, Int.mul_comm (s : Int), ← Int.mul_assoc, h3, Int.mul_assoc, Int.mul_comm (w.length : Int), ← Int.mul_assoc]
    have e2 : p * w.length * b = p * b * w.length := by rw [Int.mul_assoc, Int.mul_comm (w.length : Int), ← Int.mul_assoc]
    rw [← e1, ← e2]
    exact m1
theorem proc_all {c : List Nat} {N : Nat} (hc : Kinds q c) (h1 : 1 ≤ c.length) (h2 : c.length ≤ N) : Proc q (N + 1) 0 c := ⟨h1, hc, .inl (by omega)⟩
theorem proc_le {c : List Nat} {N : Nat} (h : Proc q (N + 1) 0 c) : c.length ≤ N := by
  rcases h.2.2 with h | h <;> omega
theorem most_eq (hq : 0 < q) (hl : g.l = l + 1) (hv : ∀ c, Kinds q c → 1 ≤ c.length → val c = readR q g c) (hM : MaxMean q (q ^ l) g.at a b) {cm : List Nat} (hm : MostIn q val (q ^ l + 1) 0 (some cm)) : val cm * b = a * cm.length := by
  obtain ⟨h1, h2⟩ := hm
  refine top_eq (show 0 < cm.length from h1.1) hq hl hM ⟨cm, h1.2.1, h1.1, by rw [hv cm h1.2.1 h1.1]⟩ fun c kc c1 c2 => ?_
  have := (h2 c (proc_all kc c1 c2)).1
  rw [hv c kc c1] at this
  exact this
theorem best_most (hq : 0 < q) (hl : g.l = l + 1) (hv : ∀ c, Kinds q c → 1 ≤ c.length → val c = readR q g c) {fr : Int × Nat} {c cm : List Nat} (hB : BestR q (q ^ l) g.at fr c) (hm : MostIn q val (q ^ l + 1) 0 (some cm)) : fr = lowestF (val cm) cm.length ∧ c = cm := by
  obtain ⟨a, b, hM, hfr, hI⟩ := hB
  have e := most_eq hq hl hv hM hm
  have hcm := hm.1
  have hF : lowestF (val cm) cm.length = fr := by
    rw [hfr]
    exact low_uniq (by have := hcm.1; omega) hM.pos e
  refine ⟨hF.symm, ?_⟩
  obtain ⟨s1, _, s2⟩ := lowestF_spec (val cm) (show 0 < cm.length from hcm.1)
  rw [hF] at s1 s2
  obtain ⟨u, hu, hsum⟩ := hI.has
  rw [closed_sum hq hl hI.l1 hu] at hsum
  have kc := hu.2.1
  -- both have the mean fr
  have ecm : readR q g cm * fr.2 = fr.1 * cm.length := by rw [← hv cm hcm.2.1 hcm.1]; omega
  have heq : val c * cm.length = val cm * c.length := by
    rw [hv c kc hI.l1]
    refine Int.eq_of_mul_eq_mul_right (a := (fr.2 : Int)) (by omega) ?_
    have e1 : readR q g c * cm.length * fr.2 = fr.1 * c.length * cm.length := by rw [Int.mul_assoc, Int.mul_comm (cm.length : Int), ← Int.mul_assoc, hsum]
    have e2 : val cm * c.length * fr.2 = fr.1 * cm.length * c.length := by rw [Int.mul_assoc, Int.mul_comm (c.length : Int), ← Int.mul_assoc, ← s2]
    rw [e1, e2, Int.mul_assoc, Int.mul_comm (c.length : Int), ← Int.mul_assoc]
  have h1 := (hm.2 c (proc_all kc hI.l1 hI.ln)).2 heq
  have h2 := hI.least _ cm hcm.1 (ring_closed (l := l) hq hcm.2.1) (by rw [closed_sum hq hl hcm.1 (ring_closed hq hcm.2.1)]; exact ecm)
  rcases h1 with h1 | ⟨h1, h1'⟩
  · rcases h2 with h2 | ⟨h2, _⟩ <;> omega
  · rcases h2 with h2 | ⟨h2, h2'⟩
    · omega
    · by_cases hne : c = cm
      · exact hne
      · exfalso
        rcases lex_total h2 hne with h | h
        · have := lex_num hq h2 kc hcm.2.1 h
          omega
        · exact h2' h
/-- the first of the greatest sums by length -/
def FirstMax (S : List Int) (up : Int) (k : Nat) : Prop := 1 ≤ k ∧ S[k - 1]? = some up ∧ ∀ t x, S[t]? = some x → x * k ≤ up * ((t + 1 : Nat) : Int) ∧ (t + 1 < k → x * k < up * ((t + 1 : Nat) : Int))
theorem best_far (hq : 0 < q) (hl : g.l = l + 1) {fr : Int × Nat} {c : List Nat} (hB : BestR q (q ^ l) g.at fr c) {S : List Int} (hS : S.length = q ^ l) (hT : ∀ (t : Nat) x, S[t]? = some x → TopSum q (q ^ l) g.at (t + 1) x) {up : Int} {k : Nat} (hF : FirstMax S up k) : fr = lowestF up k ∧ c.length = k ∧ readR q g c = up := by
  obtain ⟨a, b, hM, hfr, hI⟩ := hB
  obtain ⟨hk, hSk, hall⟩ := hF
  have hkN : k ≤ q ^ l := by
    have := (List.getElem?_eq_some_iff.mp hSk).1
    omega
  have hbound : ∀ c, Kinds q c → 1 ≤ c.length → c.length ≤ q ^ l → ∃ x, S[c.length - 1]? = some x ∧ readR q g c ≤ x := fun c kc c1 c2 => by
    have hi : c.length - 1 < S.length := by omega
    refine ⟨S[c.length - 1], List.getElem?_eq_getElem hi, ?_⟩
    have h1 := (hT (c.length - 1) _ (List.getElem?_eq_getElem hi)).2 _ c (ring_closed (l := l) hq kc) (by omega)
    rw [closed_sum hq hl c1 (ring_closed hq kc)] at h1
    exact h1
  obtain ⟨⟨u0, w0, hc0, hl0, hs0⟩, _⟩ := hT (k - 1) up hSk
  have hw0 : w0.length = k := by omega
  rw [closed_sum hq hl (by omega) hc0] at hs0
  have e : up * b = a * k := by
    refine top_eq (show 0 < k by omega) hq hl hM ⟨w0, hc0.2.1, by omega, by rw [hs0, hw0]⟩ fun c kc c1 c2 => ?_
    obtain ⟨x, hx, hle⟩ := hbound c kc c1 c2
    have h1 := (hall _ x hx).1
    rw [show c.length - 1 + 1 = c.length by omega] at h1
    exact Int.le_trans (Int.mul_le_mul_of_nonneg_right hle (by omega)) h1
  have hFr : lowestF up k = fr := by
    rw [hfr]
    exact low_uniq (by omega) hM.pos e
  obtain ⟨s1, _, s2⟩ := lowestF_spec up (show 0 < k by omega)
  rw [hFr] at s1 s2
  obtain ⟨u, hu, hsum⟩ := hI.has
  rw [closed_sum hq hl hI.l1 hu] at hsum
  have kc := hu.2.1
  have heq : readR q g c * k = up * c.length := by
    refine Int.eq_of_mul_eq_mul_right (a := (fr.2 : Int)) (by omega) ?_
    have e1 : readR q g c * k * fr.2 = fr.1 * c.length * k := by rw [Int.mul_assoc, Int.mul_comm (k : Int), ← Int.mul_assoc, hsum]
    have e2 : up * c.length * fr.2 = fr.1 * k * c.length := by rw [Int.mul_assoc, Int.mul_comm (c.length : Int), ← Int.mul_assoc, ← s2]
    rw [e1, e2, Int.mul_assoc, Int.mul_comm (c.length : Int), ← Int.mul_assoc]
  have hle : c.length ≤ k := by
    have h2 := hI.least u0 w0 (by omega) hc0 (by rw [closed_sum hq hl (by omega) hc0, hs0, hw0]; omega)
    rcases h2 with h2 | ⟨h2, _⟩ <;> omega
  have hge : k ≤ c.length := by
    by_cases h : k ≤ c.length
    · exact h
    · exfalso
      obtain ⟨x, hx, hlx⟩ := hbound c kc hI.l1 hI.ln
      have h1 := (hall _ x hx).2 (by have := hI.l1; omega)
      rw [show c.length - 1 + 1 = c.length by have := hI.l1; omega] at h1
      have h2 : readR q g c * k ≤ x * k := Int.mul_le_mul_of_nonneg_right hlx (by omega)
      omega
  have hck : c.length = k := by omega
  refine ⟨hFr.symm, hck, ?_⟩
  rw [hck] at heq
  exact Int.eq_of_mul_eq_mul_right (a := (k : Int)) (by omega) heq
end
/-- never greater with more hours -/
theorem after_mono {r : Ru} {g : Ga} (o : r.Ok) (hg : 1 ≤ g.l) (h : Nat) {fr fr' : Int × Nat} {c c' : List Nat} (hB : BestR r.q (r.q ^ ((ledN r (h + 1) g).l - 1)) (ledN r (h + 1) g).at fr c) (hB' : BestR r.q (r.q ^ ((ledN r h g).l - 1)) (ledN r h g).at fr' c') : fr.1 * fr'.2 ≤ fr'.1 * fr.2 := by
  have hq0 : 0 < r.q := by have := o.q2; omega
  have hl : ∀ h, (ledN r h g).l = ((ledN r h g).l - 1) + 1 := fun h => by rw [ledN_l r g o.w1]; omega
  obtain ⟨a, b, hM, hfr, hI⟩ := hB
  obtain ⟨a', b', hM', hfr', _⟩ := hB'
  have hL := hM'.low
  rw [← hfr'] at hL
  obtain ⟨u, hu, hsum⟩ := hI.has
  have kc := hu.2.1
  have c1 := hI.l1
  rw [closed_sum hq0 (hl (h + 1)) c1 hu] at hsum
  have e : readR r.q (ledN r (h + 1) g) c = readR r.q (ledN r h g) (roundOf r c) := by
    show readR r.q (gaugeLed r (ledN r h g)) c = _
    exact read_led o _ kc c1
  have kc2 := round_kinds o c
  have h2 := hL.most _ (roundOf r c) (ring_closed (l := (ledN r h g).l - 1) hq0 kc2)
  rw [closed_sum hq0 (hl h) (by rw [round_length]; exact c1) (ring_closed hq0 kc2), ← e, round_length] at h2
  -- read * fr'.2 ≤ fr'.1 * |c|, read * fr.2 = fr.1 * |c|
  have hf : 0 < fr.2 := by rw [hfr]; exact (lowestF_spec a hM.pos).1
  refine Int.le_of_mul_le_mul_right (a := (c.length : Int)) ?_ (by omega)
  have m1 := Int.mul_le_mul_of_nonneg_right h2 (show (0 : Int) ≤ (fr.2 : Int) by omega)
  have e1 : readR r.q (ledN r (h + 1) g) c * fr'.2 * fr.2 = fr.1 * fr'.2 * c.length := by rw [Int.mul_assoc, Int.mul_comm (fr'.2 : Int), ← Int.mul_assoc, hsum, Int.mul_assoc, Int.mul_comm (c.length : Int), ← Int.mul_assoc]
  have e2 : fr'.1 * c.length * fr.2 = fr'.1 * fr.2 * c.length := by rw [Int.mul_assoc, Int.mul_comm (c.length : Int), ← Int.mul_assoc]
  rw [← e1, ← e2]
  exact m1
theorem lowestF_neg (p : Int) (s : Nat) : lowestF (-p) s = (0 - (lowestF p s).1, (lowestF p s).2) := by
  unfold lowestF
  rw [Int.natAbs_neg]
  have hd : ((Nat.gcd p.natAbs s : Nat) : Int) ∣ p := Int.ofNat_dvd_left.mpr (Nat.gcd_dvd_left _ _)
  congr 1
  rw [Int.neg_ediv_of_dvd hd]
  omega
/-- the least mean by the greatest of the other sign -/
theorem least_eq {q l : Nat} {g : Ga} {val : List Nat → Int} {a : Int} {b : Nat} (hq : 0 < q) (hl : g.l = l + 1) (hv : ∀ c, Kinds q c → 1 ≤ c.length → val c = readR q g c) (hM : MaxMean q (q ^ l) (negG g).at a b) {cl : List Nat} (hm : LeastMean q val (q ^ l + 1) 0 (some cl)) : lowestF (val cl) cl.length = (0 - (lowestF a b).1, (lowestF a b).2) := by
  obtain ⟨h1, h2⟩ := hm
  have e : (-(val cl)) * b = a * cl.length := by
    refine top_eq (g := negG g) (show 0 < cl.length from h1.1) hq hl hM ⟨cl, h1.2.1, h1.1, by rw [read_neg, ← hv cl h1.2.1 h1.1, Int.zero_sub]⟩ fun c kc c1 c2 => ?_
    have := h2 c (proc_all kc c1 c2)
    rw [read_neg, ← hv c kc c1, Int.zero_sub, Int.neg_mul, Int.neg_mul]
    omega
  have e2 := low_uniq (show 0 < cl.length from h1.1) hM.pos e
  rw [← e2, lowestF_neg]
  show _ = (0 - (0 - _), _)
  rw [show (0 : Int) - (0 - (lowestF (val cl) cl.length).1) = (lowestF (val cl) cl.length).1 by omega]
end WL
/-! bounds, and texts of fractions -/
namespace WL
open PySem PySem.Spec PyProof.Rows L2
theorem sumN_bound {f : Int → Int} (h : ∀ k, -99 ≤ f k ∧ f k ≤ 99) : ∀ s : Nat, -(99 * (s : Int)) ≤ sumN f s ∧ sumN f s ≤ 99 * (s : Int)
  | 0 => ⟨by show -(99 * ((0 : Nat) : Int)) ≤ 0; decide, by show (0 : Int) ≤ 99 * ((0 : Nat) : Int); decide⟩
  | s + 1 => by
    have ih := sumN_bound h s
    have hk := h s
    rw [sumN_succ]
    omega
theorem read_bound {q : Nat} {g : Ga} (h : ∀ x ∈ g.ws, -99 ≤ x ∧ x ≤ 99) (c : List Nat) : -(99 * (c.length : Int)) ≤ readR q g c ∧ readR q g c ≤ 99 * (c.length : Int) := by
  rw [readR_eq]
  refine sumN_bound (fun k => ?_) _
  unfold Ga.at
  rw [List.getD_eq_getElem?_getD]
  cases e : g.ws[num q (winI c g.l k)]? with
  | none => exact ⟨by decide, by decide⟩
  | some x => exact h x (List.mem_of_getElem? e)
theorem val_bound {r : Ru} {g : Ga} (h : ∀ x ∈ g.ws, -99 ≤ x ∧ x ≤ 99) (hh : Nat) (ch : Bool) {c : List Nat} (o : r.Ok) (hc : Kinds r.q c) : (valH r g hh ch c).natAbs ≤ 198 * c.length := by
  have h1 := read_bound (q := r.q) h (laterN r hh c)
  have h2 := read_bound (q := r.q) h c
  rw [(later_ok o hc hh).2] at h1
  unfold valH
  cases ch with
  | true =>
    show (readR r.q g (laterN r hh c) - (if true = true then readR r.q g c else 0)).natAbs ≤ _
    rw [if_pos rfl]
    omega
  | false =>
    show (readR r.q g (laterN r hh c) - (if false = true then readR r.q g c else 0)).natAbs ≤ _
    rw [if_neg (by decide)]
    omega
theorem low_le (p : Int) {s : Nat} (hs : 0 < s) : (lowestF p s).1.natAbs ≤ p.natAbs ∧ (lowestF p s).2 ≤ s := by
  refine ⟨?_, (lowestF_spec p hs).2.1⟩
  have hg := gcd_pos' p hs
  have hd : ((Nat.gcd p.natAbs s : Nat) : Int) ∣ p := Int.ofNat_dvd_left.mpr (Nat.gcd_dvd_left _ _)
  unfold lowestF
  show (p / (Nat.gcd p.natAbs s : Nat)).natAbs ≤ p.natAbs
  generalize Nat.gcd p.natAbs s = x at *
  obtain ⟨y, rfl⟩ := hd
  rw [Int.mul_ediv_cancel_left _ (by omega), Int.natAbs_mul, Int.natAbs_natCast]
  exact Nat.le_mul_of_pos_left _ hg
def SmallF (f : Int × Nat) : Prop := f.1.natAbs < 1900 ∧ f.2 < 1900
theorem small_int {i : Int} (h : i.natAbs < 1900) : (PyData.int i).showable = true ∧ (PyData.int i).weight ≤ 1901 ∧ (PyData.int i).intsShort 13 = true := by
  have hl : i.natAbs.log2 ≤ i.natAbs := Nat.log2_le_self _
  refine ⟨?_, ?_, ?_⟩
  · unfold PyData.showable
    exact decide_eq_true (by omega)
  · unfold PyData.weight
    split <;> omega
  · unfold PyData.intsShort
    refine decide_eq_true ?_
    unfold PyData.shown
    have h1 := int_text_length_le10 (a := i) (k := 12) (by decide) (by omega)
    show (Str.ofString (toString i)).length ≤ 13
    rw [PySem.ofString_length]
    omega
theorem wt_list (xs : List PyData) : (PyData.list xs).weight = PyData.weightAll xs := by simp only [PyData.weight]
theorem wt_tup (xs : List PyData) : (PyData.tuple xs).weight = PyData.weightAll xs := by simp only [PyData.weight]
theorem is_list (xs : List PyData) : (PyData.list xs).intsShort 13 = PyData.intsShortAll 13 xs := by simp only [PyData.intsShort]
theorem is_tup (xs : List PyData) : (PyData.tuple xs).intsShort 13 = PyData.intsShortAll 13 xs := by simp only [PyData.intsShort]
theorem sh_list (xs : List PyData) : (PyData.list xs).showable = PyData.showableAll xs := by simp only [PyData.showable]
theorem sh_tup (xs : List PyData) : (PyData.tuple xs).showable = PyData.showableAll xs := by simp only [PyData.showable]
theorem repr_pairs {f1 f2 f3 f4 : Int × Nat} (h1 : SmallF f1) (h2 : SmallF f2) (h3 : SmallF f3) (h4 : SmallF f4) : let d : PyData := .list [.tuple [.tuple [.int f1.1, .int (f1.2 : Int)], .tuple [.int f2.1, .int (f2.2 : Int)]], .tuple [.tuple [.int f3.1, .int (f3.2 : Int)], .tuple [.int f4.1, .int (f4.2 : Int)]]]
    d.showable = true ∧ d.hasDict = false ∧ d.depth ≤ 60 ∧ d.shown.length ≤ sizeLine := by
  intro d
  have nn : ∀ n : Nat, n < 1900 → ((n : Int)).natAbs < 1900 := fun n h => by rw [Int.natAbs_natCast]; exact h
  obtain ⟨a1, a2, a3⟩ := small_int h1.1
  obtain ⟨b1, b2, b3⟩ := small_int (nn _ h1.2)
  obtain ⟨c1, c2, c3⟩ := small_int h2.1
  obtain ⟨d1, d2, d3⟩ := small_int (nn _ h2.2)
  obtain ⟨e1, e2, e3⟩ := small_int h3.1
  obtain ⟨f1', f2', f3'⟩ := small_int (nn _ h3.2)
  obtain ⟨g1, g2, g3⟩ := small_int h4.1
  obtain ⟨i1, i2, i3⟩ := small_int (nn _ h4.2)
  have hcl : d.canLay0 = true := by simp [d, PyData.canLay0, PyData.canLayAll0]
  have hdp : d.depth ≤ 4 := by simp [d, PyData.depth, PyData.depthAll]
  refine ⟨?_, PyData.hasDict_of_canLay d hcl, by omega, ?_⟩
  · show (PyData.list _).showable = true
    simp only [sh_list, sh_tup, PyData.showableAll, a1, b1, c1, d1, e1, f1', g1, i1, Bool.and_true]
  · have hw : d.weight ≤ 2 ^ 20 := by
      show (PyData.list _).weight ≤ _
      simp only [wt_list, wt_tup, PyData.weightAll]
      omega
    have hs : d.intsShort 13 = true := by
      show (PyData.list _).intsShort 13 = true
      simp only [is_list, is_tup, PyData.intsShortAll, a3, b3, c3, d3, e3, f3', g3, i3, Bool.and_true]
    have hla : PyData.layable0 d = true := by
      show (d.canLay0 && decide (d.depth ≤ 64) && decide (d.weight ≤ 2 ^ 20)) = true
      rw [hcl, decide_eq_true (by omega), decide_eq_true hw]
      rfl
    have := shown_le13 hla hs
    have e : sizeLine = sizeLine := rfl
    rw [sizeLine_eq]
    omega
end WL
/-! rings compared; the greatest mean after hours is right -/
namespace WL
open PySem PySem.Spec PyProof.Rows L2
open C8 (Cal Met Mak pe_c pe_mk pe_mt pe_mt0 pe_gc)
/-- two rings that are equal -/
def rEqRing (K : PySem.W.Frag) (a b : Addr) (H : Hp) : Prop := ∃ dx dy fs gs q c, H a = some (.ins (He.ga K "Ring") dx fs) ∧ H b = some (.ins (He.ga K "Ring") dy gs) ∧ RingAt H fs q c ∧ RingAt H gs q c
theorem mon_ring {K : PySem.W.Frag} : ∀ a b H H', Ext H H' → rEqRing K a b H → rEqRing K a b H' := fun a b H H' s ⟨dx, dy, fs, gs, q, c, h1, h2, ⟨h3, x, h4, h5⟩, ⟨h6, y, h7, h8⟩⟩ => ⟨dx, dy, fs, gs, q, c, s _ _ h1, s _ _ h2, ⟨h3, x, h4, s _ _ h5⟩, ⟨h6, y, h7, s _ _ h8⟩⟩
theorem eqv_self_ints : ∀ w : List Nat, PyData.eqv (wD w) (wD w) = true := by
  have h : ∀ w : List Nat, PyData.eqvAll (w.map fun (n : Nat) => PyData.int n) (w.map fun (n : Nat) => PyData.int n) = true := fun w => by
    induction w with
    | nil => simp [PyData.eqvAll]
    | cons n w ih => simp only [List.map_cons, PyData.eqvAll, PyData.eqv, ih]; simp
  intro w
  simp only [PyData.eqv]
  exact h w
theorem shaped_word (w : List Nat) : SeqAt.shaped (wD w) = true := shaped_of (lay_word w).1 (by have := (lay_word w).2; omega)
section
variable {P : Program} {w : World} {K : PySem.W.Frag} {mg : Str → Option Value} {base : Heap}
theorem fn_Ring_eq (T : Txt K mg) : ∃ fd, FnOk P w K mg base CX0 1 (He.fAd K d_RingQ_eqQ.at_) fd p_RingQ_eqQ (spEq (rEqRing K)) ∧ Binds K fd p_RingQ_eqQ [] := by
  refine fnok_of T.f_RingQ_eqQ rfl rfl sc_RingQ_eqQ (fun _ _ _ _ _ _ us hl => match us, hl with | [_, _], _ => rfl) (fun vs H Q E h => ?_) (fun cdv A outer s H vs Q E hr h => ⟨_, (pss_one (ps_ret (pe_and (pe_callB (cl_isiK (K := K) rfl) (by rfl) T.b_isinstance (by decide +kernel) (pa_cons (pv 1) (pa_cons (pe_glob (v := .ref _) (by rfl) T.g_Ring rfl) pa_nil))) (pe_and (pe_cmpR op_eq (pe_fldK (K := K) rfl (pv 0) rfl) (pe_fldK (K := K) rfl (pv 1) rfl) (nomark _)) (pe_one (pe_cmpR (op_eqDK (K := K) rfl hr.units) (pe_fldK (K := K) rfl (pv 0) rfl) (pe_fldK (K := K) rfl (pv 1) rfl) (nomark _))))))), ?_⟩)
  · obtain ⟨a, b, rfl, _⟩ := h
    rfl
  · obtain ⟨a, b, rfl, ⟨dx, dy, fs, gs, q, c, ha, hb, ⟨f1, x, f2, f3⟩, ⟨g1, y, g2, g3⟩⟩, k⟩ := h
    walk_at "wl"
    refine w_isiC hb T.is_Ring ?_
    walk_at "wl"
    refine w_iteD (fun _ => ?_) (fun h => absurd rfl h)
    walk_at "wl"
    refine ⟨wD c, wD c, dp_word ⟨x, rfl, f3⟩, dp_word ⟨y, rfl, g3⟩, shaped_word c, shaped_word c, ?_⟩
    rw [eqv_self_ints]
    exact k _ (fun _ _ h => h)
def DMix (K : PySem.W.Frag) : Eqv := fun x y H => DTup K DFlat x y H ∨ DIns (He.ga K "Ring") (rEqRing K) x y H
theorem mon_mix {K : PySem.W.Frag} : Mon (DMix K) := (mon_tup mon_flat).or (mon_ins mon_ring)
theorem eqG_mix {X : Cx} (T : Txt K mg) (e1 : X.K = K) (e2 : X.mg = mg) : EqG X 1 (DMix K) := by
  subst e1 e2
  obtain ⟨fd, F, b⟩ := fn_Ring_eq (P := X.prog) (w := X.w) (mg := X.mg) (base := X.base) T
  exact (eqG_tup mon_flat eqG_flat).or (eqG_ins (E := C8.E0) F T.m_Ring_QeqQ.at_ T.m_Ring_QeqQ.fn b pass0)
theorem op_neRg {X : Cx} {j : Nat} (T : Txt K mg) (e1 : X.K = K) (e2 : X.mg = mg) (hr : Room j X.A) (hj : 2 ≤ j) : OpR X (compareOp .NotEq) (rNeG (DTup K (DMix K))) := by
  have h := eqG_mix (X := X) T e1 e2
  subst e1
  exact op_neG mon_mix h (hr.mono hj)
theorem op_eqRg {X : Cx} {j : Nat} (T : Txt K mg) (e1 : X.K = K) (e2 : X.mg = mg) (hr : Room j X.A) (hj : 2 ≤ j) : OpR X (compareOp .Eq) (rEqG (DTup K (DMix K))) := by
  have h := eqG_mix (X := X) T e1 e2
  subst e1
  exact op_eqG (rcG_tup mon_mix h) (hr.mono hj)
theorem flat_int (i : Int) {H : Hp} : DFlat (.int i) (.int i) H := ⟨rfl, rfl, by simp [eqV]⟩
theorem mix_frac {H : Hp} {x y : V} {fr : Int × Nat} (h1 : RF H x fr) (h2 : RF H y fr) : DMix K x y H := by
  obtain ⟨a, rfl, ha⟩ := h1
  obtain ⟨b, rfl, hb⟩ := h2
  exact .inl ⟨a, b, _, _, rfl, rfl, sqT ha, sqT hb, Prs.cons (flat_int _) (Prs.cons (flat_int _) Prs.nil)⟩
theorem mix_ring {H : Hp} {x y : V} {r : Nat × List Nat} (h1 : RRing K H x r) (h2 : RRing K H y r) : DMix K x y H := by
  obtain ⟨a, dx, fs, rfl, ha, hra⟩ := h1
  obtain ⟨b, dy, gs, rfl, hb, hrb⟩ := h2
  exact .inr ⟨a, b, dx, dy, fs, gs, rfl, rfl, ha, hb, dx, dy, fs, gs, _, _, ha, hb, hra, hrb⟩
theorem BestR.small {q l : Nat} {g : Ga} {fr : Int × Nat} {c : List Nat} (hq : 0 < q) (hl : g.l = l + 1) (h : BestR q (q ^ l) g.at fr c) : 0 < fr.2 ∧ fr.2 ≤ c.length := by
  obtain ⟨a, b, hM, hfr, hI⟩ := h
  obtain ⟨s1, _, s2⟩ := lowestF_spec a hM.pos
  rw [← hfr] at s1 s2
  refine ⟨s1, ?_⟩
  obtain ⟨u, hu, hsum⟩ := hI.has
  rw [closed_sum hq hl hI.l1 hu] at hsum
  have h1 : lowestF (readR q g c) c.length = lowestF fr.1 fr.2 := low_uniq (by have := hI.l1; omega) s1 hsum
  have h2 : lowestF fr.1 fr.2 = lowestF a b := low_uniq s1 hM.pos s2
  have h3 := (lowestF_spec (readR q g c) (show 0 < c.length from hI.l1)).2.1
  rw [h1, h2, ← hfr] at h3
  exact h3
theorem val_after {r : Ru} (o : r.Ok) (g : Ga) (h : Nat) {c : List Nat} (hc : Kinds r.q c) (h1 : 1 ≤ c.length) : valH r g h false c = readR r.q (ledN r h g) c := by
  rw [read_ledN o g h hc h1]
  show _ - (if false = true then _ else (0 : Int)) = _
  rw [if_neg (by decide), Int.sub_zero]
abbrev sp_law_after_right : Sp := fun vs H Q _ => ∃ (v u : V) (r : Ru) (g : Ga) (h : Nat), vs = [v, u, .int h] ∧ RM H v r ∧ r.Ok ∧ RG H u g ∧ g.Ok r.q ∧ h ≤ 2 ∧ r.q ^ (g.l + h * (r.w - 1) - 1) ≤ 60 ∧ r.q ^ (r.q ^ (g.l + h * (r.w - 1) - 1)) ≤ 1000 ∧ ∀ H', Same H H' → Q (.bl true) H'
theorem ok_law_after_right (T : Txt K mg) : Cal P w K mg base 7 "_law_after_right" sp_law_after_right [] := by
  refine cal_of T.f_law_after_right T.g_law_after_right rfl rfl sc_law_after_right (fun _ _ _ _ _ _ us hl => match us, hl with | [_, _, _], _ => rfl) (fun vs H Q E h => ?_) (fun cdv A outer s H vs Q E hr h => ⟨_, (pss_cons (ps_set (i := 3) sc_law_after_right.nd rfl (Or.inl rfl) (pe_op op_add (pe_ix (ix_tupK (K := K) rfl) (pv 1) pe_int (fun _ _ => rfl)) (pe_op op_mul (pv 2) (pe_op op_sub (pe_ix (ix_tupK (K := K) rfl) (pv 0) pe_int (fun _ _ => rfl)) pe_int))))
      (pss_cons (ps_asg (pe_c (ok_law_extremes T) hr (by decide) rfl (pa_cons (pv 0) (pa_cons (pv 1) (pa_cons (pv 2) (pa_cons (pe_c (ok_law_power T) hr (by decide) rfl (pa_cons (pe_ix (ix_tupK (K := K) rfl) (pv 0) pe_int (fun _ _ => rfl)) (pa_cons (pe_op op_sub (pv 3) pe_int) pa_nil))) (pa_cons pe_bl pa_nil)))))) (pg_tupK (K := K) (n := 3) rfl rfl (pgs_cons (pg_name (i := 4) sc_law_after_right.nd rfl (.inl rfl)) (pgs_cons (pg_name (i := 5) sc_law_after_right.nd rfl (.inl rfl)) (pgs_cons (pg_name (i := 6) sc_law_after_right.nd rfl (.inl rfl)) pgs_nil)))))
      (pss_cons (ps_set (i := 7) sc_law_after_right.nd rfl (Or.inl rfl) (pe_c (ok_law_later T) hr (by decide) rfl (pa_cons (pv 0) (pa_cons (pv 6) (pa_cons (pv 2) pa_nil)))))
      (pss_cons (ps_set (i := 8) sc_law_after_right.nd rfl (Or.inl rfl) (pe_tup (pa_cons (pv 5) (pa_cons (pe_mk (mk_Ring T) hr (by decide) rfl (pa_cons (pe_ix (ix_tupK (K := K) rfl) (pv 0) pe_int (fun _ _ => rfl)) (pa_cons (pv 6) pa_nil))) (pa_cons (pe_mk (mk_Ring T) hr (by decide) rfl (pa_cons (pe_ix (ix_tupK (K := K) rfl) (pv 0) pe_int (fun _ _ => rfl)) (pa_cons (pv 7) pa_nil))) pa_nil)))))
      (pss_cons (ps_set (i := 9) sc_law_after_right.nd rfl (Or.inl rfl) (pe_c (ok_law_made T) hr (by decide) rfl (pa_cons (pv 0) pa_nil)))
      (pss_cons (ps_set (i := 10) sc_law_after_right.nd rfl (Or.inl rfl) (pe_c (ok_greatest_after T) hr (by decide) rfl (pa_cons (pv 9) (pa_cons (pv 1) (pa_cons (pv 2) pa_nil)))))
      (pss_cons (ps_if (PW.pt (pw_or (pt_cmpR (op_neRg T rfl rfl hr (by decide)) (pv 10) (pv 8) (nomark _)) (pw_or1 (pt_cmpR (op_neRg T rfl rfl hr (by decide)) (pe_ck (okk_greatest_after T) hr (by decide) rfl (pk_cons (pv 2) (pk_cons (pv 1) (pk_cons (pv 9) pk_nil)))) (pv 8) (nomark _))))) (pss_one (ps_ret pe_bl)) pss_nil)
      (pss_cons (ps_if (pt_cmpR op_eq (pv 2) pe_int (nomark _)) (pss_one (ps_ret (pe_cmpR (op_eqRg T rfl rfl hr (by decide)) (pe_c (ok_greatest_mean T) hr (by decide) rfl (pa_cons (pe_ix (ix_tupK (K := K) rfl) (pv 0) pe_int (fun _ _ => rfl)) (pa_cons (pv 1) pa_nil))) (pe_slice (sl_tupK (K := K) rfl) (pv 8) po_none (po_some pe_int)) (nomark _)))) pss_nil)
      (pss_cons (ps_set (i := 11) sc_law_after_right.nd rfl (Or.inl rfl) (pe_ix (ix_tupK (K := K) rfl) (pe_c (ok_greatest_after T) hr (by decide) rfl (pa_cons (pv 9) (pa_cons (pv 1) (pa_cons (pe_op op_sub (pv 2) pe_int) pa_nil)))) pe_int (fun _ _ => rfl)))
      (pss_one (ps_ret (pe_cmpR op_le (pe_op op_mul (pe_ix (ix_tupK (K := K) rfl) (pv 5) pe_int (fun _ _ => rfl)) (pe_ix (ix_tupK (K := K) rfl) (pv 11) pe_int (fun _ _ => rfl))) (pe_op op_mul (pe_ix (ix_tupK (K := K) rfl) (pv 11) pe_int (fun _ _ => rfl)) (pe_ix (ix_tupK (K := K) rfl) (pv 5) pe_int (fun _ _ => rfl))) (nomark _))))))))))))), ?_⟩)
  · obtain ⟨v, u, r, g, h, rfl, _⟩ := h
    rfl
  · obtain ⟨v, u, r, g, hh, rfl, hv, o, hg, og, h2, hN, hNN, k⟩ := h
    obtain ⟨a, b, rfl, ha, hb⟩ := id hv
    obtain ⟨c, d, rfl, hc, hd⟩ := id hg
    have hw := o.w1
    have hwd := o.wide
    have hq := o.q2
    have hq0 : 0 < r.q := by omega
    have hl := og.l1
    have h9 := pow_big hq og.small (by decide)
    have hm : hh * (r.w - 1) ≤ 2 * 4 := Nat.mul_le_mul h2 (by omega)
    have ew : (g.l : Int) + (hh : Int) * ((r.w : Int) - 1) = ((g.l + hh * (r.w - 1) : Nat) : Int) := by
      rw [Int.natCast_add, Int.natCast_mul, Int.natCast_sub (by omega)]
      rfl
    have hll : (ledN r hh g).l = (g.l + hh * (r.w - 1) - 1) + 1 := by rw [ledN_l r g hw]; omega
    have hN1 : 1 ≤ r.q ^ (g.l + hh * (r.w - 1) - 1) := Nat.pow_pos hq0
    walk_at "wl"
    refine w_ixT 0 rfl hc rfl ?_
    walk_at "wl"
    refine w_ixT 2 rfl ha rfl ?_
    walk_at "wl"
    rw [ew]
    refine w_ixT 0 rfl ha rfl ?_
    walk_at "wl"
    refine ⟨r.q, g.l + hh * (r.w - 1) - 1, by rw [Int.natCast_sub (by omega)]; rfl, by omega, by omega, ?_⟩
    walk_at "wl"
    refine ⟨_, _, r, g, hh, r.q ^ (g.l + hh * (r.w - 1) - 1), false, rfl, hv, o, hg, og, by omega, hN1, hN, hNN, fun v1 H1 cl cm s1 hLM hMI hres => ?_⟩
    obtain ⟨ea, x, y, z, rfl, hea, hx, hy, hz⟩ := hres
    have hcm := hMI.1
    have hcml := proc_le hcm
    have kcm := hcm.2.1
    have hcm1 := hcm.1
    have klt := later_ok o kcm hh
    have ha1 := s1 _ _ ha
    walk_at "wl"
    refine ⟨_, _, r, cm, hh, rfl, mono_M _ _ _ _ s1 hv, hz, o, kcm, by omega, by omega, fun lv H2 s2 hlv => ?_⟩
    have ha2 := s2 _ _ ha1
    walk_at "wl"
    refine w_ixT 0 rfl ha2 rfl ?_
    walk_at "wl"
    refine make_ring (K := K) (c := cm) (mono_W _ _ _ _ s2 hz) hq kcm hcm1 (by omega) fun r1 H3 s3 hr1 => ?_
    have ha3 := s3 _ _ ha2
    walk_at "wl"
    refine w_ixT 0 rfl ha3 rfl ?_
    walk_at "wl"
    refine make_ring (K := K) (c := laterN r hh cm) (mono_W _ _ _ _ s3 hlv) hq klt.1 (by omega) (by omega) fun r2 H4 s4 hr2 => ?_
    walk_at "wl"
    rename_i pd H5 s5 e5
    have s15 := ((s2.trans s3).trans s4).trans s5
    have s05 := s1.trans s15
    walk_at "wl"
    refine ⟨_, r, rfl, mono_M _ _ _ _ s05 hv, o, fun rv H6 s6 hrv => ?_⟩
    have s06 := s05.trans s6
    have hval : ∀ c, Kinds r.q c → 1 ≤ c.length → valH r g hh false c = readR r.q (ledN r hh g) c := fun c kc c1 => val_after o g hh kc c1
    have hBN : ∀ {fr : Int × Nat} {c : List Nat}, BestR r.q (r.q ^ ((ledN r hh g).l - 1)) (ledN r hh g).at fr c → fr = lowestF (valH r g hh false cm) cm.length ∧ c = cm := fun hB => by
      rw [hll, Nat.add_sub_cancel] at hB
      exact best_most hq0 hll hval hB hMI
    -- the due triple, at any later heap
    have due : ∀ {H7 : Hp} {tv : V} {fr : Int × Nat} {c : List Nat}, Same H6 H7 → BestR r.q (r.q ^ ((ledN r hh g).l - 1)) (ledN r hh g).at fr c → RAft K r.q H7 tv (fr, c, laterN r hh c) → DTup K (DMix K) tv (.ref pd) H7 := fun {H7 tv fr c} s7 hB hA => by
      obtain ⟨e1, e2⟩ := hBN hB
      subst e2
      rw [e1] at hA
      obtain ⟨ta, x', y', z', rfl, hta, hx', hy', hz'⟩ := hA
      have s57 := s6.trans s7
      exact ⟨ta, pd, _, _, rfl, rfl, sqT hta, sqT (s57 _ _ e5), Prs.cons (mix_frac hx' (mono_F _ _ _ _ (s15.trans s57) hy)) (Prs.cons (mix_ring hy' (mono_ring _ _ _ _ ((s4.trans s5).trans s57) hr1)) (Prs.cons (mix_ring hz' (mono_ring _ _ _ _ (s5.trans s57) hr2)) Prs.nil))⟩
    walk_at "wl"
    refine ⟨_, _, r, g, hh, rfl, hrv, o, mono_G _ _ _ _ s06 hg, og, by omega, hN, fun tv H7 fr c7 s7 hB7 hA7 => ?_⟩
    walk_at "wl"
    refine ⟨due s7 hB7 hA7, fun H8 s8 => ?_⟩
    have s78 : Same H6 H8 := s7.trans s8
    walk_at "wl"
    refine ⟨rv, .ref c, r, g, hh, rfl, mono_rule _ _ _ _ s78 hrv, o, mono_G _ _ _ _ (s06.trans s78) hg, og, by omega, hN, fun tv2 H9 fr2 c9 s9 hB9 hA9 => ?_⟩
    have s69 := s78.trans s9
    walk_at "wl"
    refine ⟨due s69 hB9 hA9, fun H10 s10 => ?_⟩
    have s6A : Same H6 H10 := s69.trans s10
    have s0A := s06.trans s6A
    have haA := s0A _ _ ha
    walk_at "wl"
    refine w_iteD (fun h0 => ?_) (fun h0 => ?_)
    · have hz0 : hh = 0 := by omega
      subst hz0
      walk_at "wl"
      refine w_ixT 0 rfl haA rfl ?_
      walk_at "wl"
      refine ⟨r.q, _, g, rfl, mono_G _ _ _ _ s0A hg, hq, og, by simpa using hN, fun mv H11 fr3 c11 s11 hB11 hA11 => ?_⟩
      have s6B := s6A.trans s11
      walk_at "wl"
      refine w_slTo 2 rfl ((s6.trans s6B) _ _ e5) fun p12 H12 s12 e12 => ?_
      obtain ⟨e1, e2⟩ := hBN hB11
      subst e2
      rw [e1] at hA11
      obtain ⟨ta, x', y', rfl, hta, hx', hy'⟩ := hA11
      have s6C := s6B.trans s12
      have hD : DTup K (DMix K) (.ref ta) (.ref p12) H12 := ⟨ta, p12, _, _, rfl, rfl, sqT (s12 _ _ hta), sqT e12, Prs.cons (mix_frac (mono_F _ _ _ _ s12 hx') (mono_F _ _ _ _ ((s15.trans s6).trans s6C) hy)) (Prs.cons (mix_ring (mono_ring _ _ _ _ s12 hy') (mono_ring _ _ _ _ (((s4.trans s5).trans s6).trans s6C) hr1)) Prs.nil)⟩
      refine ⟨hD, fun H13 s13 => ?_⟩
      walk_at "wl"
      exact k _ (((s0A.trans s11).trans s12).trans s13)
    · obtain ⟨hp, rfl⟩ : ∃ hp, hh = hp + 1 := ⟨hh - 1, by omega⟩
      have hle : g.l + hp * (r.w - 1) - 1 ≤ g.l + (hp + 1) * (r.w - 1) - 1 := by
        have : hp * (r.w - 1) ≤ (hp + 1) * (r.w - 1) := Nat.mul_le_mul_right _ (by omega)
        omega
      have hNp : r.q ^ (g.l + hp * (r.w - 1) - 1) ≤ 60 := Nat.le_trans (Nat.pow_le_pow_right hq0 hle) hN
      walk_at "wl"
      refine ⟨rv, .ref c, r, g, hp, by rw [show ((hp + 1 : Nat) : Int) - 1 = (hp : Int) by omega]; rfl, mono_rule _ _ _ _ s6A hrv, o, mono_G _ _ _ _ s0A hg, og, by omega, hNp, fun tv3 H11 fr3 c11 s11 hB11 hA11 => ?_⟩
      obtain ⟨ta, x', y', z', rfl, hta, ⟨fa, rfl, hfa⟩, _, _⟩ := hA11
      have hfa : H11 fa = some (.tup [.int fr3.1, nV fr3.2]) := hfa
      obtain ⟨e1, e2⟩ := hBN hB9
      obtain ⟨ya, rfl, hya⟩ := hy
      have hyB : H11 ya = some (.tup [.int (lowestF (valH r g (hp + 1) false cm) cm.length).1, nV (lowestF (valH r g (hp + 1) false cm) cm.length).2]) := (((s15.trans s6).trans s6A).trans s11) _ _ hya
      have hlp : (ledN r hp g).l = (g.l + hp * (r.w - 1) - 1) + 1 := by rw [ledN_l r g hw]; omega
      have hmono := after_mono o hl hp hB9 hB11
      have hBp := hB11
      rw [hlp, Nat.add_sub_cancel] at hBp
      have sm := BestR.small hq0 hlp hBp
      obtain ⟨_, _, _, _, hIp⟩ := id hBp
      have smc := hIp.ln
      have sB := hB9
      rw [hll, Nat.add_sub_cancel] at sB
      have sm9 := BestR.small hq0 hll sB
      obtain ⟨_, _, _, _, hI9⟩ := id sB
      have sm9c := hI9.ln
      rw [e1] at hmono sm9
      generalize lowestF (valH r g (hp + 1) false cm) cm.length = L at *
      walk_at "wl"
      refine w_ixT 0 rfl hta rfl ?_
      walk_at "wl"
      refine w_ixT 0 rfl hyB rfl ?_
      walk_at "wl"
      refine w_ixT 1 rfl hfa rfl ?_
      walk_at "wl"
      refine w_ixT 0 rfl hfa rfl ?_
      walk_at "wl"
      refine w_ixT 1 rfl hyB rfl ?_
      walk_at "wl"
      rw [decide_eq_true hmono]
      exact k _ (s0A.trans s11)
end
end WL
/-! the greatest mean after more hours is right -/
namespace WL
open PySem PySem.Spec PyProof.Rows L2
open C8 (Cal Met Mak pe_c pe_mk pe_mt pe_mt0 pe_gc)
abbrev fD (fr : Int × Nat) : PyData := .tuple [.int fr.1, .int (fr.2 : Int)]
theorem dp_frac {K : PySem.W.Frag} {H : Hp} {v : V} {fr : Int × Nat} (h : RF H v fr) : Dp K H v (fD fr) := by
  obtain ⟨a, rfl, ha⟩ := h
  exact .tup (sqT ha) (.cons (.int _) (.cons (.int _) .nil))
theorem shaped_frac (fr : Int × Nat) : SeqAt.shaped (fD fr) = true := shaped_of (by simp [PyData.canLay0, PyData.canLayAll0]) (by simp [PyData.depth, PyData.depthAll])
theorem eqv_frac (fr : Int × Nat) : PyData.eqv (fD fr) (fD fr) = true := by simp [PyData.eqv, PyData.eqvAll]
/-- the first of the greatest so far -/
def FirstIn (S : List Int) (i : Nat) (up : Int) (k : Nat) : Prop := 1 ≤ k ∧ k ≤ i + 1 ∧ S[k - 1]? = some up ∧ (k = i + 1 → i = 0) ∧ ∀ t x, t < i → S[t]? = some x → x * k ≤ up * ((t + 1 : Nat) : Int) ∧ (t + 1 < k → x * k < up * ((t + 1 : Nat) : Int))
section
variable {P : Program} {w : World} {K : PySem.W.Frag} {mg : Str → Option Value} {base : Heap}
abbrev sp_law_far_right : Sp := fun vs H Q _ => ∃ (v u : V) (r : Ru) (g : Ga) (h : Nat), vs = [v, u, .int h] ∧ RM H v r ∧ r.Ok ∧ RG H u g ∧ g.Ok r.q ∧ 1 ≤ h ∧ h ≤ 4 ∧ r.q ^ (g.l + h * (r.w - 1) - 1) ≤ 17 ∧ ∀ H', Same H H' → Q (.bl true) H'
theorem ok_law_far_right (T : Txt K mg) : Cal P w K mg base 7 "_law_far_right" sp_law_far_right [] := by
  refine cal_of T.f_law_far_right T.g_law_far_right rfl rfl sc_law_far_right (fun _ _ _ _ _ _ us hl => match us, hl with | [_, _, _], _ => rfl) (fun vs H Q E h => ?_) (fun cdv A outer s H vs Q E hr h => ⟨_, (pss_cons (ps_par (i := 3) (j := 4) rfl sc_law_far_right.nd rfl rfl (by decide) rfl rfl (pa_cons (pe_ix (ix_tupK (K := K) rfl) (pv 0) pe_int (fun _ _ => rfl)) (pa_cons (pe_op op_add (pe_ix (ix_tupK (K := K) rfl) (pv 1) pe_int (fun _ _ => rfl)) (pe_op op_mul (pv 2) (pe_op op_sub (pe_ix (ix_tupK (K := K) rfl) (pv 0) pe_int (fun _ _ => rfl)) pe_int))) pa_nil)) (by rfl))
      (pss_cons (ps_set (i := 5) sc_law_far_right.nd rfl (Or.inl rfl) (pe_c (ok_law_power T) hr (by decide) rfl (pa_cons (pv 3) (pa_cons (pe_op op_sub (pv 4) pe_int) pa_nil))))
      (pss_cons (ps_set (i := 6) sc_law_far_right.nd rfl (Or.inl rfl) (pe_c (ok_law_sums T) hr (by decide) rfl (pa_cons (pv 3) (pa_cons (pe_c (ok_law_led_weights T) hr (by decide) rfl (pa_cons (pv 0) (pa_cons (pv 1) (pa_cons (pv 2) pa_nil)))) (pa_cons (pv 5) pa_nil)))))
      (pss_cons (ps_set (i := 7) sc_law_far_right.nd rfl (Or.inl rfl) (pe_tup (pa_cons (pe_ix (ix_listK (K := K) rfl) (pv 6) pe_int (fun _ _ => rfl)) (pa_cons pe_int pa_nil))))
      (pss_cons (ps_for PassesOwn.never rfl (pi_enumK (K := K) rfl (by rfl) T.b_enumerate (pa_cons (pv 6) pa_nil)) (pg_tupK (K := K) (n := 2) rfl rfl (pgs_cons (pg_name (i := 8) sc_law_far_right.nd rfl (.inl rfl)) (pgs_cons (pg_name (i := 9) sc_law_far_right.nd rfl (.inl rfl)) pgs_nil))) (pss_one (ps_if (pt_cmpR op_gt (pe_op op_mul (pv 9) (pe_ix (ix_tupK (K := K) rfl) (pv 7) pe_int (fun _ _ => rfl))) (pe_op op_mul (pe_ix (ix_tupK (K := K) rfl) (pv 7) pe_int (fun _ _ => rfl)) (pe_op op_add (pv 8) pe_int)) (nomark _)) (pss_one (ps_set (i := 7) sc_law_far_right.nd rfl (Or.inl rfl) (pe_tup (pa_cons (pv 9) (pa_cons (pe_op op_add (pv 8) pe_int) pa_nil))))) pss_nil)))
      (pss_cons (ps_asg (pe_c (ok_greatest_after T) hr (by decide) rfl (pa_cons (pe_c (ok_law_made T) hr (by decide) rfl (pa_cons (pv 0) pa_nil)) (pa_cons (pv 1) (pa_cons (pv 2) pa_nil)))) (pg_tupK (K := K) (n := 3) rfl rfl (pgs_cons (pg_name (i := 10) sc_law_far_right.nd rfl (.inl rfl)) (pgs_cons (pg_name (i := 11) sc_law_far_right.nd rfl (.inl rfl)) (pgs_cons (pg_name (i := 12) sc_law_far_right.nd rfl (.inl rfl)) pgs_nil)))))
      (pss_cons (ps_if (PW.pt (pw_or (pt_cmpR (op_neDK (K := K) rfl hr.units) (pv 10) (pe_c (ok_law_low T) hr (by decide) rfl (pa_cons (pe_ix (ix_tupK (K := K) rfl) (pv 7) pe_int (fun _ _ => rfl)) (pa_cons (pe_ix (ix_tupK (K := K) rfl) (pv 7) pe_int (fun _ _ => rfl)) pa_nil))) (nomark _)) (pw_or1 (pt_cmpR op_ne (pe_callB (cl_lenK (K := K) rfl) (by rfl) T.b_len (by decide +kernel) (pa_cons (prop_Ring_cells T rfl rfl hr (by decide) (pv 11)) pa_nil)) (pe_ix (ix_tupK (K := K) rfl) (pv 7) pe_int (fun _ _ => rfl)) (nomark _))))) (pss_one (ps_ret pe_bl)) pss_nil)
      (pss_cons (ps_if (pt_cmpR (op_neDK (K := K) rfl hr.units) (prop_Ring_cells T rfl rfl hr (by decide) (pv 12)) (pe_c (ok_law_later T) hr (by decide) rfl (pa_cons (pv 0) (pa_cons (prop_Ring_cells T rfl rfl hr (by decide) (pv 11)) (pa_cons (pv 2) pa_nil)))) (nomark _)) (pss_one (ps_ret pe_bl)) pss_nil)
      (pss_one (ps_ret (pe_cmpR op_eq (pe_c (ok_law_sum T) hr (by decide) rfl (pa_cons (pv 3) (pa_cons (pv 1) (pa_cons (prop_Ring_cells T rfl rfl hr (by decide) (pv 12)) pa_nil)))) (pe_ix (ix_tupK (K := K) rfl) (pv 7) pe_int (fun _ _ => rfl)) (nomark _)))))))))))), ?_⟩)
  · obtain ⟨v, u, r, g, h, rfl, _⟩ := h
    rfl
  · obtain ⟨v, u, r, g, hh, rfl, hv, o, hg, og, h1h, h4h, hN, k⟩ := h
    obtain ⟨a, b, rfl, ha, hb⟩ := id hv
    obtain ⟨c, d, rfl, hc, hd⟩ := id hg
    have hw := o.w1
    have hwd := o.wide
    have hq := o.q2
    have hq0 : 0 < r.q := by omega
    have hl := og.l1
    have h9 := pow_big hq og.small (by decide)
    have hm : hh * (r.w - 1) ≤ 4 * 4 := Nat.mul_le_mul h4h (by omega)
    have ew : (g.l : Int) + (hh : Int) * ((r.w : Int) - 1) = ((g.l + hh * (r.w - 1) : Nat) : Int) := by
      rw [Int.natCast_add, Int.natCast_mul, Int.natCast_sub (by omega)]
      rfl
    have hll : (ledN r hh g).l = (g.l + hh * (r.w - 1) - 1) + 1 := by rw [ledN_l r g hw]; omega
    have hN1 : 1 ≤ r.q ^ (g.l + hh * (r.w - 1) - 1) := Nat.pow_pos hq0
    have hW : r.q ^ (g.l + hh * (r.w - 1)) ≤ 180 := pow_split hq (show r.q ^ (g.l + hh * (r.w - 1) - 1) ≤ 60 by omega) (Nat.le_refl _)
    have eL : ledW r g hh = ledN r hh g := ledW_eq o g hl hh (.inr og.len)
    have oL : (ledN r hh g).Ok r.q := led_okN o og hh (by omega)
    walk_at "wl"
    refine w_ixT 0 rfl ha rfl ?_
    walk_at "wl"
    refine w_ixT 0 rfl hc rfl ?_
    walk_at "wl"
    refine w_ixT 2 rfl ha rfl ?_
    walk_at "wl"
    rw [ew]
    refine ⟨r.q, g.l + hh * (r.w - 1) - 1, by rw [Int.natCast_sub (by omega)]; rfl, by omega, by omega, ?_⟩
    walk_at "wl"
    refine ⟨_, _, r, g, hh, rfl, hv, o, hg, og, h4h, by omega, fun v1 H1 s1 hv1 => ?_⟩
    rw [eL] at hv1
    have hnl : (ledN r hh g).l - 1 = g.l + hh * (r.w - 1) - 1 := by rw [ledN_l r g hw]
    walk_at "wl"
    refine ⟨r.q, v1, ledN r hh g, r.q ^ (g.l + hh * (r.w - 1) - 1), rfl, hq, hv1, oL, by rw [hnl]; omega, by omega, fun sa H2 S hsa s2 e2 hSl hST => ?_⟩
    rw [hnl] at hST
    have hS0 : 0 < S.length := by omega
    walk_at "wl"
    refine w_ixL 0 rfl e2 (int_get hS0) ?_
    walk_at "wl"
    rename_i p3 H3 s3 e3
    have s23 := s2.trans s3
    have e23 := s3 _ _ e2
    walk_at "wl"
    refine f_enum (xs := S.map V.int) (fun i σ H' => Same H3 H' ∧ ∃ z8 z9 p up kk, σ = [some (.ref a), some (.ref c), some (.int hh), some (nV r.q), some (nV (g.l + hh * (r.w - 1))), some (nV (r.q ^ (g.l + hh * (r.w - 1) - 1))), some (.ref sa), some (.ref p), z8, z9, none, none, none] ∧ H' p = some (.tup [.int up, nV kk]) ∧ FirstIn S i up kk)
      (fun i σ H' _ h => h.1 _ _ e23) ⟨fun _ _ h => h, _, _, p3, S.getD 0 0, 1, rfl, e3, Nat.le_refl _, by omega, ?_, fun _ => rfl, fun t x ht => by omega⟩ ?_ ?_
    · show S[0]? = _
      rw [List.getD_eq_getElem?_getD, List.getElem?_eq_getElem hS0]
      rfl
    · rintro i x σ H4 H5 hi hx ⟨s4, z8, z9, p, up, kk, rfl, hp, hk1, hk2, hk3, hk4, hk5⟩ s5
      obtain ⟨n, rfl, hn⟩ := int_at hx
      have hi2 : i < S.length := by rw [List.length_map] at hi; exact hi
      have hp5 := s5 _ _ hp
      walk_at "wl"
      refine w_ixT 1 rfl hp5 rfl ?_
      walk_at "wl"
      refine w_ixT 0 rfl hp5 rfl ?_
      walk_at "wl"
      refine w_iteD (fun hgt => ?_) (fun hle => ?_)
      · walk_at "wl"
        rename_i p6 H6 s6 e6
        refine ⟨(s4.trans s5).trans s6, _, _, p6, n, i + 1, rfl, by rw [e6]; rfl, by omega, by omega, hn, fun h => by omega, fun t x ht hx9 => ?_⟩
        by_cases e : t = i
        · subst e
          rw [hn] at hx9
          cases hx9
          exact ⟨Int.le_refl _, fun h => by omega⟩
        · have h1 := (hk5 t x (by omega) hx9).1
          have hgt' : up * ((i + 1 : Nat) : Int) < n * (kk : Int) := hgt
          have h2 : x * ((i + 1 : Nat) : Int) < n * ((t + 1 : Nat) : Int) := frac_lt (a := up) (b := (kk : Int)) (by omega) (by omega) (by omega) h1 hgt'
          exact ⟨by omega, fun _ => h2⟩
      · walk_at "wl"
        refine ⟨s4.trans s5, _, _, p, up, kk, rfl, hp5, hk1, by omega, hk3, fun h => by omega, fun t x ht hx9 => ?_⟩
        by_cases e : t = i
        · subst e
          rw [hn] at hx9
          cases hx9
          have hle' : ¬ up * ((t + 1 : Nat) : Int) < n * (kk : Int) := hle
          exact ⟨by omega, fun h => by omega⟩
        · exact hk5 t x (by omega) hx9
    · rintro σ H4 ⟨s4, z8, z9, p, up, kk, rfl, hp, hk1, hk2, hk3, hk4, hk5⟩
      rw [List.length_map] at hk2 hk5
      have hkN : kk ≤ S.length := by
        have := (List.getElem?_eq_some_iff.mp hk3).1
        omega
      have s04 := (s1.trans s23).trans s4
      have hFM : FirstMax S up kk := ⟨hk1, hk3, fun t x hx => hk5 t x (List.getElem?_eq_some_iff.mp hx).1 hx⟩
      walk_at "wl"
      refine ⟨_, r, rfl, mono_M _ _ _ _ s04 hv, o, fun rv H5 s5 hrv => ?_⟩
      walk_at "wl"
      refine ⟨_, _, r, g, hh, rfl, hrv, o, mono_G _ _ _ _ (s04.trans s5) hg, og, h4h, by omega, fun tv H6 fr cc s6 hB hA => ?_⟩
      rw [hnl] at hB
      obtain ⟨hfr, hcl, hread⟩ := best_far hq0 hll hB hSl hST hFM
      obtain ⟨_, _, _, _, hI⟩ := id hB
      obtain ⟨u0, hu0, _⟩ := hI.has
      have kcc := hu0.2.1
      have klt := later_ok o kcc hh
      obtain ⟨ta, x', y', z', rfl, hta, hx', hy', hz'⟩ := hA
      have hp6 := (s5.trans s6) _ _ hp
      have s06 := (s04.trans s5).trans s6
      walk_at "wl"
      refine w_ixT 0 rfl hp6 rfl ?_
      walk_at "wl"
      refine w_ixT 1 rfl hp6 rfl ?_
      walk_at "wl"
      refine ⟨up, kk, rfl, by omega, by omega, fun lv H7 s7 hlv => ?_⟩
      rw [← hfr] at hlv
      refine ⟨fD fr, fD fr, dp_frac (mono_F _ _ _ _ s7 hx'), dp_frac hlv, shaped_frac fr, shaped_frac fr, ?_⟩
      rw [eqv_frac]
      obtain ⟨ya, ydx, yfs, rfl, hya, y1, yb, y2, hyb⟩ := mono_ring _ _ _ _ s7 hy'
      obtain ⟨za, zdx, zfs, rfl, hza, z1, zb, z2, hzb⟩ := mono_ring _ _ _ _ s7 hz'
      have hyb : H7 yb = some (.tup (cc.map nV)) := hyb
      have hzb : H7 zb = some (.tup ((laterN r hh cc).map nV)) := hzb
      have hp7 := s7 _ _ hp6
      have ml : (cc.map nV).length = cc.length := List.length_map _
      walk_at "wl"
      refine w_ixT 1 rfl hp7 rfl ?_
      walk_at "wl"
      refine w_iteN (fun h => absurd (by rw [ml, hcl]) h) (fun _ => ?_)
      have s07 := s06.trans s7
      walk_at "wl"
      refine ⟨_, _, r, cc, hh, rfl, mono_M _ _ _ _ s07 hv, ⟨yb, rfl, hyb⟩, o, kcc, by omega, by omega, fun lw H8 s8 hlw => ?_⟩
      refine ⟨wD (laterN r hh cc), wD (laterN r hh cc), dp_word ⟨zb, rfl, s8 _ _ hzb⟩, dp_word hlw, shaped_word _, shaped_word _, ?_⟩
      rw [eqv_self_ints]
      have hza8 := s8 _ _ hza
      have hp8 := s8 _ _ hp7
      walk_at "wl"
      refine ⟨r.q, _, _, g, laterN r hh cc, rfl, hq, mono_G _ _ _ _ (s07.trans s8) hg, og.len, by omega, ⟨zb, rfl, s8 _ _ hzb⟩, klt.1, by omega, fun H9 s9 => ?_⟩
      walk_at "wl"
      refine w_ixT 0 rfl (s9 _ _ hp8) rfl ?_
      walk_at "wl"
      rw [← read_ledN o g hh kcc hI.l1, hread, decide_eq_true rfl]
      exact k _ ((s07.trans s8).trans s9)
end
end WL
/-! the law -/
namespace WL
open PySem PySem.Spec PyProof.Rows L2
open C8 (Cal Met Mak pe_c pe_mk pe_mt pe_mt0 pe_gc)
theorem cl_reprK {X : Cx} {K : PySem.W.Frag} {n : Nat} (e : X.K = K) (hr : Room n X.A) (hg : X.A.guards = some []) : CallR X (.builtin "repr") (rRepr K) := e ▸ cr_reprG hr hg
theorem w_intB {H : Hp} {Q : VK} {b : Bool} (k : Q (.int (if b then 1 else 0)) H) : rInt1 [.bl b] H Q := .inr ⟨b, rfl, k⟩
theorem w_lenQ {K : PySem.W.Frag} {H : Hp} {Q : VK} {a : Addr} {xs : List V} (h : SqL K H a xs) (k : Q (.int xs.length) H) : rLen K [.ref a] H Q := ⟨a, xs, rfl, .inl h, k⟩
/-- the data of two pairs of fractions -/
abbrev gD (f1 f2 : Int × Nat) : PyData := .tuple [fD f1, fD f2]
/-- what one turn of the law holds -/
def Held (a al ac p c : Addr) (r : Ru) (g : Ga) (H : Hp) : Prop := DrAt H a al ac ∧ RM H (.ref p) r ∧ RG H (.ref c) g
theorem Held.same {a al ac p c : Addr} {r : Ru} {g : Ga} {H H' : Hp} (h : Held a al ac p c r g H) (s : Same H H') : Held a al ac p c r g H' := ⟨h.1.same s, mono_M _ _ _ _ s h.2.1, mono_G _ _ _ _ s h.2.2⟩
theorem Held.sd {a al ac p c : Addr} {r : Ru} {g : Ga} {H H' : Hp} (h : Held a al ac p c r g H) (s : SameD a al H H') (d : DrAt H' a al ac) : Held a al ac p c r g H' := ⟨d, sd_M h.1 s h.2.1, sd_G h.1 s h.2.2⟩
theorem Held.m {a al ac p c : Addr} {r : Ru} {g : Ga} {H : Hp} (h : Held a al ac p c r g H) : ∃ b, H p = some (.tup [nV r.q, .int r.f, nV r.w, .ref b]) := by
  obtain ⟨p', b, e, h1, _⟩ := h.2.1
  cases e
  exact ⟨b, h1⟩
theorem Held.g {a al ac p c : Addr} {r : Ru} {g : Ga} {H : Hp} (h : Held a al ac p c r g H) : ∃ b, H c = some (.tup [nV g.l, .ref b]) := by
  obtain ⟨p', b, e, h1, _⟩ := h.2.2
  cases e
  exact ⟨b, h1⟩
theorem w_if_gen {te1 te2 : TE} {ch : Bool} {Q : VK} {σ : L2.St} {H : Hp} (R : V → Hp → Prop) (h : ∀ Q' : VK, (∀ v H', R v H' → Q' v H') → (if ch = true then te1 σ H Q' else te2 σ H Q')) (k : ∀ v H', R v H' → Q v H') : if ch = true then te1 σ H Q else te2 σ H Q := h Q k
theorem dp_gain {K : PySem.W.Frag} {H : Hp} {v : V} {f1 f2 : Int × Nat} (h : RGain H v (f1, f2)) : Dp K H v (gD f1 f2) := by
  obtain ⟨a, x, y, rfl, ha, hx, hy⟩ := h
  exact .tup (sqT ha) (.cons (dp_frac hx) (.cons (dp_frac hy) .nil))
theorem w_neS {s : Str} {H : Hp} {Q : VK} (k : Q (.bl false) H) : rNe (.str s) (.str s) H Q := ⟨rfl, by rw [decide_eq_true rfl]; exact k⟩
section
variable {P : Program} {w : World} {K : PySem.W.Frag} {mg : Str → Option Value} {base : Heap}
theorem law_body (T : Txt K mg) {cdv : Value} {A : Around} {outer : List Env} {s : Shared} {H : Hp} {Q : VK} {E : XK} (hr : Room 8 (A.deeper (envOfC d_law.qual d_law.scope s.heap.objs.size (He.fAd K d_law.at_) cdv))) (hgd : (A.deeper (envOfC d_law.qual d_law.scope s.heap.objs.size (He.fAd K d_law.at_) cdv)).guards = some [])
    {s0 : Addr} {ns : List Int} (hs : SqL K H s0 (ns.map V.int)) (hn : ns.length ≤ 63) (k : ∀ H', Q (.bl true) H') :
    ∃ t, PSs (cxOf CX0 P w K mg base N_law d_law.qual d_law.scope (He.fAd K d_law.at_) cdv A outer s H E).nox d_law.body t ∧ t { nx := fun _ H' => Q .non H', rt := Q } (start N_law [.ref s0]) H := by
  refine ⟨_, (pss_cons (ps_set (i := 1) sc_law.nd rfl (Or.inl rfl) (pe_c (ok_law_begun T) hr (by decide) rfl (pa_cons (pv 0) pa_nil)))
      (pss_cons (ps_for PassesOwn.never rfl (pi_range1 rfl T.b_range (pa_cons (pe_op op_add pe_int (pe_callB (cl_min2 rfl) (by rfl) T.b_min (by decide +kernel) (pa_cons (pe_callB (cl_lenK (K := K) rfl) (by rfl) T.b_len (by decide +kernel) (pa_cons (pv 0) pa_nil)) (pa_cons pe_int pa_nil)))) pa_nil)) (pg_name (i := 2) sc_law.nd rfl (.inl rfl)) (pss_cons (ps_set (i := 3) sc_law.nd rfl (Or.inl rfl) (pe_c (ok_law_any_model T) hr (by decide) rfl (pa_cons (pv 1) (pa_cons pe_int pa_nil))))
      (pss_cons (ps_set (i := 4) sc_law.nd rfl (Or.inl rfl) (pe_c (ok_law_gauge T) hr (by decide) rfl (pa_cons (pv 1) (pa_cons (pe_ix (ix_tupK (K := K) rfl) (pv 3) pe_int (fun _ _ => rfl)) (pa_cons pe_int pa_nil)))))
      (pss_cons (ps_set (i := 5) sc_law.nd rfl (Or.inl rfl) (pe_ifExp (pt_cmpR op_eq (pe_ix (ix_tupK (K := K) rfl) (pv 3) pe_int (fun _ _ => rfl)) pe_int (nomark _)) (pe_op op_add pe_int (pe_callTy cl_int (by rfl) T.b_int (by decide +kernel) (pa_cons (pe_cmpR op_eq (pe_c (ok_law_take T) hr (by decide) rfl (pa_cons (pv 1) (pa_cons pe_int pa_nil))) pe_int (nomark _)) pa_nil))) pe_int))
      (pss_cons (ps_set (i := 6) sc_law.nd rfl (Or.inl rfl) (pe_c (ok_law_take T) hr (by decide) rfl (pa_cons (pv 1) (pa_cons pe_int pa_nil))))
      (pss_cons (ps_if (PW.pt (pw_and (pt_cmpR op_le (pe_op op_add (pe_ix (ix_tupK (K := K) rfl) (pv 4) pe_int (fun _ _ => rfl)) (pe_op op_mul (pv 6) (pe_op op_sub (pe_ix (ix_tupK (K := K) rfl) (pv 3) pe_int (fun _ _ => rfl)) pe_int))) (pv 5) (nomark _)) (pw_and1 (pt_not (pt_val (pe_c (ok_law_after_right T) hr (by decide) rfl (pa_cons (pv 3) (pa_cons (pv 4) (pa_cons (pv 6) pa_nil))))))))) (pss_one (ps_ret pe_bl)) pss_nil)
      (pss_cons (ps_set (i := 7) sc_law.nd rfl (Or.inl rfl) (pe_op op_add pe_int (pe_c (ok_law_take T) hr (by decide) rfl (pa_cons (pv 1) (pa_cons pe_int pa_nil)))))
      (pss_cons (ps_if (PW.pt (pw_and (pt_cmpR op_lt (pe_c (ok_law_power T) hr (by decide) rfl (pa_cons (pe_ix (ix_tupK (K := K) rfl) (pv 3) pe_int (fun _ _ => rfl)) (pa_cons (pe_op op_sub (pe_op op_add (pe_ix (ix_tupK (K := K) rfl) (pv 4) pe_int (fun _ _ => rfl)) (pe_op op_mul (pv 7) (pe_op op_sub (pe_ix (ix_tupK (K := K) rfl) (pv 3) pe_int (fun _ _ => rfl)) pe_int))) pe_int) pa_nil))) pe_int (nomark _)) (pw_and1 (pt_cmpR op_eq (pe_c (ok_law_take T) hr (by decide) rfl (pa_cons (pv 1) (pa_cons pe_int pa_nil))) pe_int (nomark _))))) (pss_one (ps_if (pt_not (pt_val (pe_c (ok_law_far_right T) hr (by decide) rfl (pa_cons (pv 3) (pa_cons (pv 4) (pa_cons (pv 7) pa_nil)))))) (pss_one (ps_ret pe_bl)) pss_nil)) pss_nil)
      (pss_one (ps_if (pt_cmpR op_le (pe_op op_sub (pe_op op_add (pe_ix (ix_tupK (K := K) rfl) (pv 4) pe_int (fun _ _ => rfl)) (pe_ix (ix_tupK (K := K) rfl) (pv 3) pe_int (fun _ _ => rfl))) pe_int) (pv 5) (nomark _)) (pss_cons (ps_par (i := 8) (j := 9) rfl sc_law.nd rfl rfl (by decide) rfl rfl (pa_cons (pe_op op_sub (pe_op op_add (pe_ix (ix_tupK (K := K) rfl) (pv 4) pe_int (fun _ _ => rfl)) (pe_ix (ix_tupK (K := K) rfl) (pv 3) pe_int (fun _ _ => rfl))) pe_int) (pa_cons (pe_c (ok_law_made T) hr (by decide) rfl (pa_cons (pv 3) pa_nil)) pa_nil)) (by rfl))
      (pss_cons (ps_set (i := 10) sc_law.nd rfl (Or.inl rfl) (pe_slice (sl_tupK (K := K) rfl) (pe_c (ok_law_extremes T) hr (by decide) rfl (pa_cons (pv 3) (pa_cons (pv 4) (pa_cons pe_int (pa_cons (pe_c (ok_law_power T) hr (by decide) rfl (pa_cons (pe_ix (ix_tupK (K := K) rfl) (pv 3) pe_int (fun _ _ => rfl)) (pa_cons (pe_op op_sub (pv 8) pe_int) pa_nil))) (pa_cons pe_bl pa_nil)))))) po_none (po_some pe_int)))
      (pss_one (ps_if (pt_cmpR op_ne (pe_callB (cl_reprK (K := K) rfl hr hgd) (by rfl) T.b_repr (by decide +kernel) (pa_cons (pe_lst (pa_cons (pe_c (ok_gain T) hr (by decide) rfl (pa_cons (pv 9) (pa_cons (pv 4) pa_nil))) (pa_cons (pe_ck (okk_gain T) hr (by decide) rfl (pk_cons (pv 4) (pk_cons (pv 9) pk_nil))) pa_nil))) pa_nil)) (pe_callB (cl_reprK (K := K) rfl hr hgd) (by rfl) T.b_repr (by decide +kernel) (pa_cons (pe_op op_rep (pe_lst (pa_cons (pv 10) pa_nil)) pe_int) pa_nil)) (nomark _)) (pss_one (ps_ret pe_bl)) pss_nil)))) pss_nil))))))))))
      (pss_one (ps_ret pe_bl)))), ?_⟩
  walk_at "wl"
  refine ⟨s0, ns, rfl, hs, hn, fun a al ac H1 s1 dr1 _ _ => ?_⟩
  walk_at "wl"
  refine w_lenQ (SqL.ext hs s1) ?_
  walk_at "wl"
  have hmin : ∃ m : Nat, 1 + (if (2 : Int) < ((ns.map V.int).length : Int) then (2 : Int) else ((ns.map V.int).length : Int)) = (m : Int) ∧ m ≤ 3 := by
    split
    · exact ⟨3, rfl, by omega⟩
    · exact ⟨1 + (ns.map V.int).length, by omega, by omega⟩
  obtain ⟨m, em, hm⟩ := hmin
  refine w_rngAt m em (by omega) ?_
  refine f_rng (fun i σ H' => DrAt H' a al ac ∧ ∃ z2 z3 z4 z5 z6 z7 z8 z9 z10, σ = [some (.ref s0), some (.ref a), z2, z3, z4, z5, z6, z7, z8, z9, z10]) ⟨dr1, _, _, _, _, _, _, _, _, _, rfl⟩ ?_ ?_
  · rintro i σ H2 hi ⟨dr2, z2, z3, z4, z5, z6, z7, z8, z9, z10, rfl⟩
    walk_at "wl"
    refine ⟨a, al, ac, rfl, dr2, fun mv r H3 sd3 dr3 hM3 hok => ?_⟩
    obtain ⟨p, b, rfl, hp, hb⟩ := id hM3
    have o := hok.ok
    have hq := o.q2
    have hw := o.w1
    have hw3 : r.w ≤ 3 := by
      rcases hq with e | e
      · exact hok.q2 e
      · exact Nat.le_trans (hok.q3 e) (by decide)
    walk_at "wl"
    refine w_ixT 0 rfl hp rfl ?_
    walk_at "wl"
    refine ⟨a, al, ac, r.q, rfl, dr3, hq, fun gv g H4 sd4 dr4 hG4 og hgl hwt => ?_⟩
    obtain ⟨c, d, rfl, hc, hd⟩ := id hG4
    have hM4 := sd_M dr3 sd4 hM3
    have hp4 := sd_tup dr3 sd4 hp
    have hl1 := og.l1
    have B4 : Held a al ac p c r g H4 := ⟨dr4, hM4, hG4⟩
    walk_at "wl"
    refine w_ixT 0 rfl hp4 rfl ?_
    walk_at "wl"
    refine w_if_gen (fun v H' => ∃ mm : Nat, v = .int mm ∧ (r.q = 2 → mm ≤ 4) ∧ (r.q = 3 → mm ≤ 2) ∧ Held a al ac p c r g H') (fun Q' hQ' => ?_) ?_
    · refine w_iteD (fun h => ?_) (fun h => ?_)
      · walk_at "wl"
        refine ⟨a, al, ac, 4, rfl, B4.1, by decide, by decide, fun kk H5 sd5 dr5 hkk => ?_⟩
        walk_at "wl"
        refine w_intB ?_
        walk_at "wl"
        by_cases e : (kk : Int) = 0
        · rw [decide_eq_true e]
          exact hQ' _ _ ⟨4, rfl, fun _ => Nat.le_refl _, fun _ => by omega, B4.sd sd5 dr5⟩
        · rw [decide_eq_false e]
          exact hQ' _ _ ⟨3, rfl, fun _ => by omega, fun _ => by omega, B4.sd sd5 dr5⟩
      · walk_at "wl"
        exact hQ' _ _ ⟨2, rfl, fun _ => by omega, fun _ => Nat.le_refl _, B4⟩
    rintro v5 H5 ⟨mm, rfl, hm2, hm3, B5⟩
    walk_at "wl"
    refine ⟨a, al, ac, 3, rfl, B5.1, by decide, by decide, fun hh H6 sd6 dr6 hhh => ?_⟩
    have B6 := B5.sd sd6 dr6
    obtain ⟨b6, hp6⟩ := B6.m
    obtain ⟨d6, hc6⟩ := B6.g
    have ewh : ∀ t : Nat, (g.l : Int) + (t : Int) * ((r.w : Int) - 1) = ((g.l + t * (r.w - 1) : Nat) : Int) := fun t => by
      rw [Int.natCast_add, Int.natCast_mul, Int.natCast_sub (by omega)]
      rfl
    have hpow : ∀ t, t ≤ (if r.q = 2 then 3 else 1) → r.q ^ t ≤ 8 ∧ r.q ^ (r.q ^ t) ≤ 1000 := fun t ht => by
      rcases hq with e | e
      · rw [e] at ht ⊢
        have h8 : 2 ^ t ≤ 2 ^ 3 := Nat.pow_le_pow_right (by decide) ht
        exact ⟨by omega, Nat.le_trans (Nat.pow_le_pow_right (by decide) h8) (by decide)⟩
      · rw [e] at ht ⊢
        have h3 : 3 ^ t ≤ 3 ^ 1 := Nat.pow_le_pow_right (by decide) ht
        exact ⟨by omega, Nat.le_trans (Nat.pow_le_pow_right (by decide) h3) (by decide)⟩
    have hmm : ∀ t, t + 1 ≤ mm → t ≤ (if r.q = 2 then 3 else 1) := fun t ht => by
      rcases hq with e | e
      · rw [if_pos e]
        have := hm2 e
        omega
      · rw [if_neg (by omega)]
        have := hm3 e
        omega
    walk_at "wm"
    refine w_cut (fun σ' H' => σ' = [some (.ref s0), some (.ref a), some (.int (i : Nat)), some (.ref p), some (.ref c), some (.int mm), some (.int hh), z7, z8, z9, z10] ∧ Held a al ac p c r g H') (fun nx' hnx => ?_) ?_
    · walk_at "wl"
      refine w_ixT 0 rfl hc6 rfl ?_
      walk_at "wl"
      refine w_ixT 2 rfl hp6 rfl ?_
      walk_at "wl"
      rw [ewh]
      refine w_iteD (fun hle => ?_) (fun _ => ?_)
      · have hle2 := hpow _ (hmm (g.l + hh * (r.w - 1) - 1) (by omega))
        walk_at "wl"
        refine ⟨_, _, r, g, hh, rfl, B6.2.1, o, B6.2.2, og, by omega, by omega, hle2.2, fun H7 s7 => ?_⟩
        walk_at "wl"
        exact hnx _ _ ⟨rfl, B6.same s7⟩
      · walk_at "wl"
        exact hnx _ _ ⟨rfl, B6⟩
    rintro σ7 H7 ⟨rfl, B7⟩
    walk_at "wl"
    refine ⟨a, al, ac, 2, rfl, B7.1, by decide, by decide, fun far H8 sd8 dr8 hfar => ?_⟩
    have B8 := B7.sd sd8 dr8
    obtain ⟨b8, hp8⟩ := B8.m
    obtain ⟨d8, hc8⟩ := B8.g
    have efar : (3 : Int) + (far : Int) = ((3 + far : Nat) : Int) := by rw [Int.natCast_add]; rfl
    walk_at "wm"
    rw [efar]
    refine w_cut (fun σ' H' => σ' = [some (.ref s0), some (.ref a), some (.int (i : Nat)), some (.ref p), some (.ref c), some (.int mm), some (.int hh), some (.int ((3 + far : Nat) : Int)), z8, z9, z10] ∧ Held a al ac p c r g H') (fun nx' hnx => ?_) ?_
    · have hml : (3 + far) * (r.w - 1) ≤ 4 * 2 := Nat.mul_le_mul (by omega) (by omega)
      walk_at "wl"
      refine w_ixT 0 rfl hp8 rfl ?_
      walk_at "wl"
      refine w_ixT 0 rfl hc8 rfl ?_
      walk_at "wl"
      refine w_ixT 2 rfl hp8 rfl ?_
      walk_at "wl"
      rw [ewh]
      refine ⟨r.q, g.l + (3 + far) * (r.w - 1) - 1, by rw [Int.natCast_sub (by omega)]; rfl, by omega, by omega, ?_⟩
      walk_at "wl"
      refine w_iteD (fun hlt => ?_) (fun _ => ?_)
      · walk_at "wl"
        refine ⟨a, al, ac, 2, rfl, B8.1, by decide, by decide, fun kk H9 sd9 dr9 hkk => ?_⟩
        have B9 := B8.sd sd9 dr9
        walk_at "wl"
        refine w_iteD (fun _ => ?_) (fun _ => ?_)
        · walk_at "wl"
          refine ⟨_, _, r, g, 3 + far, rfl, B9.2.1, o, B9.2.2, og, by omega, by omega, by omega, fun H10 s10 => ?_⟩
          walk_at "wl"
          exact hnx _ _ ⟨rfl, B9.same s10⟩
        · walk_at "wl"
          exact hnx _ _ ⟨rfl, B9⟩
      · walk_at "wl"
        exact hnx _ _ ⟨rfl, B8⟩
    rintro σ9 H9 ⟨rfl, B9⟩
    obtain ⟨b9, hp9⟩ := B9.m
    obtain ⟨d9, hc9⟩ := B9.g
    walk_at "wl"
    refine w_ixT 0 rfl hc9 rfl ?_
    walk_at "wl"
    refine w_ixT 2 rfl hp9 rfl ?_
    walk_at "wl"
    refine w_iteD (fun hle => ?_) (fun _ => ?_)
    · have hle2 := hpow _ (hmm (g.l + r.w - 2) (by omega))
      have hL1 : 1 ≤ r.q ^ (g.l + r.w - 2) := Nat.pow_pos (by omega)
      have hcl1 : (changeG r g).l = (g.l + r.w - 2) + 1 := by rw [change_l]; omega
      have hs729 : r.q ^ (g.l + r.w - 1) ≤ 729 := by
        have := pow_split (a := g.l + r.w - 1) hq (show r.q ^ (g.l + r.w - 1 - 1) ≤ 60 by rw [show g.l + r.w - 1 - 1 = g.l + r.w - 2 by omega]; omega) (Nat.le_refl _)
        omega
      have hq0 : 0 < r.q := by omega
      walk_at "wl"
      refine w_ixT 0 rfl hc9 rfl ?_
      walk_at "wl"
      refine w_ixT 2 rfl hp9 rfl ?_
      walk_at "wl"
      refine ⟨_, r, rfl, B9.2.1, o, fun rv H10 s10 hrv => ?_⟩
      have B10 := B9.same s10
      obtain ⟨b10, hp10⟩ := B10.m
      walk_at "wl"
      refine w_ixT 0 rfl hp10 rfl ?_
      walk_at "wl"
      refine ⟨r.q, g.l + r.w - 2, by rw [show ((g.l + r.w - 2 : Nat) : Int) = (g.l : Int) + (r.w : Int) - 1 - 1 by omega]; rfl, by omega, by omega, ?_⟩
      walk_at "wl"
      refine ⟨_, _, r, g, 1, r.q ^ (g.l + r.w - 2), true, rfl, B10.2.1, o, B10.2.2, og, by decide, hL1, by omega, hle2.2, fun v11 H11 cl cm s11 hLM hMI hres => ?_⟩
      obtain ⟨ea, x, y, z, rfl, hea, hx, hy, hz⟩ := hres
      have hclm := proc_le hLM.1
      have hcmm := proc_le hMI.1
      have hval : ∀ c, Kinds r.q c → 1 ≤ c.length → valH r g 1 true c = readR r.q (changeG r g) c := fun c kc c1 => by
        rw [read_change o og hs729 kc c1]
        show _ - (if true = true then _ else (0 : Int)) = _
        rw [if_pos rfl]
        rfl
      have bcl := val_bound hwt 1 true o hLM.1.2.1
      have bcm := val_bound hwt 1 true o hMI.1.2.1
      have lcl := low_le (valH r g 1 true cl) (show 0 < cl.length from hLM.1.1)
      have lcm := low_le (valH r g 1 true cm) (show 0 < cm.length from hMI.1.1)
      have sX : SmallF (lowestF (valH r g 1 true cl) cl.length) := ⟨by omega, by omega⟩
      have sY : SmallF (lowestF (valH r g 1 true cm) cm.length) := ⟨by omega, by omega⟩
      walk_at "wl"
      refine w_slTo 2 rfl hea fun pd H12 s12 e12 => ?_
      have hg12 : ∀ {f1 f2 : Int × Nat}, TopF r.q (r.q ^ (g.l + r.w - 2)) (changeG r g).at f1 → TopF r.q (r.q ^ (g.l + r.w - 2)) (negG (changeG r g)).at f2 → ((0 - f2.1, f2.2) : Int × Nat) = lowestF (valH r g 1 true cl) cl.length ∧ f1 = lowestF (valH r g 1 true cm) cm.length := fun {f1 f2} h1 h2 => by
        obtain ⟨a1, b1, hM1, e1⟩ := h1
        obtain ⟨a2, b2, hM2, e2⟩ := h2
        refine ⟨?_, ?_⟩
        · rw [e2]
          exact (least_eq hq0 hcl1 hval hM2 hLM).symm
        · rw [e1]
          exact (low_uniq (show 0 < cm.length from hMI.1.1) hM1.pos (most_eq hq0 hcl1 hval hM1 hMI)).symm
      generalize lowestF (valH r g 1 true cl) cl.length = X at *
      generalize lowestF (valH r g 1 true cm) cm.length = Y at *
      have B12 := (B10.same s11).same s12
      have s02 := s11.trans s12
      obtain ⟨rp1, rp2, rp3, rp4⟩ := repr_pairs sX sY sX sY
      have hN60 : r.q ^ (g.l + r.w - 2) ≤ 60 := by omega
      walk_at "wl"
      refine ⟨_, _, r, g, rfl, mono_rule _ _ _ _ s02 hrv, o, B12.2.2, og, hN60, fun v13 H13 f1 f2 s13 hT1 hT2 hG13 => ?_⟩
      obtain ⟨ee1, ee2⟩ := hg12 hT1 hT2
      rw [ee1, ee2] at hG13
      walk_at "wl"
      refine ⟨rv, .ref c, r, g, rfl, mono_rule _ _ _ _ (s02.trans s13) hrv, o, (B12.same s13).2.2, og, hN60, fun v14 H14 f3 f4 s14 hT3 hT4 hG14 => ?_⟩
      obtain ⟨ee3, ee4⟩ := hg12 hT3 hT4
      rw [ee3, ee4] at hG14
      walk_at "wl"
      rename_i p15 H15 hp15 s15 e15
      have hD13 := dp_gain (K := K) (mono_p (fun H H' v d s ⟨a, e, h⟩ => ⟨a, e, s _ _ h⟩) mono_F _ _ _ _ (s14.trans s15) hG13)
      have hD14 := dp_gain (K := K) (mono_p (fun H H' v d s ⟨a, e, h⟩ => ⟨a, e, s _ _ h⟩) mono_F _ _ _ _ s15 hG14)
      refine ⟨p15, _, rfl, .lst (sqL e15) (.cons hD13 (.cons hD14 .nil)), rp1, rp2, rp3, rp4, ?_⟩
      walk_at "wl"
      rename_i p16 H16 hp16 s16 e16
      refine w_rep 2 rfl e16 (by decide) (by simp) fun p17 H17 hp17 s17 e17 => ?_
      have s127 := ((((s13.trans s14).trans s15).trans s16).trans s17)
      have hDd : Dp K H17 (.ref pd) (gD X Y) := .tup (sqT (s127 _ _ e12)) (.cons (dp_frac (mono_F _ _ _ _ (s12.trans s127) hx)) (.cons (dp_frac (mono_F _ _ _ _ (s12.trans s127) hy)) .nil))
      walk_at "wl"
      refine ⟨p17, _, rfl, .lst (sqL e17) (.cons hDd (.cons hDd .nil)), rp1, rp2, rp3, rp4, ?_⟩
      refine w_neS ?_
      walk_at "wl"
      exact ⟨(B12.same s127).1, _, _, _, _, _, _, _, _, _, rfl⟩
    · walk_at "wl"
      exact ⟨B9.1, _, _, _, _, _, _, _, _, _, rfl⟩
  · rintro σ H2 ⟨dr2, z2, z3, z4, z5, z6, z7, z8, z9, z10, rfl⟩
    walk_at "wl"
    exact k _
end
end WL
/-! the law's call, as the outermost caller makes it (no text is being shown there) -/
namespace WL
open PySem PySem.Spec PyProof.Rows L2
theorem run_law {P : Program} {w : World} {K : PySem.W.Frag} {mg : Str → Option Value} {base : Heap} (T : Txt K mg) {fd : FuncData} (Fd : FunD K d_law.name d_law.qual d_law.params d_law.body d_law.scope [] [] (He.fAd K d_law.at_) fd)
    {st : Shared} {H : Hp} {sc : Addr} {ns : List Int} (ev : Env0 P w K mg base callerA [] st H) (hq : SqL K H sc (ns.map V.int)) (hn : ns.length ≤ 63) :
    codeAny (model P w) callerA (.call (.ref (He.fAd K d_law.at_)) ⟨[.ref sc], []⟩) (CR CX0 [] P w H st (fun v _ => v = .bl true) C8.E0) st := by
  have room : Room 9 callerA := ⟨rfl, by decide, by decide⟩
  have Sc : FnScope N_law p_law d_law.scope := sc_law
  have bind := FunD.bindsA (ps := p_law) Fd (fun _ _ _ _ _ _ us hl => match us, hl with | [_], _ => rfl) st [.ref sc] rfl
  obtain ⟨oc, od, dV, kV, doc, pm, an, cdv, ct, osl, rfl, look, code, _, _⟩ := Fd.ex
  have inK : K.In st.heap := ev.mod.kin.keeps fun b x q => (ev.bs b x q).1
  have noLim : st.heap.NoLimit := ev.mod.nolimit.keeps fun b x q => (ev.bs b x q).1
  have kinds : ∀ y ∈ p_law.zip [Value.ref sc], d_law.scope.names.lookup y.1 = some .local ∨ (d_law.scope.names.lookup y.1 = some .cell ∧ ((cellsFrom (st.heap.objs.size + 1) d_law.scope.names []).lookup y.1).isSome = true) := fun ⟨nm, v⟩ hy =>
    (Sc.par nm (List.of_mem_zip hy).1).elim .inl fun z => .inr ⟨z, PySem.W.cellsFrom_some _ _ _ (.inl z)⟩
  refine codeAny_call_function room.depth (inK _ _ look) rfl Sc.co Sc.gen rfl (PySem.W.codeRec_of inK code) (bind _ _ _ _ ?_)
  refine wpAny_newFunctionEnv_cells Sc.kind kinds fun en hen st1 fr => ?_
  subst hen
  refine ⟨noLim.keeps fr.toInCall.keep, codeAny_func ?_⟩
  obtain ⟨t, pt, rd⟩ := law_body (P := P) (w := w) (base := base) T (A := callerA) (outer := []) (s := st) (E := C8.E0) (cdv := cdv) (Q := fun v _ => v = .bl true) (room.deeper _) rfl hq hn fun _ => rfl
  have I0 : Inv (cxOf CX0 P w K mg base N_law d_law.qual d_law.scope (He.fAd K d_law.at_) cdv callerA [] st H C8.E0) [] (start N_law [.ref sc]) H st1 := inv_start Sc room.hd ev rfl (.cons rfl .nil) fr
  have done : ∀ {σ' : L2.St} {H' : Hp} {v : V} {u : Value} {st2 : Shared}, Inv (cxOf CX0 P w K mg base N_law d_law.qual d_law.scope (He.fAd K d_law.at_) cdv callerA [] st H C8.E0) [] σ' H' st2 → RelV v u → v = .bl true → CE [] P w H st (fun v _ => v = .bl true) u st2 :=
    fun J rv e => ⟨_, _, J.os, J.bare, J.base, J.hok, rv, e⟩
  refine wpAny_mono (pt.nox.run [] st1 _ H _ I0 rd) (fun fl st2 z => ?_) fun _ _ z => z
  cases fl with
  | ret u => exact let ⟨_, _, _, J, rv, e⟩ := z; done J rv e
  | next => exact let ⟨_, _, _, e⟩ := z; nomatch e
  | brk => exact let ⟨_, _, _, e⟩ := z; e.elim
  | cont => exact let ⟨_, _, _, e⟩ := z; e.elim
end WL
namespace WL
open PySem PySem.Spec PyProof.Rows L2
/-- from the state behind the top to the promise: the script is either one of the module's own lists or the one list that is held -/
theorem call_law {P : Program} {w : World} {K : PySem.W.Frag} {mg mb : Str → Option Value} {sc : Addr} {st : Shared} {us : List Value} {ns : List Int} (T : Txt K mg) {fd : FuncData} (Fd : FunD K d_law.name d_law.qual d_law.params d_law.body d_law.scope [] [] (He.fAd K d_law.at_) fd)
    (inK : K.In st.heap) (nsG : st.heap.Ns mainGlobals mg) (nsB : st.heap.Ns builtinsNs mb) (boot : ∀ y : Str, y ≠ "__name__" → mb y = bootBuiltins y) (noLim : st.heap.NoLimit) (noGen : st.gens = #[])
    (obj : st.heap.get? sc = some { cls := .type "list", data := .seq us.toArray }) (whole : IntsAre us ns) (short : ns.length ≤ 63) :
    codeAny (model P w) callerA (.call (.ref (He.fAd K d_law.at_)) ⟨[.ref sc], []⟩) (fun res st2 => res = .ok (.ret (.bool true)) ∧ OldK st.heap st2.heap ∧ st2.os = st.os ∧ AllBare st2.gens) st := by
  have vals := vals_ints whole
  have lens := whole.length
  have big : ns.length ≤ sizeLine := Nat.le_trans short (by decide)
  -- one run for every heap that holds the script at most
  have run : ∀ H : Hp, Only H → SqL K H sc (ns.map V.int) → HOk P w H st.heap → (∀ b, H b ≠ none → b = sc) → (H sc ≠ none → K.lookup sc = none) →
      codeAny (model P w) callerA (.call (.ref (He.fAd K d_law.at_)) ⟨[.ref sc], []⟩) (fun res st2 => res = .ok (.ret (.bool true)) ∧ OldK st.heap st2.heap ∧ st2.os = st.os ∧ AllBare st2.gens) st := by
    intro H only seq good just apart
    have free : ∀ {b : Addr} {x : Obj}, H b ≠ none → st.heap.get? b = some x → b = sc ∧ x = { cls := .type "list", data := .seq us.toArray } := fun {b x} h1 h2 => by
      have e := just b h1
      subst e
      rw [obj] at h2
      exact ⟨rfl, (Option.some.inj h2).symm⟩
    have hidden : ∀ {b : Addr} {x : Obj}, st.heap.get? b = some x → H b = none → (hidT st.heap H).get? b = some x := fun h1 h2 => hidT_get h1 h2
    have dictFree : ∀ {b : Addr} {x : Obj} {en : Array DictEntry} {n : Nat}, st.heap.get? b = some x → x.data = .dict en n → H b = none := fun {b x en n} h1 h2 => by
      by_cases c : H b = none
      · exact c
      · rw [(free c h1).2] at h2
        cases h2
    have space : ∀ {b : Addr} {m : Str → Option Value}, st.heap.Ns b m → (hidT st.heap H).Ns b m := fun {b m} z => let ⟨x, en, n, h1, h2, h3⟩ := z; ⟨x, en, n, hidden h1 (dictFree h1 h2), h2, h3⟩
    have inB : K.In (hidT st.heap H) := fun b x h1 => hidden (inK b x h1) (by
      by_cases c : H b = none
      · exact c
      · have e := just b c
        subst e
        rw [apart c] at h1
        cases h1)
    have modu : Mod K mg (hidT st.heap H) := ⟨inB, space nsG, ⟨mb, space nsB, boot⟩, noLim.elim fun m z => ⟨m, space z.1, z.2⟩⟩
    have ev : Env0 P w K mg (hidT st.heap H) callerA [] st H := ⟨rfl, modu, fun b x z => of_hidT z, Nat.le_of_eq (hidT_size _ _), trivial, fun b z => (List.not_mem_nil z).elim, good, .of_eq noGen⟩
    refine codeAny_mono (run_law T Fd ev seq short) fun res st2 z => ?_
    match res, z with
    | .error e, z => exact z.elim
    | .ok .next, z => exact z.elim
    | .ok .brk, z => exact z.elim
    | .ok .cont, z => exact z.elim
    | .ok (.ret u), ⟨v, H2, os2, bare2, keep2, good2, rel2, ev2⟩ =>
      have ev3 : v = .bl true := ev2
      subst ev3
      obtain rfl : u = Value.bool true := rel2
      refine ⟨rfl, OldK.of_keep fun b x h1 => ?_, os2, bare2⟩
      rcases only b with c | ⟨ob, xs, c⟩
      · exact keep2.keep b x h1 c (fun z => (List.not_mem_nil z).elim) (List.not_mem_nil)
      · have h3 := (good b _ c).1
        have h4 := (good2 b _ (keep2.frzs b ob _ c)).1
        rw [h1] at h3
        exact h4.trans (congrArg some (Option.some.inj h3).symm)
  cases own : K.lookup sc with
  | some x =>
    have e := (inK sc x own).symm.trans obj
    obtain rfl := Option.some.inj e
    refine run (fun _ => none) (fun _ => .inl rfl) (.inr ⟨_, us.toArray, _, own, rfl, rfl, rfl, by rw [List.size_toArray, lens]; exact big, by simpa using vals⟩) (fun _ _ z => nomatch z) (fun _ z => (z rfl).elim) fun z => (z rfl).elim
  | none =>
    let one : Hp := fun b => if b = sc then some (.frz { cls := .type "list", data := .seq us.toArray } (.lst (ns.map V.int))) else none
    have at1 : one sc = some (.frz { cls := .type "list", data := .seq us.toArray } (.lst (ns.map V.int))) := if_pos rfl
    have off : ∀ b, b ≠ sc → one b = none := fun b c => if_neg c
    refine run one (fun b => ?_) (.inl (.inr ⟨_, at1⟩)) (fun b x z => ?_) (fun b z => ?_) fun _ => own
    · by_cases c : b = sc
      · exact c ▸ .inr ⟨_, _, at1⟩
      · exact .inl (off b c)
    · by_cases c : b = sc
      · subst c
        rw [at1] at z
        obtain rfl := Option.some.inj z
        exact ⟨obj, by rw [List.length_map]; exact big, us, _, vals, obj⟩
      · rw [off b c] at z
        cases z
    · by_cases c : b = sc
      · exact c
      · exact (z (off b c)).elim
end WL
/-! the statement -/
open PySem PySem.W PySem.Calls PyProof.Rows
set_option maxHeartbeats 0 in
theorem PySem.Challenge.cw_weatherline_k42_whole_means_after_hours_holds : PySem.Challenge.rw_weatherline_k42_whole_means_after_hours.Holds := by
  w_on; o_law
  refine HandSHeadRun.head_any (r := WL.R) (q := view WL.R.prog [WL.lawAt]) (H := WL.hk) (ob := WL.ob) (M := 6000) (loose := WL.looseAll) (d := HandSHeadRun.topDef WL.R.prog WL.lawAt) (kwd := []) WL.ob_eq
    (by kernel_rfl) (fun s => by kernel_rfl) WL.run (by kernel_rfl) (by kernel_rfl) (by kernel_rfl) (by rfl) (by first | assumption | decide +kernel) (by decide +kernel) ⟨rfl, rfl, rfl, rfl, rfl, by decide +kernel⟩ ?hw ?hc
  case hw => w_witness2
  case hc =>
    refine Att.attach_call (l := PySem.Challenge.rw_weatherline_k42_whole_means_after_hours) (n := 63) rfl (by kernel_rfl) ?_
    intro w s0 s1 mg mb fa x pm cd doc sc us ns G Y _ _ _ hname obj whole short noGen
    obtain ⟨K, inK, says⟩ := Y
    have T := WL.txt_of inK G.T.g says
    have e0 : (HandSHeadRun.topDef WL.R.prog WL.lawAt).name = ("law" : PySem.Str) := by kernel_rfl
    have e1 : mg ("law" : PySem.Str) = some (.ref fa) := by
      rw [← e0]
      exact hname
    have e2 := e1.symm.trans T.g_law
    cases e2
    obtain ⟨fd, Fd⟩ := T.f_law
    exact WL.call_law T Fd inK G.T.g G.T.b G.T.builtins G.T.nolimit noGen obj whole short
#print axioms PySem.Challenge.cw_weatherline_k42_whole_means_after_hours_holds
