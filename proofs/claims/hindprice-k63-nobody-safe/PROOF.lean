import PyProof.Rows.All
import Wide.All
import OpenK.AllK
import Wide.FinOn
import KE.KStateDown
import Lean
import HandS.ForMost
import HandS.Exc
import HandS.WordsExc
import HandS.Defaults
import HandS.Head0
import HandS.Head1
import HandS.Head2
import HandS.HeadEnd
import HandS.HeadHook1
import HandS.HeadHook2
import KE.KSuper
import HandS.ExcInit
import HandS.ExcField
import HandS.ClsMeth
import HandS.Wide
import HandS.IsInst
import HandS.Walk
import HandS.Zip
import HandS.TupAny
import HandS.Small
import HandS.RaiseMore
import HandS.Codes
import KE.GoesEnum
import KE.GoesZip
import HandS.Iter
import HandS.Comp
import HandS.Star
import HandS.Style
import HandS.Conv
import HandS.Nested
import HandS.ExcOwn
import HandS.SetBool
import HandS.TupSets
import HandS.Strs
import HandS.SortRule
import HandS.TupMul
import KE.KDictZip
import KE.KDictItemsList
import PySem.Challenge.RW_hindprice_k63_whole_nobody_with_less_is
set_option Elab.async false
set_option linter.all false
set_option maxRecDepth 100000
namespace Hp
set_option Elab.async false
set_option linter.all false
set_option maxRecDepth 100000
set_option maxHeartbeats 4000000
open PySem PySem.Spec PyProof.Rows L2
def top (i : Nat) : Stmt := PySem.Challenge.pw_hindprice_k63_whole_nobody_with_less_is.main.body.getD i (.Pass ⟨0, 0, 0, 0⟩)
abbrev s_Misfit_init : Stmt := inClass (top 9) 0
abbrev s_is_integer : Stmt := top 15
abbrev s_is_within : Stmt := top 16
abbrev s_is_list : Stmt := top 17
abbrev s_common : Stmt := top 18
abbrev s_is_number : Stmt := top 19
abbrev s_above_in : Stmt := top 20
abbrev s_is_from_0 : Stmt := top 21
abbrev s_is_row : Stmt := top 22
abbrev s_is_sum_1 : Stmt := top 23
abbrev s_is_mix_of : Stmt := top 24
abbrev s_is_word_of : Stmt := top 25
abbrev s_kept : Stmt := top 26
abbrev s_kept_row : Stmt := top 27
abbrev s_need_integer : Stmt := top 28
abbrev s_need_goods : Stmt := top 29
abbrev s_need_days : Stmt := top 30
abbrev s_need_from_0 : Stmt := top 31
abbrev s_need_word : Stmt := top 32
abbrev s_halves : Stmt := top 41
abbrev s_lowest : Stmt := top 42
abbrev s_added : Stmt := top 43
abbrev s_turned : Stmt := top 44
abbrev s_less_by : Stmt := top 45
abbrev s_product : Stmt := top 46
abbrev s_part_by : Stmt := top 47
abbrev s_below : Stmt := top 48
abbrev s_sign_in : Stmt := top 49
abbrev s_total : Stmt := top 50
abbrev s_summed : Stmt := top 51
abbrev s_multiplied : Stmt := top 52
abbrev s_greater : Stmt := top 55
abbrev s_less_times : Stmt := top 58
abbrev s_undone : Stmt := top 59
abbrev s_lines_of : Stmt := top 60
abbrev s_Corner_init : Stmt := inClass (top 61) 0
abbrev s_need_corner : Stmt := top 62
abbrev s_are_mixes : Stmt := top 65
abbrev s_are_arrows : Stmt := top 66
abbrev s_Machine_init : Stmt := inClass (top 67) 0
abbrev s_need_machine : Stmt := top 72
abbrev s_Promise_init : Stmt := inClass (top 78) 0
abbrev s_Hold_init : Stmt := inClass (top 79) 0
abbrev s_Mix_init : Stmt := inClass (top 80) 0
abbrev s_Times_init : Stmt := inClass (top 81) 0
abbrev s_Sum_init : Stmt := inClass (top 82) 0
abbrev s_Greatest_init : Stmt := inClass (top 83) 0
abbrev s_Then_init : Stmt := inClass (top 84) 0
abbrev s_BestWalk_init : Stmt := inClass (top 85) 0
abbrev s_need_promise : Stmt := top 87
abbrev s_need_parts : Stmt := top 88
abbrev s_need_shares : Stmt := top 89
abbrev s_need_room : Stmt := top 90
abbrev s_spread : Stmt := top 91
abbrev s_many_words : Stmt := top 94
abbrev s_need_few_words : Stmt := top 95
abbrev s_run_in : Stmt := top 97
abbrev s_greatest_of : Stmt := top 99
abbrev s_led_on : Stmt := top 101
abbrev s_walk_worth_in : Stmt := top 102
abbrev s_worth_in : Stmt := top 103
abbrev s_best_many : Stmt := top 104
abbrev s_has_best_in : Stmt := top 105
abbrev s_need_no_best : Stmt := top 106
abbrev s_ways_by : Stmt := top 108
abbrev s_summed_in : Stmt := top 109
abbrev s_rest_by : Stmt := top 110
abbrev s_need_asked : Stmt := top 111
abbrev s_need_amounts : Stmt := top 112
abbrev s_need_told : Stmt := top 113
abbrev s_robbed_corner : Stmt := top 114
abbrev s_law_thief : Stmt := top 116
abbrev s_law_prowl : Stmt := top 117
abbrev s_law_one_of : Stmt := top 118
abbrev s_law_lowest : Stmt := top 119
abbrev s_law_ends : Stmt := top 120
abbrev s_law_plus : Stmt := top 121
abbrev s_law_times : Stmt := top 122
abbrev s_law_is_less : Stmt := top 123
abbrev s_law_total : Stmt := top 124
abbrev s_law_paid : Stmt := top 125
abbrev s_law_number : Stmt := top 126
abbrev s_law_mix : Stmt := top 127
abbrev s_law_minus : Stmt := top 128
abbrev s_law_over : Stmt := top 129
abbrev s_law_square : Stmt := top 130
abbrev s_law_parts : Stmt := top 131
abbrev s_law_is_corner : Stmt := top 132
abbrev s_law_rows : Stmt := top 133
abbrev s_law_corner : Stmt := top 134
abbrev s_law_leaf : Stmt := top 136
abbrev s_law_promise : Stmt := top 137
abbrev s_law_made : Stmt := top 138
abbrev s_law_walked : Stmt := top 139
abbrev s_law_worth : Stmt := top 141
abbrev s_law_words : Stmt := top 142
abbrev s_law_over_words : Stmt := top 143
abbrev s_law_spread : Stmt := top 144
abbrev s_law_is_refused : Stmt := top 145
abbrev s_law : Stmt := top 146
def d_Misfit_init : He.DefD := ⟨("Misfit", some "__init__"), "__init__", "Misfit.__init__", defArgs s_Misfit_init, defBody s_Misfit_init, defScope s_Misfit_init, [], []⟩
def d_is_integer : He.DefD := ⟨("is_integer", none), "is_integer", "is_integer", defArgs s_is_integer, defBody s_is_integer, defScope s_is_integer, [], []⟩
def d_is_within : He.DefD := ⟨("is_within", none), "is_within", "is_within", defArgs s_is_within, defBody s_is_within, defScope s_is_within, [], []⟩
def d_is_list : He.DefD := ⟨("is_list", none), "is_list", "is_list", defArgs s_is_list, defBody s_is_list, defScope s_is_list, [], []⟩
def d_common : He.DefD := ⟨("common", none), "common", "common", defArgs s_common, defBody s_common, defScope s_common, [], []⟩
def d_is_number : He.DefD := ⟨("is_number", none), "is_number", "is_number", defArgs s_is_number, defBody s_is_number, defScope s_is_number, [], []⟩
def d_above_in : He.DefD := ⟨("above_in", none), "above_in", "above_in", defArgs s_above_in, defBody s_above_in, defScope s_above_in, [], []⟩
def d_is_from_0 : He.DefD := ⟨("is_from_0", none), "is_from_0", "is_from_0", defArgs s_is_from_0, defBody s_is_from_0, defScope s_is_from_0, [], []⟩
def d_is_row : He.DefD := ⟨("is_row", none), "is_row", "is_row", defArgs s_is_row, defBody s_is_row, defScope s_is_row, [], []⟩
def d_is_sum_1 : He.DefD := ⟨("is_sum_1", none), "is_sum_1", "is_sum_1", defArgs s_is_sum_1, defBody s_is_sum_1, defScope s_is_sum_1, [], []⟩
def d_is_mix_of : He.DefD := ⟨("is_mix_of", none), "is_mix_of", "is_mix_of", defArgs s_is_mix_of, defBody s_is_mix_of, defScope s_is_mix_of, [], []⟩
def d_is_word_of : He.DefD := ⟨("is_word_of", none), "is_word_of", "is_word_of", defArgs s_is_word_of, defBody s_is_word_of, defScope s_is_word_of, [], []⟩
def d_kept : He.DefD := ⟨("kept", none), "kept", "kept", defArgs s_kept, defBody s_kept, defScope s_kept, [], []⟩
def d_kept_row : He.DefD := ⟨("kept_row", none), "kept_row", "kept_row", defArgs s_kept_row, defBody s_kept_row, defScope s_kept_row, [], []⟩
def d_need_integer : He.DefD := ⟨("need_integer", none), "need_integer", "need_integer", defArgs s_need_integer, defBody s_need_integer, defScope s_need_integer, [], []⟩
def d_need_goods : He.DefD := ⟨("need_goods", none), "need_goods", "need_goods", defArgs s_need_goods, defBody s_need_goods, defScope s_need_goods, [], []⟩
def d_need_days : He.DefD := ⟨("need_days", none), "need_days", "need_days", defArgs s_need_days, defBody s_need_days, defScope s_need_days, [], []⟩
def d_need_from_0 : He.DefD := ⟨("need_from_0", none), "need_from_0", "need_from_0", defArgs s_need_from_0, defBody s_need_from_0, defScope s_need_from_0, [], []⟩
def d_need_word : He.DefD := ⟨("need_word", none), "need_word", "need_word", defArgs s_need_word, defBody s_need_word, defScope s_need_word, [.str "word"], []⟩
def d_halves : He.DefD := ⟨("halves", none), "halves", "halves", defArgs s_halves, defBody s_halves, defScope s_halves, [], []⟩
def d_lowest : He.DefD := ⟨("lowest", none), "lowest", "lowest", defArgs s_lowest, defBody s_lowest, defScope s_lowest, [], []⟩
def d_added : He.DefD := ⟨("added", none), "added", "added", defArgs s_added, defBody s_added, defScope s_added, [], []⟩
def d_turned : He.DefD := ⟨("turned", none), "turned", "turned", defArgs s_turned, defBody s_turned, defScope s_turned, [], []⟩
def d_less_by : He.DefD := ⟨("less_by", none), "less_by", "less_by", defArgs s_less_by, defBody s_less_by, defScope s_less_by, [], []⟩
def d_product : He.DefD := ⟨("product", none), "product", "product", defArgs s_product, defBody s_product, defScope s_product, [], []⟩
def d_part_by : He.DefD := ⟨("part_by", none), "part_by", "part_by", defArgs s_part_by, defBody s_part_by, defScope s_part_by, [], []⟩
def d_below : He.DefD := ⟨("below", none), "below", "below", defArgs s_below, defBody s_below, defScope s_below, [], []⟩
def d_sign_in : He.DefD := ⟨("sign_in", none), "sign_in", "sign_in", defArgs s_sign_in, defBody s_sign_in, defScope s_sign_in, [], []⟩
def d_total : He.DefD := ⟨("total", none), "total", "total", defArgs s_total, defBody s_total, defScope s_total, [], []⟩
def d_summed : He.DefD := ⟨("summed", none), "summed", "summed", defArgs s_summed, defBody s_summed, defScope s_summed, [], []⟩
def d_multiplied : He.DefD := ⟨("multiplied", none), "multiplied", "multiplied", defArgs s_multiplied, defBody s_multiplied, defScope s_multiplied, [], []⟩
def d_greater : He.DefD := ⟨("greater", none), "greater", "greater", defArgs s_greater, defBody s_greater, defScope s_greater, [], []⟩
def d_less_times : He.DefD := ⟨("less_times", none), "less_times", "less_times", defArgs s_less_times, defBody s_less_times, defScope s_less_times, [], []⟩
def d_undone : He.DefD := ⟨("undone", none), "undone", "undone", defArgs s_undone, defBody s_undone, defScope s_undone, [], []⟩
def d_lines_of : He.DefD := ⟨("lines_of", none), "lines_of", "lines_of", defArgs s_lines_of, defBody s_lines_of, defScope s_lines_of, [], []⟩
def d_Corner_init : He.DefD := ⟨("Corner", some "__init__"), "__init__", "Corner.__init__", defArgs s_Corner_init, defBody s_Corner_init, defScope s_Corner_init, [], []⟩
def d_need_corner : He.DefD := ⟨("need_corner", none), "need_corner", "need_corner", defArgs s_need_corner, defBody s_need_corner, defScope s_need_corner, [.non], []⟩
def d_are_mixes : He.DefD := ⟨("are_mixes", none), "are_mixes", "are_mixes", defArgs s_are_mixes, defBody s_are_mixes, defScope s_are_mixes, [], []⟩
def d_are_arrows : He.DefD := ⟨("are_arrows", none), "are_arrows", "are_arrows", defArgs s_are_arrows, defBody s_are_arrows, defScope s_are_arrows, [], []⟩
def d_Machine_init : He.DefD := ⟨("Machine", some "__init__"), "__init__", "Machine.__init__", defArgs s_Machine_init, defBody s_Machine_init, defScope s_Machine_init, [], []⟩
def d_need_machine : He.DefD := ⟨("need_machine", none), "need_machine", "need_machine", defArgs s_need_machine, defBody s_need_machine, defScope s_need_machine, [.str "machine"], []⟩
def d_Promise_init : He.DefD := ⟨("Promise", some "__init__"), "__init__", "Promise.__init__", defArgs s_Promise_init, defBody s_Promise_init, defScope s_Promise_init, [], []⟩
def d_need_promise : He.DefD := ⟨("need_promise", none), "need_promise", "need_promise", defArgs s_need_promise, defBody s_need_promise, defScope s_need_promise, [.str "promise", .non], []⟩
def d_need_parts : He.DefD := ⟨("need_parts", none), "need_parts", "need_parts", defArgs s_need_parts, defBody s_need_parts, defScope s_need_parts, [], []⟩
def d_need_shares : He.DefD := ⟨("need_shares", none), "need_shares", "need_shares", defArgs s_need_shares, defBody s_need_shares, defScope s_need_shares, [], []⟩
def d_need_room : He.DefD := ⟨("need_room", none), "need_room", "need_room", defArgs s_need_room, defBody s_need_room, defScope s_need_room, [], []⟩
def d_spread : He.DefD := ⟨("spread", none), "spread", "spread", defArgs s_spread, defBody s_spread, defScope s_spread, [], []⟩
def d_many_words : He.DefD := ⟨("many_words", none), "many_words", "many_words", defArgs s_many_words, defBody s_many_words, defScope s_many_words, [], []⟩
def d_need_few_words : He.DefD := ⟨("need_few_words", none), "need_few_words", "need_few_words", defArgs s_need_few_words, defBody s_need_few_words, defScope s_need_few_words, [], []⟩
def d_run_in : He.DefD := ⟨("run_in", none), "run_in", "run_in", defArgs s_run_in, defBody s_run_in, defScope s_run_in, [], []⟩
def d_greatest_of : He.DefD := ⟨("greatest_of", none), "greatest_of", "greatest_of", defArgs s_greatest_of, defBody s_greatest_of, defScope s_greatest_of, [], []⟩
def d_led_on : He.DefD := ⟨("led_on", none), "led_on", "led_on", defArgs s_led_on, defBody s_led_on, defScope s_led_on, [], []⟩
def d_walk_worth_in : He.DefD := ⟨("walk_worth_in", none), "walk_worth_in", "walk_worth_in", defArgs s_walk_worth_in, defBody s_walk_worth_in, defScope s_walk_worth_in, [], []⟩
def d_worth_in : He.DefD := ⟨("worth_in", none), "worth_in", "worth_in", defArgs s_worth_in, defBody s_worth_in, defScope s_worth_in, [], []⟩
def d_best_many : He.DefD := ⟨("best_many", none), "best_many", "best_many", defArgs s_best_many, defBody s_best_many, defScope s_best_many, [], []⟩
def d_has_best_in : He.DefD := ⟨("has_best_in", none), "has_best_in", "has_best_in", defArgs s_has_best_in, defBody s_has_best_in, defScope s_has_best_in, [], []⟩
def d_need_no_best : He.DefD := ⟨("need_no_best", none), "need_no_best", "need_no_best", defArgs s_need_no_best, defBody s_need_no_best, defScope s_need_no_best, [], []⟩
def d_ways_by : He.DefD := ⟨("ways_by", none), "ways_by", "ways_by", defArgs s_ways_by, defBody s_ways_by, defScope s_ways_by, [], []⟩
def d_summed_in : He.DefD := ⟨("summed_in", none), "summed_in", "summed_in", defArgs s_summed_in, defBody s_summed_in, defScope s_summed_in, [], []⟩
def d_rest_by : He.DefD := ⟨("rest_by", none), "rest_by", "rest_by", defArgs s_rest_by, defBody s_rest_by, defScope s_rest_by, [], []⟩
def d_need_asked : He.DefD := ⟨("need_asked", none), "need_asked", "need_asked", defArgs s_need_asked, defBody s_need_asked, defScope s_need_asked, [], []⟩
def d_need_amounts : He.DefD := ⟨("need_amounts", none), "need_amounts", "need_amounts", defArgs s_need_amounts, defBody s_need_amounts, defScope s_need_amounts, [], []⟩
def d_need_told : He.DefD := ⟨("need_told", none), "need_told", "need_told", defArgs s_need_told, defBody s_need_told, defScope s_need_told, [], []⟩
def d_robbed_corner : He.DefD := ⟨("robbed_corner", none), "robbed_corner", "robbed_corner", defArgs s_robbed_corner, defBody s_robbed_corner, defScope s_robbed_corner, [], []⟩
def d_law_thief : He.DefD := ⟨("_law_thief", none), "_law_thief", "_law_thief", defArgs s_law_thief, defBody s_law_thief, defScope s_law_thief, [], []⟩
def d_law_prowl : He.DefD := ⟨("_law_prowl", none), "_law_prowl", "_law_prowl", defArgs s_law_prowl, defBody s_law_prowl, defScope s_law_prowl, [], []⟩
def d_law_one_of : He.DefD := ⟨("_law_one_of", none), "_law_one_of", "_law_one_of", defArgs s_law_one_of, defBody s_law_one_of, defScope s_law_one_of, [], []⟩
def d_law_lowest : He.DefD := ⟨("_law_lowest", none), "_law_lowest", "_law_lowest", defArgs s_law_lowest, defBody s_law_lowest, defScope s_law_lowest, [], []⟩
def d_law_ends : He.DefD := ⟨("_law_ends", none), "_law_ends", "_law_ends", defArgs s_law_ends, defBody s_law_ends, defScope s_law_ends, [], []⟩
def d_law_plus : He.DefD := ⟨("_law_plus", none), "_law_plus", "_law_plus", defArgs s_law_plus, defBody s_law_plus, defScope s_law_plus, [], []⟩
def d_law_times : He.DefD := ⟨("_law_times", none), "_law_times", "_law_times", defArgs s_law_times, defBody s_law_times, defScope s_law_times, [], []⟩
def d_law_is_less : He.DefD := ⟨("_law_is_less", none), "_law_is_less", "_law_is_less", defArgs s_law_is_less, defBody s_law_is_less, defScope s_law_is_less, [], []⟩
def d_law_total : He.DefD := ⟨("_law_total", none), "_law_total", "_law_total", defArgs s_law_total, defBody s_law_total, defScope s_law_total, [], []⟩
def d_law_paid : He.DefD := ⟨("_law_paid", none), "_law_paid", "_law_paid", defArgs s_law_paid, defBody s_law_paid, defScope s_law_paid, [], []⟩
def d_law_number : He.DefD := ⟨("_law_number", none), "_law_number", "_law_number", defArgs s_law_number, defBody s_law_number, defScope s_law_number, [], []⟩
def d_law_mix : He.DefD := ⟨("_law_mix", none), "_law_mix", "_law_mix", defArgs s_law_mix, defBody s_law_mix, defScope s_law_mix, [], []⟩
def d_law_minus : He.DefD := ⟨("_law_minus", none), "_law_minus", "_law_minus", defArgs s_law_minus, defBody s_law_minus, defScope s_law_minus, [], []⟩
def d_law_over : He.DefD := ⟨("_law_over", none), "_law_over", "_law_over", defArgs s_law_over, defBody s_law_over, defScope s_law_over, [], []⟩
def d_law_square : He.DefD := ⟨("_law_square", none), "_law_square", "_law_square", defArgs s_law_square, defBody s_law_square, defScope s_law_square, [], []⟩
def d_law_parts : He.DefD := ⟨("_law_parts", none), "_law_parts", "_law_parts", defArgs s_law_parts, defBody s_law_parts, defScope s_law_parts, [], []⟩
def d_law_is_corner : He.DefD := ⟨("_law_is_corner", none), "_law_is_corner", "_law_is_corner", defArgs s_law_is_corner, defBody s_law_is_corner, defScope s_law_is_corner, [], []⟩
def d_law_rows : He.DefD := ⟨("_law_rows", none), "_law_rows", "_law_rows", defArgs s_law_rows, defBody s_law_rows, defScope s_law_rows, [], []⟩
def d_law_corner : He.DefD := ⟨("_law_corner", none), "_law_corner", "_law_corner", defArgs s_law_corner, defBody s_law_corner, defScope s_law_corner, [], []⟩
def d_law_leaf : He.DefD := ⟨("_law_leaf", none), "_law_leaf", "_law_leaf", defArgs s_law_leaf, defBody s_law_leaf, defScope s_law_leaf, [], []⟩
def d_law_promise : He.DefD := ⟨("_law_promise", none), "_law_promise", "_law_promise", defArgs s_law_promise, defBody s_law_promise, defScope s_law_promise, [], []⟩
def d_law_made : He.DefD := ⟨("_law_made", none), "_law_made", "_law_made", defArgs s_law_made, defBody s_law_made, defScope s_law_made, [], []⟩
def d_law_walked : He.DefD := ⟨("_law_walked", none), "_law_walked", "_law_walked", defArgs s_law_walked, defBody s_law_walked, defScope s_law_walked, [], []⟩
def d_law_worth : He.DefD := ⟨("_law_worth", none), "_law_worth", "_law_worth", defArgs s_law_worth, defBody s_law_worth, defScope s_law_worth, [], []⟩
def d_law_words : He.DefD := ⟨("_law_words", none), "_law_words", "_law_words", defArgs s_law_words, defBody s_law_words, defScope s_law_words, [], []⟩
def d_law_over_words : He.DefD := ⟨("_law_over_words", none), "_law_over_words", "_law_over_words", defArgs s_law_over_words, defBody s_law_over_words, defScope s_law_over_words, [], []⟩
def d_law_spread : He.DefD := ⟨("_law_spread", none), "_law_spread", "_law_spread", defArgs s_law_spread, defBody s_law_spread, defScope s_law_spread, [], []⟩
def d_law_is_refused : He.DefD := ⟨("_law_is_refused", none), "_law_is_refused", "_law_is_refused", defArgs s_law_is_refused, defBody s_law_is_refused, defScope s_law_is_refused, [], []⟩
def d_law : He.DefD := ⟨("law", none), "law", "law", defArgs s_law, defBody s_law, defScope s_law, [], []⟩
def fn : List He.DefD := [d_Misfit_init, d_is_integer, d_is_within, d_is_list, d_common, d_is_number, d_above_in, d_is_from_0, d_is_row, d_is_sum_1, d_is_mix_of, d_is_word_of, d_kept, d_kept_row, d_need_integer, d_need_goods, d_need_days, d_need_from_0, d_need_word, d_halves, d_lowest, d_added, d_turned, d_less_by, d_product, d_part_by, d_below, d_sign_in, d_total, d_summed, d_multiplied, d_greater, d_less_times, d_undone, d_lines_of, d_Corner_init, d_need_corner, d_are_mixes, d_are_arrows, d_Machine_init, d_need_machine, d_Promise_init, d_need_promise, d_need_parts, d_need_shares, d_need_room, d_spread, d_many_words, d_need_few_words, d_run_in, d_greatest_of, d_led_on, d_walk_worth_in, d_worth_in, d_best_many, d_has_best_in, d_need_no_best, d_ways_by, d_summed_in, d_rest_by, d_need_asked, d_need_amounts, d_need_told, d_robbed_corner, d_law_thief, d_law_prowl, d_law_one_of, d_law_lowest, d_law_ends, d_law_plus, d_law_times, d_law_is_less, d_law_total, d_law_paid, d_law_number, d_law_mix, d_law_minus, d_law_over, d_law_square, d_law_parts, d_law_is_corner, d_law_rows, d_law_corner, d_law_leaf, d_law_promise, d_law_made, d_law_walked, d_law_worth, d_law_words, d_law_over_words, d_law_spread, d_law_is_refused, d_law]
def fa : List He.Fa := [.glo "is_integer",
  .glo "is_within",
  .glo "is_list",
  .glo "common",
  .glo "is_number",
  .glo "above_in",
  .glo "is_from_0",
  .glo "is_row",
  .glo "is_sum_1",
  .glo "is_mix_of",
  .glo "is_word_of",
  .glo "kept",
  .glo "kept_row",
  .glo "need_integer",
  .glo "need_goods",
  .glo "need_days",
  .glo "need_from_0",
  .glo "need_word",
  .glo "halves",
  .glo "lowest",
  .glo "added",
  .glo "turned",
  .glo "less_by",
  .glo "product",
  .glo "part_by",
  .glo "below",
  .glo "sign_in",
  .glo "total",
  .glo "summed",
  .glo "multiplied",
  .glo "greater",
  .glo "less_times",
  .glo "undone",
  .glo "lines_of",
  .glo "need_corner",
  .glo "are_mixes",
  .glo "are_arrows",
  .glo "need_machine",
  .glo "need_promise",
  .glo "need_parts",
  .glo "need_shares",
  .glo "need_room",
  .glo "spread",
  .glo "many_words",
  .glo "need_few_words",
  .glo "run_in",
  .glo "greatest_of",
  .glo "led_on",
  .glo "walk_worth_in",
  .glo "worth_in",
  .glo "best_many",
  .glo "has_best_in",
  .glo "need_no_best",
  .glo "ways_by",
  .glo "summed_in",
  .glo "rest_by",
  .glo "need_asked",
  .glo "need_amounts",
  .glo "need_told",
  .glo "robbed_corner",
  .glo "_law_thief",
  .glo "_law_prowl",
  .glo "_law_one_of",
  .glo "_law_lowest",
  .glo "_law_ends",
  .glo "_law_plus",
  .glo "_law_times",
  .glo "_law_is_less",
  .glo "_law_total",
  .glo "_law_paid",
  .glo "_law_number",
  .glo "_law_mix",
  .glo "_law_minus",
  .glo "_law_over",
  .glo "_law_square",
  .glo "_law_parts",
  .glo "_law_is_corner",
  .glo "_law_rows",
  .glo "_law_corner",
  .glo "_law_leaf",
  .glo "_law_promise",
  .glo "_law_made",
  .glo "_law_walked",
  .glo "_law_worth",
  .glo "_law_words",
  .glo "_law_over_words",
  .glo "_law_spread",
  .glo "_law_is_refused",
  .glo "law",
  .glo "Corner",
  .glo "Machine",
  .glo "Promise",
  .glo "Hold",
  .glo "Mix",
  .glo "Times",
  .glo "Sum",
  .glo "Greatest",
  .glo "Then",
  .glo "BestWalk",
  .glo "Misfit",
  .glo "PriceError",
  .free "isinstance",
  .free "int",
  .free "bool",
  .free "list",
  .free "tuple",
  .free "len",
  .free "abs",
  .free "all",
  .free "range",
  .free "enumerate",
  .free "zip",
  .free "sum",
  .free "max",
  .free "min",
  .free "sorted",
  .free "repr",
  .free "super",
  .int "MOST_GOODS" 5,
  .int "MOST_DAYS" 1000,
  .int "MOST_STANDINGS" 6,
  .int "MOST_PARTS" 6,
  .int "MOST_LEVELS" 6,
  .int "MOST_PROMISES" 40,
  .int "MOST_WORDS" 4096,
  .cls "Corner",
  .noat "Corner" "rows",
  .noat "Corner" "goods",
  .noat "Corner" "lines",
  .noat "Corner" "weights",
  .mkr "Corner",
  .cls "Machine",
  .noat "Machine" "mixes",
  .noat "Machine" "arrows",
  .noat "Machine" "many",
  .noat "Machine" "goods",
  .noat "Machine" "leads",
  .mkr "Machine",
  .cls "Promise",
  .noat "Promise" "kind",
  .noat "Promise" "told",
  .noat "Promise" "goods",
  .noat "Promise" "inner",
  .noat "Promise" "many",
  .noat "Promise" "levels",
  .mkr "Promise",
  .cls "Hold",
  .noat "Hold" "kind",
  .noat "Hold" "told",
  .noat "Hold" "goods",
  .noat "Hold" "inner",
  .noat "Hold" "many",
  .noat "Hold" "levels",
  .noat "Hold" "good",
  .mkr "Hold",
  .cls "Mix",
  .noat "Mix" "kind",
  .noat "Mix" "told",
  .noat "Mix" "goods",
  .noat "Mix" "inner",
  .noat "Mix" "many",
  .noat "Mix" "levels",
  .noat "Mix" "shares",
  .mkr "Mix",
  .cls "Times",
  .noat "Times" "kind",
  .noat "Times" "told",
  .noat "Times" "goods",
  .noat "Times" "inner",
  .noat "Times" "many",
  .noat "Times" "levels",
  .noat "Times" "number",
  .noat "Times" "part",
  .mkr "Times",
  .cls "Sum",
  .noat "Sum" "kind",
  .noat "Sum" "told",
  .noat "Sum" "goods",
  .noat "Sum" "inner",
  .noat "Sum" "many",
  .noat "Sum" "levels",
  .noat "Sum" "parts",
  .mkr "Sum",
  .cls "Greatest",
  .noat "Greatest" "kind",
  .noat "Greatest" "told",
  .noat "Greatest" "goods",
  .noat "Greatest" "inner",
  .noat "Greatest" "many",
  .noat "Greatest" "levels",
  .noat "Greatest" "parts",
  .mkr "Greatest",
  .cls "Then",
  .noat "Then" "kind",
  .noat "Then" "told",
  .noat "Then" "goods",
  .noat "Then" "inner",
  .noat "Then" "many",
  .noat "Then" "levels",
  .noat "Then" "days",
  .noat "Then" "first",
  .noat "Then" "last",
  .mkr "Then",
  .cls "BestWalk",
  .noat "BestWalk" "kind",
  .noat "BestWalk" "told",
  .noat "BestWalk" "goods",
  .noat "BestWalk" "inner",
  .noat "BestWalk" "many",
  .noat "BestWalk" "levels",
  .noat "BestWalk" "machine",
  .noat "BestWalk" "weights",
  .mkr "BestWalk"]
/-! ### further facts of the written part, by one Bool -/
def insNames : List Str := ["Corner", "Machine", "Promise", "Hold", "Mix", "Times", "Sum", "Greatest", "Then", "BestWalk"]
def insOk (K : PySem.W.Frag) (x : Str) : Bool :=
  decide (PySem.W.findIn K (.ref (He.ga K x)) "__class__" = some (some (.builtin "object.__class__"))) && (decide (PySem.W.specialIn K (.builtin "object.__class__") "__get__" = some (some (.builtin "getset_descriptor.__get__"))) &&
  (decide (PySem.W.takesIn K (.builtin "object.__class__") = some true) && decide (PySem.W.mroIn K (He.ga K x) (.type "object") = some true)))
def isaList : List (Str × Str) := [("Corner", "Corner"), ("Machine", "Machine"), ("Hold", "Promise"), ("Mix", "Promise"), ("Times", "Promise"), ("Sum", "Promise"), ("Greatest", "Promise"), ("Then", "Promise"), ("BestWalk", "Promise")]
def isaOk (K : PySem.W.Frag) (p : Str × Str) : Bool := decide (PySem.W.kitOne K (.ref (He.ga K p.1)) (.ref (He.ga K p.2)) = some true)
/-- what the program's own text says: its file, that no name of its top is super -/
structure PF (P : Program) : Prop where
  file : P.main.file = PySem.Challenge.pw_hindprice_k63_whole_nobody_with_less_is.main.file
  top : (P.main.scope.names.lookup ("super" : Str)).isSome = false
/-- an __init__ that calls super().__init__ -/
structure SupD where
  x : Str
  qual : Str
  st : Stmt
def iAd (K : PySem.W.Frag) (x : Str) : Addr := He.ma K (He.ga K x) "__init__"
abbrev SupW : Type := Option (Str × Str × Arguments × FuncBody × Scope × Addr × List Str × Addr)
def supW (K : PySem.W.Frag) (x : Str) : SupW := match K.lookup (iAd K x) with
  | some ⟨_, _, .func fd, _⟩ => some (fd.name, fd.qualname, fd.params, fd.body, fd.scope, fd.globals, fd.closure.map (·.1), fd.builtins)
  | _ => none
def SupD.val (d : SupD) : SupW := some ("__init__", d.qual, defArgs d.st, .stmts (defBody d.st), defScope d.st, mainGlobals, ["__class__"], builtinsNs)
def supL : List SupD := [⟨"Hold", "Hold.__init__", s_Hold_init⟩, ⟨"Mix", "Mix.__init__", s_Mix_init⟩, ⟨"Times", "Times.__init__", s_Times_init⟩, ⟨"Sum", "Sum.__init__", s_Sum_init⟩, ⟨"Greatest", "Greatest.__init__", s_Greatest_init⟩, ⟨"Then", "Then.__init__", s_Then_init⟩, ⟨"BestWalk", "BestWalk.__init__", s_BestWalk_init⟩]
def supFn (K : PySem.W.Frag) (D : Addr) (q : Str) (fd : FuncData) : Bool :=
  (match fd.defaults with | .none => true | _ => false) && (PySem.W.codeIn K fd.code q && ((match fd.code with
    | .ref cda => (match K.lookup cda with
      | some ⟨_, _, .fields vs, _⟩ => (match (vs[2]? : Option Value) with | some (.str file _) => PySem.Challenge.pw_hindprice_k63_whole_nobody_with_less_is.main.file == file | _ => false)
      | _ => false)
    | _ => false) && (match fd.closure with
    | [(_, cc)] => (match K.lookup cc with
      | some ⟨_, _, .cell (some (.ref D')), _⟩ => decide (D' = D)
      | _ => false)
    | _ => false)))
def supB (K : PySem.W.Frag) (d : SupD) : Bool :=
  (match K.lookup (iAd K d.x) with
    | some ⟨_, _, .func fd, _⟩ => supFn K (He.ga K d.x) d.qual fd
    | _ => false) && ((PySem.W.clsIn K (He.ga K d.x)).isSome && (decide (PySem.W.mroIn K (He.ga K d.x) (.ref (He.ga K d.x)) = some true) &&
  (decide (PySem.W.ks_superIn K (He.ga K d.x) (He.ga K d.x) "__init__" = some (some (.ref (iAd K "Promise")))) && (decide (PySem.W.typeIn K (.ref (iAd K "Promise")) = some (.type "function")) && (PySem.W.fnIn K (iAd K "Promise") &&
  decide (PySem.W.nsIn K cStatics "thirdparty.any" = some none))))))
def oexB (K : PySem.W.Frag) (C : Addr) : Bool :=
  (match K.lookup C with
    | some ⟨.type t, _, .cls cd, sl⟩ => decide (t = "type") && (match cd.mro, sl.toList with
      | .ref C' :: bm, [_, _, _, _, some (.builtin n), _] => decide (C' = C) && (decide (n = "ValueError.__new__") && (!cd.hasDel && (cd.hasDict && PySem.HandSPX.refsVE bm)))
      | _, _ => false)
    | _ => false) && (decide (PySem.W.findIn K (.ref C) "__setattr__" = some (some (.builtin "object.__setattr__"))) && (decide (PySem.W.subIn K (.ref C) (.type "BaseException") = some true) &&
  (decide (PySem.W.typeIn K (.ref C) = some (.type "type")) && PySem.W.keepIn K (.ref C))))
def peB (K : PySem.W.Frag) (C : Addr) : Bool :=
  PySem.W.readsIn K C (.type "type") && (decide (PySem.W.specialIn K (.ref C) "__getattribute__" = some (some (.builtin "type.__getattribute__"))) && (match PySem.W.findCls K (.ref C) (.type "type") "__init__" with
    | some (.val (.builtin n)) => decide (n = "ValueError.__init__")
    | _ => false))
def misB (K : PySem.W.Frag) : Bool :=
  oexB K (He.ga K "Misfit") && (peB K (He.ga K "PriceError") && (decide (PySem.W.findIn K (.ref (He.ga K "Misfit")) "__init__" = some (some (.ref (iAd K "Misfit")))) && (decide (PySem.W.typeIn K (.ref (iAd K "Misfit")) = some (.type "function")) &&
  (xfB K (He.ga K "Misfit") && (decide (PySem.W.exmOne K (.ref (He.ga K "Misfit")) (.ref (He.ga K "Misfit")) = some true) && decide (PySem.W.findIn K (.ref (He.ga K "Misfit")) "part" = some none))))))
def exB (K : PySem.W.Frag) : Bool := insNames.all (insOk K) && (isaList.all (isaOk K) && (supL.all (supB K) && misB K))
/-- what is known of the written part -/
structure Wd (K : PySem.W.Frag) (mg : Str → Option Value) (base : Heap) : Prop where
  says : He.SaysD fa fn K
  more : exB K = true
  sups : supL.map (fun d => supW K d.x) = supL.map SupD.val
  kin : K.In base
  ns : base.Ns mainGlobals mg
section
variable {K : PySem.W.Frag} {mg : Str → Option Value} {base : Heap}
theorem Wd.g_is_integer (T : Wd K mg base) : mg "is_integer" = some (.ref (He.ga K "is_integer")) := He.glo_ok T.kin T.ns (T.says.fact 0 (f := .glo "is_integer") rfl)
theorem Wd.g_is_within (T : Wd K mg base) : mg "is_within" = some (.ref (He.ga K "is_within")) := He.glo_ok T.kin T.ns (T.says.fact 1 (f := .glo "is_within") rfl)
theorem Wd.g_is_list (T : Wd K mg base) : mg "is_list" = some (.ref (He.ga K "is_list")) := He.glo_ok T.kin T.ns (T.says.fact 2 (f := .glo "is_list") rfl)
theorem Wd.g_common (T : Wd K mg base) : mg "common" = some (.ref (He.ga K "common")) := He.glo_ok T.kin T.ns (T.says.fact 3 (f := .glo "common") rfl)
theorem Wd.g_is_number (T : Wd K mg base) : mg "is_number" = some (.ref (He.ga K "is_number")) := He.glo_ok T.kin T.ns (T.says.fact 4 (f := .glo "is_number") rfl)
theorem Wd.g_above_in (T : Wd K mg base) : mg "above_in" = some (.ref (He.ga K "above_in")) := He.glo_ok T.kin T.ns (T.says.fact 5 (f := .glo "above_in") rfl)
theorem Wd.g_is_from_0 (T : Wd K mg base) : mg "is_from_0" = some (.ref (He.ga K "is_from_0")) := He.glo_ok T.kin T.ns (T.says.fact 6 (f := .glo "is_from_0") rfl)
theorem Wd.g_is_row (T : Wd K mg base) : mg "is_row" = some (.ref (He.ga K "is_row")) := He.glo_ok T.kin T.ns (T.says.fact 7 (f := .glo "is_row") rfl)
theorem Wd.g_is_sum_1 (T : Wd K mg base) : mg "is_sum_1" = some (.ref (He.ga K "is_sum_1")) := He.glo_ok T.kin T.ns (T.says.fact 8 (f := .glo "is_sum_1") rfl)
theorem Wd.g_is_mix_of (T : Wd K mg base) : mg "is_mix_of" = some (.ref (He.ga K "is_mix_of")) := He.glo_ok T.kin T.ns (T.says.fact 9 (f := .glo "is_mix_of") rfl)
theorem Wd.g_is_word_of (T : Wd K mg base) : mg "is_word_of" = some (.ref (He.ga K "is_word_of")) := He.glo_ok T.kin T.ns (T.says.fact 10 (f := .glo "is_word_of") rfl)
theorem Wd.g_kept (T : Wd K mg base) : mg "kept" = some (.ref (He.ga K "kept")) := He.glo_ok T.kin T.ns (T.says.fact 11 (f := .glo "kept") rfl)
theorem Wd.g_kept_row (T : Wd K mg base) : mg "kept_row" = some (.ref (He.ga K "kept_row")) := He.glo_ok T.kin T.ns (T.says.fact 12 (f := .glo "kept_row") rfl)
theorem Wd.g_need_integer (T : Wd K mg base) : mg "need_integer" = some (.ref (He.ga K "need_integer")) := He.glo_ok T.kin T.ns (T.says.fact 13 (f := .glo "need_integer") rfl)
theorem Wd.g_need_goods (T : Wd K mg base) : mg "need_goods" = some (.ref (He.ga K "need_goods")) := He.glo_ok T.kin T.ns (T.says.fact 14 (f := .glo "need_goods") rfl)
theorem Wd.g_need_days (T : Wd K mg base) : mg "need_days" = some (.ref (He.ga K "need_days")) := He.glo_ok T.kin T.ns (T.says.fact 15 (f := .glo "need_days") rfl)
theorem Wd.g_need_from_0 (T : Wd K mg base) : mg "need_from_0" = some (.ref (He.ga K "need_from_0")) := He.glo_ok T.kin T.ns (T.says.fact 16 (f := .glo "need_from_0") rfl)
theorem Wd.g_need_word (T : Wd K mg base) : mg "need_word" = some (.ref (He.ga K "need_word")) := He.glo_ok T.kin T.ns (T.says.fact 17 (f := .glo "need_word") rfl)
theorem Wd.g_halves (T : Wd K mg base) : mg "halves" = some (.ref (He.ga K "halves")) := He.glo_ok T.kin T.ns (T.says.fact 18 (f := .glo "halves") rfl)
theorem Wd.g_lowest (T : Wd K mg base) : mg "lowest" = some (.ref (He.ga K "lowest")) := He.glo_ok T.kin T.ns (T.says.fact 19 (f := .glo "lowest") rfl)
theorem Wd.g_added (T : Wd K mg base) : mg "added" = some (.ref (He.ga K "added")) := He.glo_ok T.kin T.ns (T.says.fact 20 (f := .glo "added") rfl)
theorem Wd.g_turned (T : Wd K mg base) : mg "turned" = some (.ref (He.ga K "turned")) := He.glo_ok T.kin T.ns (T.says.fact 21 (f := .glo "turned") rfl)
theorem Wd.g_less_by (T : Wd K mg base) : mg "less_by" = some (.ref (He.ga K "less_by")) := He.glo_ok T.kin T.ns (T.says.fact 22 (f := .glo "less_by") rfl)
theorem Wd.g_product (T : Wd K mg base) : mg "product" = some (.ref (He.ga K "product")) := He.glo_ok T.kin T.ns (T.says.fact 23 (f := .glo "product") rfl)
theorem Wd.g_part_by (T : Wd K mg base) : mg "part_by" = some (.ref (He.ga K "part_by")) := He.glo_ok T.kin T.ns (T.says.fact 24 (f := .glo "part_by") rfl)
theorem Wd.g_below (T : Wd K mg base) : mg "below" = some (.ref (He.ga K "below")) := He.glo_ok T.kin T.ns (T.says.fact 25 (f := .glo "below") rfl)
theorem Wd.g_sign_in (T : Wd K mg base) : mg "sign_in" = some (.ref (He.ga K "sign_in")) := He.glo_ok T.kin T.ns (T.says.fact 26 (f := .glo "sign_in") rfl)
theorem Wd.g_total (T : Wd K mg base) : mg "total" = some (.ref (He.ga K "total")) := He.glo_ok T.kin T.ns (T.says.fact 27 (f := .glo "total") rfl)
theorem Wd.g_summed (T : Wd K mg base) : mg "summed" = some (.ref (He.ga K "summed")) := He.glo_ok T.kin T.ns (T.says.fact 28 (f := .glo "summed") rfl)
theorem Wd.g_multiplied (T : Wd K mg base) : mg "multiplied" = some (.ref (He.ga K "multiplied")) := He.glo_ok T.kin T.ns (T.says.fact 29 (f := .glo "multiplied") rfl)
theorem Wd.g_greater (T : Wd K mg base) : mg "greater" = some (.ref (He.ga K "greater")) := He.glo_ok T.kin T.ns (T.says.fact 30 (f := .glo "greater") rfl)
theorem Wd.g_less_times (T : Wd K mg base) : mg "less_times" = some (.ref (He.ga K "less_times")) := He.glo_ok T.kin T.ns (T.says.fact 31 (f := .glo "less_times") rfl)
theorem Wd.g_undone (T : Wd K mg base) : mg "undone" = some (.ref (He.ga K "undone")) := He.glo_ok T.kin T.ns (T.says.fact 32 (f := .glo "undone") rfl)
theorem Wd.g_lines_of (T : Wd K mg base) : mg "lines_of" = some (.ref (He.ga K "lines_of")) := He.glo_ok T.kin T.ns (T.says.fact 33 (f := .glo "lines_of") rfl)
theorem Wd.g_need_corner (T : Wd K mg base) : mg "need_corner" = some (.ref (He.ga K "need_corner")) := He.glo_ok T.kin T.ns (T.says.fact 34 (f := .glo "need_corner") rfl)
theorem Wd.g_are_mixes (T : Wd K mg base) : mg "are_mixes" = some (.ref (He.ga K "are_mixes")) := He.glo_ok T.kin T.ns (T.says.fact 35 (f := .glo "are_mixes") rfl)
theorem Wd.g_are_arrows (T : Wd K mg base) : mg "are_arrows" = some (.ref (He.ga K "are_arrows")) := He.glo_ok T.kin T.ns (T.says.fact 36 (f := .glo "are_arrows") rfl)
theorem Wd.g_need_machine (T : Wd K mg base) : mg "need_machine" = some (.ref (He.ga K "need_machine")) := He.glo_ok T.kin T.ns (T.says.fact 37 (f := .glo "need_machine") rfl)
theorem Wd.g_need_promise (T : Wd K mg base) : mg "need_promise" = some (.ref (He.ga K "need_promise")) := He.glo_ok T.kin T.ns (T.says.fact 38 (f := .glo "need_promise") rfl)
theorem Wd.g_need_parts (T : Wd K mg base) : mg "need_parts" = some (.ref (He.ga K "need_parts")) := He.glo_ok T.kin T.ns (T.says.fact 39 (f := .glo "need_parts") rfl)
theorem Wd.g_need_shares (T : Wd K mg base) : mg "need_shares" = some (.ref (He.ga K "need_shares")) := He.glo_ok T.kin T.ns (T.says.fact 40 (f := .glo "need_shares") rfl)
theorem Wd.g_need_room (T : Wd K mg base) : mg "need_room" = some (.ref (He.ga K "need_room")) := He.glo_ok T.kin T.ns (T.says.fact 41 (f := .glo "need_room") rfl)
theorem Wd.g_spread (T : Wd K mg base) : mg "spread" = some (.ref (He.ga K "spread")) := He.glo_ok T.kin T.ns (T.says.fact 42 (f := .glo "spread") rfl)
theorem Wd.g_many_words (T : Wd K mg base) : mg "many_words" = some (.ref (He.ga K "many_words")) := He.glo_ok T.kin T.ns (T.says.fact 43 (f := .glo "many_words") rfl)
theorem Wd.g_need_few_words (T : Wd K mg base) : mg "need_few_words" = some (.ref (He.ga K "need_few_words")) := He.glo_ok T.kin T.ns (T.says.fact 44 (f := .glo "need_few_words") rfl)
theorem Wd.g_run_in (T : Wd K mg base) : mg "run_in" = some (.ref (He.ga K "run_in")) := He.glo_ok T.kin T.ns (T.says.fact 45 (f := .glo "run_in") rfl)
theorem Wd.g_greatest_of (T : Wd K mg base) : mg "greatest_of" = some (.ref (He.ga K "greatest_of")) := He.glo_ok T.kin T.ns (T.says.fact 46 (f := .glo "greatest_of") rfl)
theorem Wd.g_led_on (T : Wd K mg base) : mg "led_on" = some (.ref (He.ga K "led_on")) := He.glo_ok T.kin T.ns (T.says.fact 47 (f := .glo "led_on") rfl)
theorem Wd.g_walk_worth_in (T : Wd K mg base) : mg "walk_worth_in" = some (.ref (He.ga K "walk_worth_in")) := He.glo_ok T.kin T.ns (T.says.fact 48 (f := .glo "walk_worth_in") rfl)
theorem Wd.g_worth_in (T : Wd K mg base) : mg "worth_in" = some (.ref (He.ga K "worth_in")) := He.glo_ok T.kin T.ns (T.says.fact 49 (f := .glo "worth_in") rfl)
theorem Wd.g_best_many (T : Wd K mg base) : mg "best_many" = some (.ref (He.ga K "best_many")) := He.glo_ok T.kin T.ns (T.says.fact 50 (f := .glo "best_many") rfl)
theorem Wd.g_has_best_in (T : Wd K mg base) : mg "has_best_in" = some (.ref (He.ga K "has_best_in")) := He.glo_ok T.kin T.ns (T.says.fact 51 (f := .glo "has_best_in") rfl)
theorem Wd.g_need_no_best (T : Wd K mg base) : mg "need_no_best" = some (.ref (He.ga K "need_no_best")) := He.glo_ok T.kin T.ns (T.says.fact 52 (f := .glo "need_no_best") rfl)
theorem Wd.g_ways_by (T : Wd K mg base) : mg "ways_by" = some (.ref (He.ga K "ways_by")) := He.glo_ok T.kin T.ns (T.says.fact 53 (f := .glo "ways_by") rfl)
theorem Wd.g_summed_in (T : Wd K mg base) : mg "summed_in" = some (.ref (He.ga K "summed_in")) := He.glo_ok T.kin T.ns (T.says.fact 54 (f := .glo "summed_in") rfl)
theorem Wd.g_rest_by (T : Wd K mg base) : mg "rest_by" = some (.ref (He.ga K "rest_by")) := He.glo_ok T.kin T.ns (T.says.fact 55 (f := .glo "rest_by") rfl)
theorem Wd.g_need_asked (T : Wd K mg base) : mg "need_asked" = some (.ref (He.ga K "need_asked")) := He.glo_ok T.kin T.ns (T.says.fact 56 (f := .glo "need_asked") rfl)
theorem Wd.g_need_amounts (T : Wd K mg base) : mg "need_amounts" = some (.ref (He.ga K "need_amounts")) := He.glo_ok T.kin T.ns (T.says.fact 57 (f := .glo "need_amounts") rfl)
theorem Wd.g_need_told (T : Wd K mg base) : mg "need_told" = some (.ref (He.ga K "need_told")) := He.glo_ok T.kin T.ns (T.says.fact 58 (f := .glo "need_told") rfl)
theorem Wd.g_robbed_corner (T : Wd K mg base) : mg "robbed_corner" = some (.ref (He.ga K "robbed_corner")) := He.glo_ok T.kin T.ns (T.says.fact 59 (f := .glo "robbed_corner") rfl)
theorem Wd.g_law_thief (T : Wd K mg base) : mg "_law_thief" = some (.ref (He.ga K "_law_thief")) := He.glo_ok T.kin T.ns (T.says.fact 60 (f := .glo "_law_thief") rfl)
theorem Wd.g_law_prowl (T : Wd K mg base) : mg "_law_prowl" = some (.ref (He.ga K "_law_prowl")) := He.glo_ok T.kin T.ns (T.says.fact 61 (f := .glo "_law_prowl") rfl)
theorem Wd.g_law_one_of (T : Wd K mg base) : mg "_law_one_of" = some (.ref (He.ga K "_law_one_of")) := He.glo_ok T.kin T.ns (T.says.fact 62 (f := .glo "_law_one_of") rfl)
theorem Wd.g_law_lowest (T : Wd K mg base) : mg "_law_lowest" = some (.ref (He.ga K "_law_lowest")) := He.glo_ok T.kin T.ns (T.says.fact 63 (f := .glo "_law_lowest") rfl)
theorem Wd.g_law_ends (T : Wd K mg base) : mg "_law_ends" = some (.ref (He.ga K "_law_ends")) := He.glo_ok T.kin T.ns (T.says.fact 64 (f := .glo "_law_ends") rfl)
theorem Wd.g_law_plus (T : Wd K mg base) : mg "_law_plus" = some (.ref (He.ga K "_law_plus")) := He.glo_ok T.kin T.ns (T.says.fact 65 (f := .glo "_law_plus") rfl)
theorem Wd.g_law_times (T : Wd K mg base) : mg "_law_times" = some (.ref (He.ga K "_law_times")) := He.glo_ok T.kin T.ns (T.says.fact 66 (f := .glo "_law_times") rfl)
theorem Wd.g_law_is_less (T : Wd K mg base) : mg "_law_is_less" = some (.ref (He.ga K "_law_is_less")) := He.glo_ok T.kin T.ns (T.says.fact 67 (f := .glo "_law_is_less") rfl)
theorem Wd.g_law_total (T : Wd K mg base) : mg "_law_total" = some (.ref (He.ga K "_law_total")) := He.glo_ok T.kin T.ns (T.says.fact 68 (f := .glo "_law_total") rfl)
theorem Wd.g_law_paid (T : Wd K mg base) : mg "_law_paid" = some (.ref (He.ga K "_law_paid")) := He.glo_ok T.kin T.ns (T.says.fact 69 (f := .glo "_law_paid") rfl)
theorem Wd.g_law_number (T : Wd K mg base) : mg "_law_number" = some (.ref (He.ga K "_law_number")) := He.glo_ok T.kin T.ns (T.says.fact 70 (f := .glo "_law_number") rfl)
theorem Wd.g_law_mix (T : Wd K mg base) : mg "_law_mix" = some (.ref (He.ga K "_law_mix")) := He.glo_ok T.kin T.ns (T.says.fact 71 (f := .glo "_law_mix") rfl)
theorem Wd.g_law_minus (T : Wd K mg base) : mg "_law_minus" = some (.ref (He.ga K "_law_minus")) := He.glo_ok T.kin T.ns (T.says.fact 72 (f := .glo "_law_minus") rfl)
theorem Wd.g_law_over (T : Wd K mg base) : mg "_law_over" = some (.ref (He.ga K "_law_over")) := He.glo_ok T.kin T.ns (T.says.fact 73 (f := .glo "_law_over") rfl)
theorem Wd.g_law_square (T : Wd K mg base) : mg "_law_square" = some (.ref (He.ga K "_law_square")) := He.glo_ok T.kin T.ns (T.says.fact 74 (f := .glo "_law_square") rfl)
theorem Wd.g_law_parts (T : Wd K mg base) : mg "_law_parts" = some (.ref (He.ga K "_law_parts")) := He.glo_ok T.kin T.ns (T.says.fact 75 (f := .glo "_law_parts") rfl)
theorem Wd.g_law_is_corner (T : Wd K mg base) : mg "_law_is_corner" = some (.ref (He.ga K "_law_is_corner")) := He.glo_ok T.kin T.ns (T.says.fact 76 (f := .glo "_law_is_corner") rfl)
theorem Wd.g_law_rows (T : Wd K mg base) : mg "_law_rows" = some (.ref (He.ga K "_law_rows")) := He.glo_ok T.kin T.ns (T.says.fact 77 (f := .glo "_law_rows") rfl)
theorem Wd.g_law_corner (T : Wd K mg base) : mg "_law_corner" = some (.ref (He.ga K "_law_corner")) := He.glo_ok T.kin T.ns (T.says.fact 78 (f := .glo "_law_corner") rfl)
theorem Wd.g_law_leaf (T : Wd K mg base) : mg "_law_leaf" = some (.ref (He.ga K "_law_leaf")) := He.glo_ok T.kin T.ns (T.says.fact 79 (f := .glo "_law_leaf") rfl)
theorem Wd.g_law_promise (T : Wd K mg base) : mg "_law_promise" = some (.ref (He.ga K "_law_promise")) := He.glo_ok T.kin T.ns (T.says.fact 80 (f := .glo "_law_promise") rfl)
theorem Wd.g_law_made (T : Wd K mg base) : mg "_law_made" = some (.ref (He.ga K "_law_made")) := He.glo_ok T.kin T.ns (T.says.fact 81 (f := .glo "_law_made") rfl)
theorem Wd.g_law_walked (T : Wd K mg base) : mg "_law_walked" = some (.ref (He.ga K "_law_walked")) := He.glo_ok T.kin T.ns (T.says.fact 82 (f := .glo "_law_walked") rfl)
theorem Wd.g_law_worth (T : Wd K mg base) : mg "_law_worth" = some (.ref (He.ga K "_law_worth")) := He.glo_ok T.kin T.ns (T.says.fact 83 (f := .glo "_law_worth") rfl)
theorem Wd.g_law_words (T : Wd K mg base) : mg "_law_words" = some (.ref (He.ga K "_law_words")) := He.glo_ok T.kin T.ns (T.says.fact 84 (f := .glo "_law_words") rfl)
theorem Wd.g_law_over_words (T : Wd K mg base) : mg "_law_over_words" = some (.ref (He.ga K "_law_over_words")) := He.glo_ok T.kin T.ns (T.says.fact 85 (f := .glo "_law_over_words") rfl)
theorem Wd.g_law_spread (T : Wd K mg base) : mg "_law_spread" = some (.ref (He.ga K "_law_spread")) := He.glo_ok T.kin T.ns (T.says.fact 86 (f := .glo "_law_spread") rfl)
theorem Wd.g_law_is_refused (T : Wd K mg base) : mg "_law_is_refused" = some (.ref (He.ga K "_law_is_refused")) := He.glo_ok T.kin T.ns (T.says.fact 87 (f := .glo "_law_is_refused") rfl)
theorem Wd.g_law (T : Wd K mg base) : mg "law" = some (.ref (He.ga K "law")) := He.glo_ok T.kin T.ns (T.says.fact 88 (f := .glo "law") rfl)
theorem Wd.g_Corner (T : Wd K mg base) : mg "Corner" = some (.ref (He.ga K "Corner")) := He.glo_ok T.kin T.ns (T.says.fact 89 (f := .glo "Corner") rfl)
theorem Wd.cls_corner (T : Wd K mg base) : ∃ u, mg "Corner" = some u ∧ RelV (.ref (He.ga K "Corner")) u := ⟨_, T.g_Corner, rfl⟩
theorem Wd.g_Machine (T : Wd K mg base) : mg "Machine" = some (.ref (He.ga K "Machine")) := He.glo_ok T.kin T.ns (T.says.fact 90 (f := .glo "Machine") rfl)
theorem Wd.cls_machine (T : Wd K mg base) : ∃ u, mg "Machine" = some u ∧ RelV (.ref (He.ga K "Machine")) u := ⟨_, T.g_Machine, rfl⟩
theorem Wd.g_Promise (T : Wd K mg base) : mg "Promise" = some (.ref (He.ga K "Promise")) := He.glo_ok T.kin T.ns (T.says.fact 91 (f := .glo "Promise") rfl)
theorem Wd.cls_promise (T : Wd K mg base) : ∃ u, mg "Promise" = some u ∧ RelV (.ref (He.ga K "Promise")) u := ⟨_, T.g_Promise, rfl⟩
theorem Wd.g_Hold (T : Wd K mg base) : mg "Hold" = some (.ref (He.ga K "Hold")) := He.glo_ok T.kin T.ns (T.says.fact 92 (f := .glo "Hold") rfl)
theorem Wd.cls_hold (T : Wd K mg base) : ∃ u, mg "Hold" = some u ∧ RelV (.ref (He.ga K "Hold")) u := ⟨_, T.g_Hold, rfl⟩
theorem Wd.g_Mix (T : Wd K mg base) : mg "Mix" = some (.ref (He.ga K "Mix")) := He.glo_ok T.kin T.ns (T.says.fact 93 (f := .glo "Mix") rfl)
theorem Wd.cls_mix (T : Wd K mg base) : ∃ u, mg "Mix" = some u ∧ RelV (.ref (He.ga K "Mix")) u := ⟨_, T.g_Mix, rfl⟩
theorem Wd.g_Times (T : Wd K mg base) : mg "Times" = some (.ref (He.ga K "Times")) := He.glo_ok T.kin T.ns (T.says.fact 94 (f := .glo "Times") rfl)
theorem Wd.cls_times (T : Wd K mg base) : ∃ u, mg "Times" = some u ∧ RelV (.ref (He.ga K "Times")) u := ⟨_, T.g_Times, rfl⟩
theorem Wd.g_Sum (T : Wd K mg base) : mg "Sum" = some (.ref (He.ga K "Sum")) := He.glo_ok T.kin T.ns (T.says.fact 95 (f := .glo "Sum") rfl)
theorem Wd.cls_sum (T : Wd K mg base) : ∃ u, mg "Sum" = some u ∧ RelV (.ref (He.ga K "Sum")) u := ⟨_, T.g_Sum, rfl⟩
theorem Wd.g_Greatest (T : Wd K mg base) : mg "Greatest" = some (.ref (He.ga K "Greatest")) := He.glo_ok T.kin T.ns (T.says.fact 96 (f := .glo "Greatest") rfl)
theorem Wd.cls_greatest (T : Wd K mg base) : ∃ u, mg "Greatest" = some u ∧ RelV (.ref (He.ga K "Greatest")) u := ⟨_, T.g_Greatest, rfl⟩
theorem Wd.g_Then (T : Wd K mg base) : mg "Then" = some (.ref (He.ga K "Then")) := He.glo_ok T.kin T.ns (T.says.fact 97 (f := .glo "Then") rfl)
theorem Wd.cls_then (T : Wd K mg base) : ∃ u, mg "Then" = some u ∧ RelV (.ref (He.ga K "Then")) u := ⟨_, T.g_Then, rfl⟩
theorem Wd.g_BestWalk (T : Wd K mg base) : mg "BestWalk" = some (.ref (He.ga K "BestWalk")) := He.glo_ok T.kin T.ns (T.says.fact 98 (f := .glo "BestWalk") rfl)
theorem Wd.cls_bestwalk (T : Wd K mg base) : ∃ u, mg "BestWalk" = some u ∧ RelV (.ref (He.ga K "BestWalk")) u := ⟨_, T.g_BestWalk, rfl⟩
theorem Wd.g_Misfit (T : Wd K mg base) : mg "Misfit" = some (.ref (He.ga K "Misfit")) := He.glo_ok T.kin T.ns (T.says.fact 99 (f := .glo "Misfit") rfl)
theorem Wd.cls_misfit (T : Wd K mg base) : ∃ u, mg "Misfit" = some u ∧ RelV (.ref (He.ga K "Misfit")) u := ⟨_, T.g_Misfit, rfl⟩
theorem Wd.g_PriceError (T : Wd K mg base) : mg "PriceError" = some (.ref (He.ga K "PriceError")) := He.glo_ok T.kin T.ns (T.says.fact 100 (f := .glo "PriceError") rfl)
theorem Wd.cls_priceerror (T : Wd K mg base) : ∃ u, mg "PriceError" = some u ∧ RelV (.ref (He.ga K "PriceError")) u := ⟨_, T.g_PriceError, rfl⟩
theorem Wd.f_isinstance (T : Wd K mg base) : mg "isinstance" = none := He.free_ok T.kin T.ns (T.says.fact 101 (f := .free "isinstance") rfl)
theorem Wd.f_int (T : Wd K mg base) : mg "int" = none := He.free_ok T.kin T.ns (T.says.fact 102 (f := .free "int") rfl)
theorem Wd.f_bool (T : Wd K mg base) : mg "bool" = none := He.free_ok T.kin T.ns (T.says.fact 103 (f := .free "bool") rfl)
theorem Wd.f_list (T : Wd K mg base) : mg "list" = none := He.free_ok T.kin T.ns (T.says.fact 104 (f := .free "list") rfl)
theorem Wd.f_tuple (T : Wd K mg base) : mg "tuple" = none := He.free_ok T.kin T.ns (T.says.fact 105 (f := .free "tuple") rfl)
theorem Wd.f_len (T : Wd K mg base) : mg "len" = none := He.free_ok T.kin T.ns (T.says.fact 106 (f := .free "len") rfl)
theorem Wd.f_abs (T : Wd K mg base) : mg "abs" = none := He.free_ok T.kin T.ns (T.says.fact 107 (f := .free "abs") rfl)
theorem Wd.f_all (T : Wd K mg base) : mg "all" = none := He.free_ok T.kin T.ns (T.says.fact 108 (f := .free "all") rfl)
theorem Wd.f_range (T : Wd K mg base) : mg "range" = none := He.free_ok T.kin T.ns (T.says.fact 109 (f := .free "range") rfl)
theorem Wd.f_enumerate (T : Wd K mg base) : mg "enumerate" = none := He.free_ok T.kin T.ns (T.says.fact 110 (f := .free "enumerate") rfl)
theorem Wd.f_zip (T : Wd K mg base) : mg "zip" = none := He.free_ok T.kin T.ns (T.says.fact 111 (f := .free "zip") rfl)
theorem Wd.f_sum (T : Wd K mg base) : mg "sum" = none := He.free_ok T.kin T.ns (T.says.fact 112 (f := .free "sum") rfl)
theorem Wd.f_max (T : Wd K mg base) : mg "max" = none := He.free_ok T.kin T.ns (T.says.fact 113 (f := .free "max") rfl)
theorem Wd.f_min (T : Wd K mg base) : mg "min" = none := He.free_ok T.kin T.ns (T.says.fact 114 (f := .free "min") rfl)
theorem Wd.f_sorted (T : Wd K mg base) : mg "sorted" = none := He.free_ok T.kin T.ns (T.says.fact 115 (f := .free "sorted") rfl)
theorem Wd.f_repr (T : Wd K mg base) : mg "repr" = none := He.free_ok T.kin T.ns (T.says.fact 116 (f := .free "repr") rfl)
theorem Wd.f_super (T : Wd K mg base) : mg "super" = none := He.free_ok T.kin T.ns (T.says.fact 117 (f := .free "super") rfl)
theorem Wd.most_goods (T : Wd K mg base) : ∃ u, mg "MOST_GOODS" = some u ∧ RelV (.int 5) u := (He.int_ok T.kin T.ns (T.says.fact 118 (f := .int "MOST_GOODS" 5) rfl)).elim fun t e => ⟨_, e, t, rfl⟩
theorem Wd.most_days (T : Wd K mg base) : ∃ u, mg "MOST_DAYS" = some u ∧ RelV (.int 1000) u := (He.int_ok T.kin T.ns (T.says.fact 119 (f := .int "MOST_DAYS" 1000) rfl)).elim fun t e => ⟨_, e, t, rfl⟩
theorem Wd.most_standings (T : Wd K mg base) : ∃ u, mg "MOST_STANDINGS" = some u ∧ RelV (.int 6) u := (He.int_ok T.kin T.ns (T.says.fact 120 (f := .int "MOST_STANDINGS" 6) rfl)).elim fun t e => ⟨_, e, t, rfl⟩
theorem Wd.most_parts (T : Wd K mg base) : ∃ u, mg "MOST_PARTS" = some u ∧ RelV (.int 6) u := (He.int_ok T.kin T.ns (T.says.fact 121 (f := .int "MOST_PARTS" 6) rfl)).elim fun t e => ⟨_, e, t, rfl⟩
theorem Wd.most_levels (T : Wd K mg base) : ∃ u, mg "MOST_LEVELS" = some u ∧ RelV (.int 6) u := (He.int_ok T.kin T.ns (T.says.fact 122 (f := .int "MOST_LEVELS" 6) rfl)).elim fun t e => ⟨_, e, t, rfl⟩
theorem Wd.most_promises (T : Wd K mg base) : ∃ u, mg "MOST_PROMISES" = some u ∧ RelV (.int 40) u := (He.int_ok T.kin T.ns (T.says.fact 123 (f := .int "MOST_PROMISES" 40) rfl)).elim fun t e => ⟨_, e, t, rfl⟩
theorem Wd.most_words (T : Wd K mg base) : ∃ u, mg "MOST_WORDS" = some u ∧ RelV (.int 4096) u := (He.int_ok T.kin T.ns (T.says.fact 124 (f := .int "MOST_WORDS" 4096) rfl)).elim fun t e => ⟨_, e, t, rfl⟩
theorem Wd.c_Corner (T : Wd K mg base) : Cls K (He.ga K "Corner") := He.cls_ok (T.says.fact 125 (f := .cls "Corner") rfl)
theorem Wd.n_Corner_rows (T : Wd K mg base) : NoAttr K (He.ga K "Corner") "rows" := He.noat_ok (T.says.fact 126 (f := .noat "Corner" "rows") rfl)
theorem Wd.n_Corner_goods (T : Wd K mg base) : NoAttr K (He.ga K "Corner") "goods" := He.noat_ok (T.says.fact 127 (f := .noat "Corner" "goods") rfl)
theorem Wd.n_Corner_lines (T : Wd K mg base) : NoAttr K (He.ga K "Corner") "lines" := He.noat_ok (T.says.fact 128 (f := .noat "Corner" "lines") rfl)
theorem Wd.n_Corner_weights (T : Wd K mg base) : NoAttr K (He.ga K "Corner") "weights" := He.noat_ok (T.says.fact 129 (f := .noat "Corner" "weights") rfl)
theorem Wd.k_Corner (T : Wd K mg base) : Mk K (He.ga K "Corner") (He.ma K (He.ga K "Corner") "__init__") := He.mkr_ok (T.says.fact 130 (f := .mkr "Corner") rfl)
theorem Wd.c_Machine (T : Wd K mg base) : Cls K (He.ga K "Machine") := He.cls_ok (T.says.fact 131 (f := .cls "Machine") rfl)
theorem Wd.n_Machine_mixes (T : Wd K mg base) : NoAttr K (He.ga K "Machine") "mixes" := He.noat_ok (T.says.fact 132 (f := .noat "Machine" "mixes") rfl)
theorem Wd.n_Machine_arrows (T : Wd K mg base) : NoAttr K (He.ga K "Machine") "arrows" := He.noat_ok (T.says.fact 133 (f := .noat "Machine" "arrows") rfl)
theorem Wd.n_Machine_many (T : Wd K mg base) : NoAttr K (He.ga K "Machine") "many" := He.noat_ok (T.says.fact 134 (f := .noat "Machine" "many") rfl)
theorem Wd.n_Machine_goods (T : Wd K mg base) : NoAttr K (He.ga K "Machine") "goods" := He.noat_ok (T.says.fact 135 (f := .noat "Machine" "goods") rfl)
theorem Wd.n_Machine_leads (T : Wd K mg base) : NoAttr K (He.ga K "Machine") "leads" := He.noat_ok (T.says.fact 136 (f := .noat "Machine" "leads") rfl)
theorem Wd.k_Machine (T : Wd K mg base) : Mk K (He.ga K "Machine") (He.ma K (He.ga K "Machine") "__init__") := He.mkr_ok (T.says.fact 137 (f := .mkr "Machine") rfl)
theorem Wd.c_Promise (T : Wd K mg base) : Cls K (He.ga K "Promise") := He.cls_ok (T.says.fact 138 (f := .cls "Promise") rfl)
theorem Wd.n_Promise_kind (T : Wd K mg base) : NoAttr K (He.ga K "Promise") "kind" := He.noat_ok (T.says.fact 139 (f := .noat "Promise" "kind") rfl)
theorem Wd.n_Promise_told (T : Wd K mg base) : NoAttr K (He.ga K "Promise") "told" := He.noat_ok (T.says.fact 140 (f := .noat "Promise" "told") rfl)
theorem Wd.n_Promise_goods (T : Wd K mg base) : NoAttr K (He.ga K "Promise") "goods" := He.noat_ok (T.says.fact 141 (f := .noat "Promise" "goods") rfl)
theorem Wd.n_Promise_inner (T : Wd K mg base) : NoAttr K (He.ga K "Promise") "inner" := He.noat_ok (T.says.fact 142 (f := .noat "Promise" "inner") rfl)
theorem Wd.n_Promise_many (T : Wd K mg base) : NoAttr K (He.ga K "Promise") "many" := He.noat_ok (T.says.fact 143 (f := .noat "Promise" "many") rfl)
theorem Wd.n_Promise_levels (T : Wd K mg base) : NoAttr K (He.ga K "Promise") "levels" := He.noat_ok (T.says.fact 144 (f := .noat "Promise" "levels") rfl)
theorem Wd.k_Promise (T : Wd K mg base) : Mk K (He.ga K "Promise") (He.ma K (He.ga K "Promise") "__init__") := He.mkr_ok (T.says.fact 145 (f := .mkr "Promise") rfl)
theorem Wd.c_Hold (T : Wd K mg base) : Cls K (He.ga K "Hold") := He.cls_ok (T.says.fact 146 (f := .cls "Hold") rfl)
theorem Wd.n_Hold_kind (T : Wd K mg base) : NoAttr K (He.ga K "Hold") "kind" := He.noat_ok (T.says.fact 147 (f := .noat "Hold" "kind") rfl)
theorem Wd.n_Hold_told (T : Wd K mg base) : NoAttr K (He.ga K "Hold") "told" := He.noat_ok (T.says.fact 148 (f := .noat "Hold" "told") rfl)
theorem Wd.n_Hold_goods (T : Wd K mg base) : NoAttr K (He.ga K "Hold") "goods" := He.noat_ok (T.says.fact 149 (f := .noat "Hold" "goods") rfl)
theorem Wd.n_Hold_inner (T : Wd K mg base) : NoAttr K (He.ga K "Hold") "inner" := He.noat_ok (T.says.fact 150 (f := .noat "Hold" "inner") rfl)
theorem Wd.n_Hold_many (T : Wd K mg base) : NoAttr K (He.ga K "Hold") "many" := He.noat_ok (T.says.fact 151 (f := .noat "Hold" "many") rfl)
theorem Wd.n_Hold_levels (T : Wd K mg base) : NoAttr K (He.ga K "Hold") "levels" := He.noat_ok (T.says.fact 152 (f := .noat "Hold" "levels") rfl)
theorem Wd.n_Hold_good (T : Wd K mg base) : NoAttr K (He.ga K "Hold") "good" := He.noat_ok (T.says.fact 153 (f := .noat "Hold" "good") rfl)
theorem Wd.k_Hold (T : Wd K mg base) : Mk K (He.ga K "Hold") (He.ma K (He.ga K "Hold") "__init__") := He.mkr_ok (T.says.fact 154 (f := .mkr "Hold") rfl)
theorem Wd.c_Mix (T : Wd K mg base) : Cls K (He.ga K "Mix") := He.cls_ok (T.says.fact 155 (f := .cls "Mix") rfl)
theorem Wd.n_Mix_kind (T : Wd K mg base) : NoAttr K (He.ga K "Mix") "kind" := He.noat_ok (T.says.fact 156 (f := .noat "Mix" "kind") rfl)
theorem Wd.n_Mix_told (T : Wd K mg base) : NoAttr K (He.ga K "Mix") "told" := He.noat_ok (T.says.fact 157 (f := .noat "Mix" "told") rfl)
theorem Wd.n_Mix_goods (T : Wd K mg base) : NoAttr K (He.ga K "Mix") "goods" := He.noat_ok (T.says.fact 158 (f := .noat "Mix" "goods") rfl)
theorem Wd.n_Mix_inner (T : Wd K mg base) : NoAttr K (He.ga K "Mix") "inner" := He.noat_ok (T.says.fact 159 (f := .noat "Mix" "inner") rfl)
theorem Wd.n_Mix_many (T : Wd K mg base) : NoAttr K (He.ga K "Mix") "many" := He.noat_ok (T.says.fact 160 (f := .noat "Mix" "many") rfl)
theorem Wd.n_Mix_levels (T : Wd K mg base) : NoAttr K (He.ga K "Mix") "levels" := He.noat_ok (T.says.fact 161 (f := .noat "Mix" "levels") rfl)
theorem Wd.n_Mix_shares (T : Wd K mg base) : NoAttr K (He.ga K "Mix") "shares" := He.noat_ok (T.says.fact 162 (f := .noat "Mix" "shares") rfl)
theorem Wd.k_Mix (T : Wd K mg base) : Mk K (He.ga K "Mix") (He.ma K (He.ga K "Mix") "__init__") := He.mkr_ok (T.says.fact 163 (f := .mkr "Mix") rfl)
theorem Wd.c_Times (T : Wd K mg base) : Cls K (He.ga K "Times") := He.cls_ok (T.says.fact 164 (f := .cls "Times") rfl)
theorem Wd.n_Times_kind (T : Wd K mg base) : NoAttr K (He.ga K "Times") "kind" := He.noat_ok (T.says.fact 165 (f := .noat "Times" "kind") rfl)
theorem Wd.n_Times_told (T : Wd K mg base) : NoAttr K (He.ga K "Times") "told" := He.noat_ok (T.says.fact 166 (f := .noat "Times" "told") rfl)
theorem Wd.n_Times_goods (T : Wd K mg base) : NoAttr K (He.ga K "Times") "goods" := He.noat_ok (T.says.fact 167 (f := .noat "Times" "goods") rfl)
theorem Wd.n_Times_inner (T : Wd K mg base) : NoAttr K (He.ga K "Times") "inner" := He.noat_ok (T.says.fact 168 (f := .noat "Times" "inner") rfl)
theorem Wd.n_Times_many (T : Wd K mg base) : NoAttr K (He.ga K "Times") "many" := He.noat_ok (T.says.fact 169 (f := .noat "Times" "many") rfl)
theorem Wd.n_Times_levels (T : Wd K mg base) : NoAttr K (He.ga K "Times") "levels" := He.noat_ok (T.says.fact 170 (f := .noat "Times" "levels") rfl)
theorem Wd.n_Times_number (T : Wd K mg base) : NoAttr K (He.ga K "Times") "number" := He.noat_ok (T.says.fact 171 (f := .noat "Times" "number") rfl)
theorem Wd.n_Times_part (T : Wd K mg base) : NoAttr K (He.ga K "Times") "part" := He.noat_ok (T.says.fact 172 (f := .noat "Times" "part") rfl)
theorem Wd.k_Times (T : Wd K mg base) : Mk K (He.ga K "Times") (He.ma K (He.ga K "Times") "__init__") := He.mkr_ok (T.says.fact 173 (f := .mkr "Times") rfl)
theorem Wd.c_Sum (T : Wd K mg base) : Cls K (He.ga K "Sum") := He.cls_ok (T.says.fact 174 (f := .cls "Sum") rfl)
theorem Wd.n_Sum_kind (T : Wd K mg base) : NoAttr K (He.ga K "Sum") "kind" := He.noat_ok (T.says.fact 175 (f := .noat "Sum" "kind") rfl)
theorem Wd.n_Sum_told (T : Wd K mg base) : NoAttr K (He.ga K "Sum") "told" := He.noat_ok (T.says.fact 176 (f := .noat "Sum" "told") rfl)
theorem Wd.n_Sum_goods (T : Wd K mg base) : NoAttr K (He.ga K "Sum") "goods" := He.noat_ok (T.says.fact 177 (f := .noat "Sum" "goods") rfl)
theorem Wd.n_Sum_inner (T : Wd K mg base) : NoAttr K (He.ga K "Sum") "inner" := He.noat_ok (T.says.fact 178 (f := .noat "Sum" "inner") rfl)
theorem Wd.n_Sum_many (T : Wd K mg base) : NoAttr K (He.ga K "Sum") "many" := He.noat_ok (T.says.fact 179 (f := .noat "Sum" "many") rfl)
theorem Wd.n_Sum_levels (T : Wd K mg base) : NoAttr K (He.ga K "Sum") "levels" := He.noat_ok (T.says.fact 180 (f := .noat "Sum" "levels") rfl)
theorem Wd.n_Sum_parts (T : Wd K mg base) : NoAttr K (He.ga K "Sum") "parts" := He.noat_ok (T.says.fact 181 (f := .noat "Sum" "parts") rfl)
theorem Wd.k_Sum (T : Wd K mg base) : Mk K (He.ga K "Sum") (He.ma K (He.ga K "Sum") "__init__") := He.mkr_ok (T.says.fact 182 (f := .mkr "Sum") rfl)
theorem Wd.c_Greatest (T : Wd K mg base) : Cls K (He.ga K "Greatest") := He.cls_ok (T.says.fact 183 (f := .cls "Greatest") rfl)
theorem Wd.n_Greatest_kind (T : Wd K mg base) : NoAttr K (He.ga K "Greatest") "kind" := He.noat_ok (T.says.fact 184 (f := .noat "Greatest" "kind") rfl)
theorem Wd.n_Greatest_told (T : Wd K mg base) : NoAttr K (He.ga K "Greatest") "told" := He.noat_ok (T.says.fact 185 (f := .noat "Greatest" "told") rfl)
theorem Wd.n_Greatest_goods (T : Wd K mg base) : NoAttr K (He.ga K "Greatest") "goods" := He.noat_ok (T.says.fact 186 (f := .noat "Greatest" "goods") rfl)
theorem Wd.n_Greatest_inner (T : Wd K mg base) : NoAttr K (He.ga K "Greatest") "inner" := He.noat_ok (T.says.fact 187 (f := .noat "Greatest" "inner") rfl)
theorem Wd.n_Greatest_many (T : Wd K mg base) : NoAttr K (He.ga K "Greatest") "many" := He.noat_ok (T.says.fact 188 (f := .noat "Greatest" "many") rfl)
theorem Wd.n_Greatest_levels (T : Wd K mg base) : NoAttr K (He.ga K "Greatest") "levels" := He.noat_ok (T.says.fact 189 (f := .noat "Greatest" "levels") rfl)
theorem Wd.n_Greatest_parts (T : Wd K mg base) : NoAttr K (He.ga K "Greatest") "parts" := He.noat_ok (T.says.fact 190 (f := .noat "Greatest" "parts") rfl)
theorem Wd.k_Greatest (T : Wd K mg base) : Mk K (He.ga K "Greatest") (He.ma K (He.ga K "Greatest") "__init__") := He.mkr_ok (T.says.fact 191 (f := .mkr "Greatest") rfl)
theorem Wd.c_Then (T : Wd K mg base) : Cls K (He.ga K "Then") := He.cls_ok (T.says.fact 192 (f := .cls "Then") rfl)
theorem Wd.n_Then_kind (T : Wd K mg base) : NoAttr K (He.ga K "Then") "kind" := He.noat_ok (T.says.fact 193 (f := .noat "Then" "kind") rfl)
theorem Wd.n_Then_told (T : Wd K mg base) : NoAttr K (He.ga K "Then") "told" := He.noat_ok (T.says.fact 194 (f := .noat "Then" "told") rfl)
theorem Wd.n_Then_goods (T : Wd K mg base) : NoAttr K (He.ga K "Then") "goods" := He.noat_ok (T.says.fact 195 (f := .noat "Then" "goods") rfl)
theorem Wd.n_Then_inner (T : Wd K mg base) : NoAttr K (He.ga K "Then") "inner" := He.noat_ok (T.says.fact 196 (f := .noat "Then" "inner") rfl)
theorem Wd.n_Then_many (T : Wd K mg base) : NoAttr K (He.ga K "Then") "many" := He.noat_ok (T.says.fact 197 (f := .noat "Then" "many") rfl)
theorem Wd.n_Then_levels (T : Wd K mg base) : NoAttr K (He.ga K "Then") "levels" := He.noat_ok (T.says.fact 198 (f := .noat "Then" "levels") rfl)
theorem Wd.n_Then_days (T : Wd K mg base) : NoAttr K (He.ga K "Then") "days" := He.noat_ok (T.says.fact 199 (f := .noat "Then" "days") rfl)
theorem Wd.n_Then_first (T : Wd K mg base) : NoAttr K (He.ga K "Then") "first" := He.noat_ok (T.says.fact 200 (f := .noat "Then" "first") rfl)
theorem Wd.n_Then_last (T : Wd K mg base) : NoAttr K (He.ga K "Then") "last" := He.noat_ok (T.says.fact 201 (f := .noat "Then" "last") rfl)
theorem Wd.k_Then (T : Wd K mg base) : Mk K (He.ga K "Then") (He.ma K (He.ga K "Then") "__init__") := He.mkr_ok (T.says.fact 202 (f := .mkr "Then") rfl)
theorem Wd.c_BestWalk (T : Wd K mg base) : Cls K (He.ga K "BestWalk") := He.cls_ok (T.says.fact 203 (f := .cls "BestWalk") rfl)
theorem Wd.n_BestWalk_kind (T : Wd K mg base) : NoAttr K (He.ga K "BestWalk") "kind" := He.noat_ok (T.says.fact 204 (f := .noat "BestWalk" "kind") rfl)
theorem Wd.n_BestWalk_told (T : Wd K mg base) : NoAttr K (He.ga K "BestWalk") "told" := He.noat_ok (T.says.fact 205 (f := .noat "BestWalk" "told") rfl)
theorem Wd.n_BestWalk_goods (T : Wd K mg base) : NoAttr K (He.ga K "BestWalk") "goods" := He.noat_ok (T.says.fact 206 (f := .noat "BestWalk" "goods") rfl)
theorem Wd.n_BestWalk_inner (T : Wd K mg base) : NoAttr K (He.ga K "BestWalk") "inner" := He.noat_ok (T.says.fact 207 (f := .noat "BestWalk" "inner") rfl)
theorem Wd.n_BestWalk_many (T : Wd K mg base) : NoAttr K (He.ga K "BestWalk") "many" := He.noat_ok (T.says.fact 208 (f := .noat "BestWalk" "many") rfl)
theorem Wd.n_BestWalk_levels (T : Wd K mg base) : NoAttr K (He.ga K "BestWalk") "levels" := He.noat_ok (T.says.fact 209 (f := .noat "BestWalk" "levels") rfl)
theorem Wd.n_BestWalk_machine (T : Wd K mg base) : NoAttr K (He.ga K "BestWalk") "machine" := He.noat_ok (T.says.fact 210 (f := .noat "BestWalk" "machine") rfl)
theorem Wd.n_BestWalk_weights (T : Wd K mg base) : NoAttr K (He.ga K "BestWalk") "weights" := He.noat_ok (T.says.fact 211 (f := .noat "BestWalk" "weights") rfl)
theorem Wd.k_BestWalk (T : Wd K mg base) : Mk K (He.ga K "BestWalk") (He.ma K (He.ga K "BestWalk") "__init__") := He.mkr_ok (T.says.fact 212 (f := .mkr "BestWalk") rfl)
theorem Wd.d_Misfit_init (T : Wd K mg base) : ∃ fd, FunD K "__init__" "Misfit.__init__" (defArgs s_Misfit_init) (defBody s_Misfit_init) (defScope s_Misfit_init) (Hp.d_Misfit_init.dvs K) [] (He.fAd K Hp.d_Misfit_init.at_) fd := T.says.def_ 0 (d := Hp.d_Misfit_init) rfl
theorem Wd.d_is_integer (T : Wd K mg base) : ∃ fd, FunD K "is_integer" "is_integer" (defArgs s_is_integer) (defBody s_is_integer) (defScope s_is_integer) (Hp.d_is_integer.dvs K) [] (He.fAd K Hp.d_is_integer.at_) fd := T.says.def_ 1 (d := Hp.d_is_integer) rfl
theorem Wd.d_is_within (T : Wd K mg base) : ∃ fd, FunD K "is_within" "is_within" (defArgs s_is_within) (defBody s_is_within) (defScope s_is_within) (Hp.d_is_within.dvs K) [] (He.fAd K Hp.d_is_within.at_) fd := T.says.def_ 2 (d := Hp.d_is_within) rfl
theorem Wd.d_is_list (T : Wd K mg base) : ∃ fd, FunD K "is_list" "is_list" (defArgs s_is_list) (defBody s_is_list) (defScope s_is_list) (Hp.d_is_list.dvs K) [] (He.fAd K Hp.d_is_list.at_) fd := T.says.def_ 3 (d := Hp.d_is_list) rfl
theorem Wd.d_common (T : Wd K mg base) : ∃ fd, FunD K "common" "common" (defArgs s_common) (defBody s_common) (defScope s_common) (Hp.d_common.dvs K) [] (He.fAd K Hp.d_common.at_) fd := T.says.def_ 4 (d := Hp.d_common) rfl
theorem Wd.d_is_number (T : Wd K mg base) : ∃ fd, FunD K "is_number" "is_number" (defArgs s_is_number) (defBody s_is_number) (defScope s_is_number) (Hp.d_is_number.dvs K) [] (He.fAd K Hp.d_is_number.at_) fd := T.says.def_ 5 (d := Hp.d_is_number) rfl
theorem Wd.d_above_in (T : Wd K mg base) : ∃ fd, FunD K "above_in" "above_in" (defArgs s_above_in) (defBody s_above_in) (defScope s_above_in) (Hp.d_above_in.dvs K) [] (He.fAd K Hp.d_above_in.at_) fd := T.says.def_ 6 (d := Hp.d_above_in) rfl
theorem Wd.d_is_from_0 (T : Wd K mg base) : ∃ fd, FunD K "is_from_0" "is_from_0" (defArgs s_is_from_0) (defBody s_is_from_0) (defScope s_is_from_0) (Hp.d_is_from_0.dvs K) [] (He.fAd K Hp.d_is_from_0.at_) fd := T.says.def_ 7 (d := Hp.d_is_from_0) rfl
theorem Wd.d_is_row (T : Wd K mg base) : ∃ fd, FunD K "is_row" "is_row" (defArgs s_is_row) (defBody s_is_row) (defScope s_is_row) (Hp.d_is_row.dvs K) [] (He.fAd K Hp.d_is_row.at_) fd := T.says.def_ 8 (d := Hp.d_is_row) rfl
theorem Wd.d_is_sum_1 (T : Wd K mg base) : ∃ fd, FunD K "is_sum_1" "is_sum_1" (defArgs s_is_sum_1) (defBody s_is_sum_1) (defScope s_is_sum_1) (Hp.d_is_sum_1.dvs K) [] (He.fAd K Hp.d_is_sum_1.at_) fd := T.says.def_ 9 (d := Hp.d_is_sum_1) rfl
theorem Wd.d_is_mix_of (T : Wd K mg base) : ∃ fd, FunD K "is_mix_of" "is_mix_of" (defArgs s_is_mix_of) (defBody s_is_mix_of) (defScope s_is_mix_of) (Hp.d_is_mix_of.dvs K) [] (He.fAd K Hp.d_is_mix_of.at_) fd := T.says.def_ 10 (d := Hp.d_is_mix_of) rfl
theorem Wd.d_is_word_of (T : Wd K mg base) : ∃ fd, FunD K "is_word_of" "is_word_of" (defArgs s_is_word_of) (defBody s_is_word_of) (defScope s_is_word_of) (Hp.d_is_word_of.dvs K) [] (He.fAd K Hp.d_is_word_of.at_) fd := T.says.def_ 11 (d := Hp.d_is_word_of) rfl
theorem Wd.d_kept (T : Wd K mg base) : ∃ fd, FunD K "kept" "kept" (defArgs s_kept) (defBody s_kept) (defScope s_kept) (Hp.d_kept.dvs K) [] (He.fAd K Hp.d_kept.at_) fd := T.says.def_ 12 (d := Hp.d_kept) rfl
theorem Wd.d_kept_row (T : Wd K mg base) : ∃ fd, FunD K "kept_row" "kept_row" (defArgs s_kept_row) (defBody s_kept_row) (defScope s_kept_row) (Hp.d_kept_row.dvs K) [] (He.fAd K Hp.d_kept_row.at_) fd := T.says.def_ 13 (d := Hp.d_kept_row) rfl
theorem Wd.d_need_integer (T : Wd K mg base) : ∃ fd, FunD K "need_integer" "need_integer" (defArgs s_need_integer) (defBody s_need_integer) (defScope s_need_integer) (Hp.d_need_integer.dvs K) [] (He.fAd K Hp.d_need_integer.at_) fd := T.says.def_ 14 (d := Hp.d_need_integer) rfl
theorem Wd.d_need_goods (T : Wd K mg base) : ∃ fd, FunD K "need_goods" "need_goods" (defArgs s_need_goods) (defBody s_need_goods) (defScope s_need_goods) (Hp.d_need_goods.dvs K) [] (He.fAd K Hp.d_need_goods.at_) fd := T.says.def_ 15 (d := Hp.d_need_goods) rfl
theorem Wd.d_need_days (T : Wd K mg base) : ∃ fd, FunD K "need_days" "need_days" (defArgs s_need_days) (defBody s_need_days) (defScope s_need_days) (Hp.d_need_days.dvs K) [] (He.fAd K Hp.d_need_days.at_) fd := T.says.def_ 16 (d := Hp.d_need_days) rfl
theorem Wd.d_need_from_0 (T : Wd K mg base) : ∃ fd, FunD K "need_from_0" "need_from_0" (defArgs s_need_from_0) (defBody s_need_from_0) (defScope s_need_from_0) (Hp.d_need_from_0.dvs K) [] (He.fAd K Hp.d_need_from_0.at_) fd := T.says.def_ 17 (d := Hp.d_need_from_0) rfl
theorem Wd.d_need_word (T : Wd K mg base) : ∃ fd, FunD K "need_word" "need_word" (defArgs s_need_word) (defBody s_need_word) (defScope s_need_word) (Hp.d_need_word.dvs K) [] (He.fAd K Hp.d_need_word.at_) fd := T.says.def_ 18 (d := Hp.d_need_word) rfl
theorem Wd.d_halves (T : Wd K mg base) : ∃ fd, FunD K "halves" "halves" (defArgs s_halves) (defBody s_halves) (defScope s_halves) (Hp.d_halves.dvs K) [] (He.fAd K Hp.d_halves.at_) fd := T.says.def_ 19 (d := Hp.d_halves) rfl
theorem Wd.d_lowest (T : Wd K mg base) : ∃ fd, FunD K "lowest" "lowest" (defArgs s_lowest) (defBody s_lowest) (defScope s_lowest) (Hp.d_lowest.dvs K) [] (He.fAd K Hp.d_lowest.at_) fd := T.says.def_ 20 (d := Hp.d_lowest) rfl
theorem Wd.d_added (T : Wd K mg base) : ∃ fd, FunD K "added" "added" (defArgs s_added) (defBody s_added) (defScope s_added) (Hp.d_added.dvs K) [] (He.fAd K Hp.d_added.at_) fd := T.says.def_ 21 (d := Hp.d_added) rfl
theorem Wd.d_turned (T : Wd K mg base) : ∃ fd, FunD K "turned" "turned" (defArgs s_turned) (defBody s_turned) (defScope s_turned) (Hp.d_turned.dvs K) [] (He.fAd K Hp.d_turned.at_) fd := T.says.def_ 22 (d := Hp.d_turned) rfl
theorem Wd.d_less_by (T : Wd K mg base) : ∃ fd, FunD K "less_by" "less_by" (defArgs s_less_by) (defBody s_less_by) (defScope s_less_by) (Hp.d_less_by.dvs K) [] (He.fAd K Hp.d_less_by.at_) fd := T.says.def_ 23 (d := Hp.d_less_by) rfl
theorem Wd.d_product (T : Wd K mg base) : ∃ fd, FunD K "product" "product" (defArgs s_product) (defBody s_product) (defScope s_product) (Hp.d_product.dvs K) [] (He.fAd K Hp.d_product.at_) fd := T.says.def_ 24 (d := Hp.d_product) rfl
theorem Wd.d_part_by (T : Wd K mg base) : ∃ fd, FunD K "part_by" "part_by" (defArgs s_part_by) (defBody s_part_by) (defScope s_part_by) (Hp.d_part_by.dvs K) [] (He.fAd K Hp.d_part_by.at_) fd := T.says.def_ 25 (d := Hp.d_part_by) rfl
theorem Wd.d_below (T : Wd K mg base) : ∃ fd, FunD K "below" "below" (defArgs s_below) (defBody s_below) (defScope s_below) (Hp.d_below.dvs K) [] (He.fAd K Hp.d_below.at_) fd := T.says.def_ 26 (d := Hp.d_below) rfl
theorem Wd.d_sign_in (T : Wd K mg base) : ∃ fd, FunD K "sign_in" "sign_in" (defArgs s_sign_in) (defBody s_sign_in) (defScope s_sign_in) (Hp.d_sign_in.dvs K) [] (He.fAd K Hp.d_sign_in.at_) fd := T.says.def_ 27 (d := Hp.d_sign_in) rfl
theorem Wd.d_total (T : Wd K mg base) : ∃ fd, FunD K "total" "total" (defArgs s_total) (defBody s_total) (defScope s_total) (Hp.d_total.dvs K) [] (He.fAd K Hp.d_total.at_) fd := T.says.def_ 28 (d := Hp.d_total) rfl
theorem Wd.d_summed (T : Wd K mg base) : ∃ fd, FunD K "summed" "summed" (defArgs s_summed) (defBody s_summed) (defScope s_summed) (Hp.d_summed.dvs K) [] (He.fAd K Hp.d_summed.at_) fd := T.says.def_ 29 (d := Hp.d_summed) rfl
theorem Wd.d_multiplied (T : Wd K mg base) : ∃ fd, FunD K "multiplied" "multiplied" (defArgs s_multiplied) (defBody s_multiplied) (defScope s_multiplied) (Hp.d_multiplied.dvs K) [] (He.fAd K Hp.d_multiplied.at_) fd := T.says.def_ 30 (d := Hp.d_multiplied) rfl
theorem Wd.d_greater (T : Wd K mg base) : ∃ fd, FunD K "greater" "greater" (defArgs s_greater) (defBody s_greater) (defScope s_greater) (Hp.d_greater.dvs K) [] (He.fAd K Hp.d_greater.at_) fd := T.says.def_ 31 (d := Hp.d_greater) rfl
theorem Wd.d_less_times (T : Wd K mg base) : ∃ fd, FunD K "less_times" "less_times" (defArgs s_less_times) (defBody s_less_times) (defScope s_less_times) (Hp.d_less_times.dvs K) [] (He.fAd K Hp.d_less_times.at_) fd := T.says.def_ 32 (d := Hp.d_less_times) rfl
theorem Wd.d_undone (T : Wd K mg base) : ∃ fd, FunD K "undone" "undone" (defArgs s_undone) (defBody s_undone) (defScope s_undone) (Hp.d_undone.dvs K) [] (He.fAd K Hp.d_undone.at_) fd := T.says.def_ 33 (d := Hp.d_undone) rfl
theorem Wd.d_lines_of (T : Wd K mg base) : ∃ fd, FunD K "lines_of" "lines_of" (defArgs s_lines_of) (defBody s_lines_of) (defScope s_lines_of) (Hp.d_lines_of.dvs K) [] (He.fAd K Hp.d_lines_of.at_) fd := T.says.def_ 34 (d := Hp.d_lines_of) rfl
theorem Wd.d_Corner_init (T : Wd K mg base) : ∃ fd, FunD K "__init__" "Corner.__init__" (defArgs s_Corner_init) (defBody s_Corner_init) (defScope s_Corner_init) (Hp.d_Corner_init.dvs K) [] (He.fAd K Hp.d_Corner_init.at_) fd := T.says.def_ 35 (d := Hp.d_Corner_init) rfl
theorem Wd.d_need_corner (T : Wd K mg base) : ∃ fd, FunD K "need_corner" "need_corner" (defArgs s_need_corner) (defBody s_need_corner) (defScope s_need_corner) (Hp.d_need_corner.dvs K) [] (He.fAd K Hp.d_need_corner.at_) fd := T.says.def_ 36 (d := Hp.d_need_corner) rfl
theorem Wd.d_are_mixes (T : Wd K mg base) : ∃ fd, FunD K "are_mixes" "are_mixes" (defArgs s_are_mixes) (defBody s_are_mixes) (defScope s_are_mixes) (Hp.d_are_mixes.dvs K) [] (He.fAd K Hp.d_are_mixes.at_) fd := T.says.def_ 37 (d := Hp.d_are_mixes) rfl
theorem Wd.d_are_arrows (T : Wd K mg base) : ∃ fd, FunD K "are_arrows" "are_arrows" (defArgs s_are_arrows) (defBody s_are_arrows) (defScope s_are_arrows) (Hp.d_are_arrows.dvs K) [] (He.fAd K Hp.d_are_arrows.at_) fd := T.says.def_ 38 (d := Hp.d_are_arrows) rfl
theorem Wd.d_Machine_init (T : Wd K mg base) : ∃ fd, FunD K "__init__" "Machine.__init__" (defArgs s_Machine_init) (defBody s_Machine_init) (defScope s_Machine_init) (Hp.d_Machine_init.dvs K) [] (He.fAd K Hp.d_Machine_init.at_) fd := T.says.def_ 39 (d := Hp.d_Machine_init) rfl
theorem Wd.d_need_machine (T : Wd K mg base) : ∃ fd, FunD K "need_machine" "need_machine" (defArgs s_need_machine) (defBody s_need_machine) (defScope s_need_machine) (Hp.d_need_machine.dvs K) [] (He.fAd K Hp.d_need_machine.at_) fd := T.says.def_ 40 (d := Hp.d_need_machine) rfl
theorem Wd.d_Promise_init (T : Wd K mg base) : ∃ fd, FunD K "__init__" "Promise.__init__" (defArgs s_Promise_init) (defBody s_Promise_init) (defScope s_Promise_init) (Hp.d_Promise_init.dvs K) [] (He.fAd K Hp.d_Promise_init.at_) fd := T.says.def_ 41 (d := Hp.d_Promise_init) rfl
theorem Wd.d_need_promise (T : Wd K mg base) : ∃ fd, FunD K "need_promise" "need_promise" (defArgs s_need_promise) (defBody s_need_promise) (defScope s_need_promise) (Hp.d_need_promise.dvs K) [] (He.fAd K Hp.d_need_promise.at_) fd := T.says.def_ 42 (d := Hp.d_need_promise) rfl
theorem Wd.d_need_parts (T : Wd K mg base) : ∃ fd, FunD K "need_parts" "need_parts" (defArgs s_need_parts) (defBody s_need_parts) (defScope s_need_parts) (Hp.d_need_parts.dvs K) [] (He.fAd K Hp.d_need_parts.at_) fd := T.says.def_ 43 (d := Hp.d_need_parts) rfl
theorem Wd.d_need_shares (T : Wd K mg base) : ∃ fd, FunD K "need_shares" "need_shares" (defArgs s_need_shares) (defBody s_need_shares) (defScope s_need_shares) (Hp.d_need_shares.dvs K) [] (He.fAd K Hp.d_need_shares.at_) fd := T.says.def_ 44 (d := Hp.d_need_shares) rfl
theorem Wd.d_need_room (T : Wd K mg base) : ∃ fd, FunD K "need_room" "need_room" (defArgs s_need_room) (defBody s_need_room) (defScope s_need_room) (Hp.d_need_room.dvs K) [] (He.fAd K Hp.d_need_room.at_) fd := T.says.def_ 45 (d := Hp.d_need_room) rfl
theorem Wd.d_spread (T : Wd K mg base) : ∃ fd, FunD K "spread" "spread" (defArgs s_spread) (defBody s_spread) (defScope s_spread) (Hp.d_spread.dvs K) [] (He.fAd K Hp.d_spread.at_) fd := T.says.def_ 46 (d := Hp.d_spread) rfl
theorem Wd.d_many_words (T : Wd K mg base) : ∃ fd, FunD K "many_words" "many_words" (defArgs s_many_words) (defBody s_many_words) (defScope s_many_words) (Hp.d_many_words.dvs K) [] (He.fAd K Hp.d_many_words.at_) fd := T.says.def_ 47 (d := Hp.d_many_words) rfl
theorem Wd.d_need_few_words (T : Wd K mg base) : ∃ fd, FunD K "need_few_words" "need_few_words" (defArgs s_need_few_words) (defBody s_need_few_words) (defScope s_need_few_words) (Hp.d_need_few_words.dvs K) [] (He.fAd K Hp.d_need_few_words.at_) fd := T.says.def_ 48 (d := Hp.d_need_few_words) rfl
theorem Wd.d_run_in (T : Wd K mg base) : ∃ fd, FunD K "run_in" "run_in" (defArgs s_run_in) (defBody s_run_in) (defScope s_run_in) (Hp.d_run_in.dvs K) [] (He.fAd K Hp.d_run_in.at_) fd := T.says.def_ 49 (d := Hp.d_run_in) rfl
theorem Wd.d_greatest_of (T : Wd K mg base) : ∃ fd, FunD K "greatest_of" "greatest_of" (defArgs s_greatest_of) (defBody s_greatest_of) (defScope s_greatest_of) (Hp.d_greatest_of.dvs K) [] (He.fAd K Hp.d_greatest_of.at_) fd := T.says.def_ 50 (d := Hp.d_greatest_of) rfl
theorem Wd.d_led_on (T : Wd K mg base) : ∃ fd, FunD K "led_on" "led_on" (defArgs s_led_on) (defBody s_led_on) (defScope s_led_on) (Hp.d_led_on.dvs K) [] (He.fAd K Hp.d_led_on.at_) fd := T.says.def_ 51 (d := Hp.d_led_on) rfl
theorem Wd.d_walk_worth_in (T : Wd K mg base) : ∃ fd, FunD K "walk_worth_in" "walk_worth_in" (defArgs s_walk_worth_in) (defBody s_walk_worth_in) (defScope s_walk_worth_in) (Hp.d_walk_worth_in.dvs K) [] (He.fAd K Hp.d_walk_worth_in.at_) fd := T.says.def_ 52 (d := Hp.d_walk_worth_in) rfl
theorem Wd.d_worth_in (T : Wd K mg base) : ∃ fd, FunD K "worth_in" "worth_in" (defArgs s_worth_in) (defBody s_worth_in) (defScope s_worth_in) (Hp.d_worth_in.dvs K) [] (He.fAd K Hp.d_worth_in.at_) fd := T.says.def_ 53 (d := Hp.d_worth_in) rfl
theorem Wd.d_best_many (T : Wd K mg base) : ∃ fd, FunD K "best_many" "best_many" (defArgs s_best_many) (defBody s_best_many) (defScope s_best_many) (Hp.d_best_many.dvs K) [] (He.fAd K Hp.d_best_many.at_) fd := T.says.def_ 54 (d := Hp.d_best_many) rfl
theorem Wd.d_has_best_in (T : Wd K mg base) : ∃ fd, FunD K "has_best_in" "has_best_in" (defArgs s_has_best_in) (defBody s_has_best_in) (defScope s_has_best_in) (Hp.d_has_best_in.dvs K) [] (He.fAd K Hp.d_has_best_in.at_) fd := T.says.def_ 55 (d := Hp.d_has_best_in) rfl
theorem Wd.d_need_no_best (T : Wd K mg base) : ∃ fd, FunD K "need_no_best" "need_no_best" (defArgs s_need_no_best) (defBody s_need_no_best) (defScope s_need_no_best) (Hp.d_need_no_best.dvs K) [] (He.fAd K Hp.d_need_no_best.at_) fd := T.says.def_ 56 (d := Hp.d_need_no_best) rfl
theorem Wd.d_ways_by (T : Wd K mg base) : ∃ fd, FunD K "ways_by" "ways_by" (defArgs s_ways_by) (defBody s_ways_by) (defScope s_ways_by) (Hp.d_ways_by.dvs K) [] (He.fAd K Hp.d_ways_by.at_) fd := T.says.def_ 57 (d := Hp.d_ways_by) rfl
theorem Wd.d_summed_in (T : Wd K mg base) : ∃ fd, FunD K "summed_in" "summed_in" (defArgs s_summed_in) (defBody s_summed_in) (defScope s_summed_in) (Hp.d_summed_in.dvs K) [] (He.fAd K Hp.d_summed_in.at_) fd := T.says.def_ 58 (d := Hp.d_summed_in) rfl
theorem Wd.d_rest_by (T : Wd K mg base) : ∃ fd, FunD K "rest_by" "rest_by" (defArgs s_rest_by) (defBody s_rest_by) (defScope s_rest_by) (Hp.d_rest_by.dvs K) [] (He.fAd K Hp.d_rest_by.at_) fd := T.says.def_ 59 (d := Hp.d_rest_by) rfl
theorem Wd.d_need_asked (T : Wd K mg base) : ∃ fd, FunD K "need_asked" "need_asked" (defArgs s_need_asked) (defBody s_need_asked) (defScope s_need_asked) (Hp.d_need_asked.dvs K) [] (He.fAd K Hp.d_need_asked.at_) fd := T.says.def_ 60 (d := Hp.d_need_asked) rfl
theorem Wd.d_need_amounts (T : Wd K mg base) : ∃ fd, FunD K "need_amounts" "need_amounts" (defArgs s_need_amounts) (defBody s_need_amounts) (defScope s_need_amounts) (Hp.d_need_amounts.dvs K) [] (He.fAd K Hp.d_need_amounts.at_) fd := T.says.def_ 61 (d := Hp.d_need_amounts) rfl
theorem Wd.d_need_told (T : Wd K mg base) : ∃ fd, FunD K "need_told" "need_told" (defArgs s_need_told) (defBody s_need_told) (defScope s_need_told) (Hp.d_need_told.dvs K) [] (He.fAd K Hp.d_need_told.at_) fd := T.says.def_ 62 (d := Hp.d_need_told) rfl
theorem Wd.d_robbed_corner (T : Wd K mg base) : ∃ fd, FunD K "robbed_corner" "robbed_corner" (defArgs s_robbed_corner) (defBody s_robbed_corner) (defScope s_robbed_corner) (Hp.d_robbed_corner.dvs K) [] (He.fAd K Hp.d_robbed_corner.at_) fd := T.says.def_ 63 (d := Hp.d_robbed_corner) rfl
theorem Wd.d_law_thief (T : Wd K mg base) : ∃ fd, FunD K "_law_thief" "_law_thief" (defArgs s_law_thief) (defBody s_law_thief) (defScope s_law_thief) (Hp.d_law_thief.dvs K) [] (He.fAd K Hp.d_law_thief.at_) fd := T.says.def_ 64 (d := Hp.d_law_thief) rfl
theorem Wd.d_law_prowl (T : Wd K mg base) : ∃ fd, FunD K "_law_prowl" "_law_prowl" (defArgs s_law_prowl) (defBody s_law_prowl) (defScope s_law_prowl) (Hp.d_law_prowl.dvs K) [] (He.fAd K Hp.d_law_prowl.at_) fd := T.says.def_ 65 (d := Hp.d_law_prowl) rfl
theorem Wd.d_law_one_of (T : Wd K mg base) : ∃ fd, FunD K "_law_one_of" "_law_one_of" (defArgs s_law_one_of) (defBody s_law_one_of) (defScope s_law_one_of) (Hp.d_law_one_of.dvs K) [] (He.fAd K Hp.d_law_one_of.at_) fd := T.says.def_ 66 (d := Hp.d_law_one_of) rfl
theorem Wd.d_law_lowest (T : Wd K mg base) : ∃ fd, FunD K "_law_lowest" "_law_lowest" (defArgs s_law_lowest) (defBody s_law_lowest) (defScope s_law_lowest) (Hp.d_law_lowest.dvs K) [] (He.fAd K Hp.d_law_lowest.at_) fd := T.says.def_ 67 (d := Hp.d_law_lowest) rfl
theorem Wd.d_law_ends (T : Wd K mg base) : ∃ fd, FunD K "_law_ends" "_law_ends" (defArgs s_law_ends) (defBody s_law_ends) (defScope s_law_ends) (Hp.d_law_ends.dvs K) [] (He.fAd K Hp.d_law_ends.at_) fd := T.says.def_ 68 (d := Hp.d_law_ends) rfl
theorem Wd.d_law_plus (T : Wd K mg base) : ∃ fd, FunD K "_law_plus" "_law_plus" (defArgs s_law_plus) (defBody s_law_plus) (defScope s_law_plus) (Hp.d_law_plus.dvs K) [] (He.fAd K Hp.d_law_plus.at_) fd := T.says.def_ 69 (d := Hp.d_law_plus) rfl
theorem Wd.d_law_times (T : Wd K mg base) : ∃ fd, FunD K "_law_times" "_law_times" (defArgs s_law_times) (defBody s_law_times) (defScope s_law_times) (Hp.d_law_times.dvs K) [] (He.fAd K Hp.d_law_times.at_) fd := T.says.def_ 70 (d := Hp.d_law_times) rfl
theorem Wd.d_law_is_less (T : Wd K mg base) : ∃ fd, FunD K "_law_is_less" "_law_is_less" (defArgs s_law_is_less) (defBody s_law_is_less) (defScope s_law_is_less) (Hp.d_law_is_less.dvs K) [] (He.fAd K Hp.d_law_is_less.at_) fd := T.says.def_ 71 (d := Hp.d_law_is_less) rfl
theorem Wd.d_law_total (T : Wd K mg base) : ∃ fd, FunD K "_law_total" "_law_total" (defArgs s_law_total) (defBody s_law_total) (defScope s_law_total) (Hp.d_law_total.dvs K) [] (He.fAd K Hp.d_law_total.at_) fd := T.says.def_ 72 (d := Hp.d_law_total) rfl
theorem Wd.d_law_paid (T : Wd K mg base) : ∃ fd, FunD K "_law_paid" "_law_paid" (defArgs s_law_paid) (defBody s_law_paid) (defScope s_law_paid) (Hp.d_law_paid.dvs K) [] (He.fAd K Hp.d_law_paid.at_) fd := T.says.def_ 73 (d := Hp.d_law_paid) rfl
theorem Wd.d_law_number (T : Wd K mg base) : ∃ fd, FunD K "_law_number" "_law_number" (defArgs s_law_number) (defBody s_law_number) (defScope s_law_number) (Hp.d_law_number.dvs K) [] (He.fAd K Hp.d_law_number.at_) fd := T.says.def_ 74 (d := Hp.d_law_number) rfl
theorem Wd.d_law_mix (T : Wd K mg base) : ∃ fd, FunD K "_law_mix" "_law_mix" (defArgs s_law_mix) (defBody s_law_mix) (defScope s_law_mix) (Hp.d_law_mix.dvs K) [] (He.fAd K Hp.d_law_mix.at_) fd := T.says.def_ 75 (d := Hp.d_law_mix) rfl
theorem Wd.d_law_minus (T : Wd K mg base) : ∃ fd, FunD K "_law_minus" "_law_minus" (defArgs s_law_minus) (defBody s_law_minus) (defScope s_law_minus) (Hp.d_law_minus.dvs K) [] (He.fAd K Hp.d_law_minus.at_) fd := T.says.def_ 76 (d := Hp.d_law_minus) rfl
theorem Wd.d_law_over (T : Wd K mg base) : ∃ fd, FunD K "_law_over" "_law_over" (defArgs s_law_over) (defBody s_law_over) (defScope s_law_over) (Hp.d_law_over.dvs K) [] (He.fAd K Hp.d_law_over.at_) fd := T.says.def_ 77 (d := Hp.d_law_over) rfl
theorem Wd.d_law_square (T : Wd K mg base) : ∃ fd, FunD K "_law_square" "_law_square" (defArgs s_law_square) (defBody s_law_square) (defScope s_law_square) (Hp.d_law_square.dvs K) [] (He.fAd K Hp.d_law_square.at_) fd := T.says.def_ 78 (d := Hp.d_law_square) rfl
theorem Wd.d_law_parts (T : Wd K mg base) : ∃ fd, FunD K "_law_parts" "_law_parts" (defArgs s_law_parts) (defBody s_law_parts) (defScope s_law_parts) (Hp.d_law_parts.dvs K) [] (He.fAd K Hp.d_law_parts.at_) fd := T.says.def_ 79 (d := Hp.d_law_parts) rfl
theorem Wd.d_law_is_corner (T : Wd K mg base) : ∃ fd, FunD K "_law_is_corner" "_law_is_corner" (defArgs s_law_is_corner) (defBody s_law_is_corner) (defScope s_law_is_corner) (Hp.d_law_is_corner.dvs K) [] (He.fAd K Hp.d_law_is_corner.at_) fd := T.says.def_ 80 (d := Hp.d_law_is_corner) rfl
theorem Wd.d_law_rows (T : Wd K mg base) : ∃ fd, FunD K "_law_rows" "_law_rows" (defArgs s_law_rows) (defBody s_law_rows) (defScope s_law_rows) (Hp.d_law_rows.dvs K) [] (He.fAd K Hp.d_law_rows.at_) fd := T.says.def_ 81 (d := Hp.d_law_rows) rfl
theorem Wd.d_law_corner (T : Wd K mg base) : ∃ fd, FunD K "_law_corner" "_law_corner" (defArgs s_law_corner) (defBody s_law_corner) (defScope s_law_corner) (Hp.d_law_corner.dvs K) [] (He.fAd K Hp.d_law_corner.at_) fd := T.says.def_ 82 (d := Hp.d_law_corner) rfl
theorem Wd.d_law_leaf (T : Wd K mg base) : ∃ fd, FunD K "_law_leaf" "_law_leaf" (defArgs s_law_leaf) (defBody s_law_leaf) (defScope s_law_leaf) (Hp.d_law_leaf.dvs K) [] (He.fAd K Hp.d_law_leaf.at_) fd := T.says.def_ 83 (d := Hp.d_law_leaf) rfl
theorem Wd.d_law_promise (T : Wd K mg base) : ∃ fd, FunD K "_law_promise" "_law_promise" (defArgs s_law_promise) (defBody s_law_promise) (defScope s_law_promise) (Hp.d_law_promise.dvs K) [] (He.fAd K Hp.d_law_promise.at_) fd := T.says.def_ 84 (d := Hp.d_law_promise) rfl
theorem Wd.d_law_made (T : Wd K mg base) : ∃ fd, FunD K "_law_made" "_law_made" (defArgs s_law_made) (defBody s_law_made) (defScope s_law_made) (Hp.d_law_made.dvs K) [] (He.fAd K Hp.d_law_made.at_) fd := T.says.def_ 85 (d := Hp.d_law_made) rfl
theorem Wd.d_law_walked (T : Wd K mg base) : ∃ fd, FunD K "_law_walked" "_law_walked" (defArgs s_law_walked) (defBody s_law_walked) (defScope s_law_walked) (Hp.d_law_walked.dvs K) [] (He.fAd K Hp.d_law_walked.at_) fd := T.says.def_ 86 (d := Hp.d_law_walked) rfl
theorem Wd.d_law_worth (T : Wd K mg base) : ∃ fd, FunD K "_law_worth" "_law_worth" (defArgs s_law_worth) (defBody s_law_worth) (defScope s_law_worth) (Hp.d_law_worth.dvs K) [] (He.fAd K Hp.d_law_worth.at_) fd := T.says.def_ 87 (d := Hp.d_law_worth) rfl
theorem Wd.d_law_words (T : Wd K mg base) : ∃ fd, FunD K "_law_words" "_law_words" (defArgs s_law_words) (defBody s_law_words) (defScope s_law_words) (Hp.d_law_words.dvs K) [] (He.fAd K Hp.d_law_words.at_) fd := T.says.def_ 88 (d := Hp.d_law_words) rfl
theorem Wd.d_law_over_words (T : Wd K mg base) : ∃ fd, FunD K "_law_over_words" "_law_over_words" (defArgs s_law_over_words) (defBody s_law_over_words) (defScope s_law_over_words) (Hp.d_law_over_words.dvs K) [] (He.fAd K Hp.d_law_over_words.at_) fd := T.says.def_ 89 (d := Hp.d_law_over_words) rfl
theorem Wd.d_law_spread (T : Wd K mg base) : ∃ fd, FunD K "_law_spread" "_law_spread" (defArgs s_law_spread) (defBody s_law_spread) (defScope s_law_spread) (Hp.d_law_spread.dvs K) [] (He.fAd K Hp.d_law_spread.at_) fd := T.says.def_ 90 (d := Hp.d_law_spread) rfl
theorem Wd.d_law_is_refused (T : Wd K mg base) : ∃ fd, FunD K "_law_is_refused" "_law_is_refused" (defArgs s_law_is_refused) (defBody s_law_is_refused) (defScope s_law_is_refused) (Hp.d_law_is_refused.dvs K) [] (He.fAd K Hp.d_law_is_refused.at_) fd := T.says.def_ 91 (d := Hp.d_law_is_refused) rfl
theorem Wd.d_law (T : Wd K mg base) : ∃ fd, FunD K "law" "law" (defArgs s_law) (defBody s_law) (defScope s_law) (Hp.d_law.dvs K) [] (He.fAd K Hp.d_law.at_) fd := T.says.def_ 92 (d := Hp.d_law) rfl
end
end Hp
namespace Hp
set_option Elab.async false
set_option linter.all false
set_option maxRecDepth 100000
set_option maxHeartbeats 4000000
open PySem PySem.Spec PyProof.Rows L2
def names0 : List PySem.Str := ["_wall", "PriceError", "BadNumber", "BadMix", "BadWord", "BadPromise", "BadMachine", "BadCorner", "Misfit", "TooMany", "BadText", "MOST_GOODS", "MOST_DAYS", "is_integer", "is_within", "is_list", "common", "is_number", "above_in", "is_from_0", "is_row", "is_sum_1", "is_mix_of", "is_word_of"]
def names1 : List PySem.Str := ["kept", "kept_row", "need_integer", "need_goods", "need_days", "need_from_0", "need_word", "BAR", "FIGURES", "MOST_FIGURES", "integer_in", "number_in", "Scan", "halves", "lowest", "added", "turned", "less_by", "product", "part_by", "below", "sign_in", "total", "summed"]
def names2 : List PySem.Str := ["multiplied", "raised", "power_in", "greater", "text_in", "less_times", "undone", "lines_of", "Corner", "need_corner", "MOST_STANDINGS", "are_mixes", "are_arrows", "Machine", "machine_items", "mix_in", "arrows_in", "machine_in", "need_machine", "MOST_PARTS", "MOST_LEVELS", "MOST_PROMISES", "MOST_COUNT", "Promise"]
def names3 : List PySem.Str := ["Hold", "Mix", "Times", "Sum", "Greatest", "Then", "BestWalk", "BestMix", "need_promise", "need_parts", "need_shares", "need_room", "spread", "MOST_WORDS", "many_words", "need_few_words", "run_in", "greatest_of", "best_at", "led_on", "walk_worth_in", "worth_in", "best_many", "has_best_in"]
def names4 : List PySem.Str := ["need_no_best", "ways_by", "summed_in", "rest_by", "need_asked", "need_amounts", "need_told", "robbed_corner", "_law_thief", "_law_prowl", "_law_one_of", "_law_lowest", "_law_ends", "_law_plus", "_law_times", "_law_is_less", "_law_total", "_law_paid", "_law_number", "_law_mix", "_law_minus", "_law_over", "_law_square", "_law_parts"]
def names5 : List PySem.Str := ["_law_is_corner", "_law_rows", "_law_corner", "_law_between", "_law_leaf", "_law_promise", "_law_made", "_law_walked", "_law_best", "_law_worth", "_law_words", "_law_over_words", "_law_spread", "_law_is_refused"]
def names : List PySem.Str := names0 ++ names1 ++ names2 ++ names3 ++ names4 ++ names5
def as0 : List Addr := [2, 3, 31, 165, 212, 219, 226, 233, 240, 247, 254, 259, 266, 273, 278, 285, 290, 297, 304, 311, 318, 326, 423, 430, 437, 444, 451, 458, 465, 472]
def as1 : List Addr := [479, 486, 491, 498, 519, 531, 536, 541, 563, 575, 580, 585, 631, 666, 688, 711, 732, 753, 774, 795, 816, 837, 866, 873, 880, 887, 894, 901, 908, 913]
def as2 : List Addr := [920, 930, 937, 942, 947, 954, 961, 966, 971, 978, 985, 990, 997, 1004, 1009, 1016, 1023, 1030, 1037, 1044, 1051, 1058, 1065, 1070, 1077, 1082, 1089, 1096, 1101, 1106]
def as3 : List Addr := [1111, 1116, 1121, 1131, 1136, 1141, 1146, 1158, 1163, 1168, 1173, 1180, 1185, 30, 164, 211, 218, 225, 232, 239, 246, 253, 258, 265, 272, 277, 284, 289, 296, 303]
def as4 : List Addr := [310, 317, 325, 319, 422, 429, 436, 443, 450, 457, 464, 471, 478, 485, 490, 497, 518, 530, 535, 540, 562, 574, 568, 579, 584, 630, 665, 659, 687, 710]
def as5 : List Addr := [731, 752, 773, 794, 815, 836, 865, 859, 872, 879, 886, 893, 900, 907, 912, 919, 929, 936, 941, 946, 953, 960, 965, 970, 977, 984, 989, 996, 1003, 1008]
def as6 : List Addr := [1015, 1022, 1029, 1036, 1043, 1050, 1057, 1064, 1069, 1076, 1081, 1088, 1095, 1100, 1105, 1110, 1115, 1120, 1130, 1135, 1140, 1145, 1157, 1162, 1167, 1172, 1179, 1184, 162, 553]
def as7 : List Addr := [597, 678, 708, 729, 750, 771, 792, 813, 834, 161, 552, 596, 677, 707, 696, 728, 717, 749, 738, 770, 759, 791, 780, 812, 801, 833, 822]
def asL : List Addr := as0 ++ as1 ++ as2 ++ as3 ++ as4 ++ as5 ++ as6 ++ as7
abbrev R : PySem.W.OpenRow := PySem.W.OpenLaw.row PySem.Challenge.rw_hindprice_k63_whole_nobody_with_less_is
abbrev Al : Type := He.AlD × (Bool × List SupW)
def hk : PySem.W.Hook where
  α := Al
  obs := fun s => (He.obsD fa fn (He.frG s.heap.get? asL), (exB (He.frG s.heap.get? asL), supL.map fun d => supW (He.frG s.heap.get? asL) d.x))
  val := fun _ => (He.valD fn, (true, supL.map SupD.val))
  says := fun _ h => ∃ K : PySem.W.Frag, K.In h ∧ He.SaysD fa fn K ∧ exB K = true ∧ supL.map (fun d => supW K d.x) = supL.map SupD.val
  of := fun _ _ e => ⟨_, He.frG_in, congrArg (fun z : Al => z.1) e, congrArg (fun z : Al => z.2.1) e, congrArg (fun z : Al => z.2.2) e⟩
  keeps := fun _ _ _ ⟨K, hK, c⟩ k => ⟨K, PySem.W.Frag.In.keeps hK k, c⟩
def kF (s : PySem.W.SharedT) : PySem.W.Frag := He.frG (HandSHeadRun.getT s) asL
def ob (s : PySem.W.SharedT) : Al := ((((fa.all fun f => f.ok (kF s)) && fn.all fun d => d.ok (kF s)), fn.map fun d => He.fnW (kF s) d.at_), (exB (kF s), supL.map fun d => supW (kF s) d.x))
theorem ob_eq (s : PySem.W.SharedT) : ob s = hk.obs s.abs := by
  have e : HandSHeadRun.getT s = s.abs.heap.get? := funext (HandSHeadRun.getT_eq s)
  unfold ob kF
  rw [e]
  rfl
/-! the head's run, asked one question at a time (all at once asks for too much memory) -/
section
open PySem.W HandSHeadRun
noncomputable abbrev er (w : World) (os : OsState) : Option SharedT := endF (stepQ (denQ tabQ) R.prog w) 40000 R.prog w os
set_option maxHeartbeats 0 in
theorem run_looks (w : World) (os : OsState) : (er w os).map (fun s => looksF R.prog (boot_heap w.params) s.abs) = some true := by kernel_rfl
set_option maxHeartbeats 0 in
theorem run_seen (w : World) (os : OsState) : (er w os).map (fun s => seenQ (view R.prog [146]) names (importedModules R.prog.main.body) (fun s => xlAt (view R.prog [146]) [] s && recOk R.toRowW.records s) s.abs) = some (openGood (view R.prog [146]) names) := by kernel_rfl
set_option maxHeartbeats 0 in
theorem run_fa (w : World) (os : OsState) : (er w os).map (fun s => fa.all fun f => f.ok (kF s)) = some true := by kernel_rfl
set_option maxHeartbeats 0 in
theorem run_fn (w : World) (os : OsState) : (er w os).map (fun s => ((fn.all fun d => d.ok (kF s)), fn.map fun d => He.fnW (kF s) d.at_)) = some (true, fn.map He.DefD.val) := by kernel_rfl
set_option maxHeartbeats 0 in
theorem run_ex (w : World) (os : OsState) : (er w os).map (fun s => (exB (kF s), supL.map fun d => supW (kF s) d.x)) = some (true, supL.map SupD.val) := by kernel_rfl
end
theorem both {α β γ : Type} {o : Option α} {f : α → β} {g : α → γ} {a : β} {b : γ} (h1 : o.map f = some a) (h2 : o.map g = some b) : o.map (fun s => (f s, g s)) = some (a, b) := by
  cases o with
  | none => cases h1
  | some s => exact congrArg some (congr (congrArg Prod.mk (Option.some.inj h1)) (Option.some.inj h2))
theorem bothB {α γ : Type} {o : Option α} {f g : α → Bool} {k : α → γ} {c : γ} (h1 : o.map f = some true) (h2 : o.map (fun s => (g s, k s)) = some (true, c)) : o.map (fun s => (f s && g s, k s)) = some (true, c) := by
  cases o with
  | none => cases h1
  | some s =>
    have e := Option.some.inj h2
    exact congrArg some (congr (congrArg Prod.mk (congr (congrArg Bool.and (Option.some.inj h1)) (congrArg (fun z : Bool × γ => z.1) e))) (congrArg (fun z : Bool × γ => z.2) e))
theorem run (w : World) : HandSHeadRun.RunEq R (PySem.W.view R.prog [146]) hk ob 40000 names w := fun os =>
  both (run_looks w os) (both (run_seen w os) (both (bothB (run_fa w os) (run_fn w os)) (run_ex w os)))
end Hp
namespace Hp
set_option Elab.async false
set_option linter.all false
set_option maxRecDepth 100000
set_option maxHeartbeats 4000000
open PySem PySem.Spec PyProof.Rows L2
/-! ### names of HandS.Codes, under this namespace -/
abbrev Cal := @C8.Cal
abbrev Mak := @C8.Mak
abbrev pe_c := @C8.pe_c
abbrev pe_mk := @C8.pe_mk
abbrev pe_gc := @C8.pe_gc
/-! ### rules that the layer has not -/
section
variable {X : Cx}
theorem pi_or {tg l : Expr} {w1 w2 : TI} (h1 : PI X tg l w1) (h2 : PI X tg l w2) : PI X tg l (fun σ H R => w1 σ H R ∨ w2 σ H R) := by
  refine ⟨fun pins s σ H R I h => ?_⟩
  rcases h with h | h
  · exact h1.run pins s σ H R I h
  · exact h2.run pins s σ H R I h
/-- a list or a tuple is walked -/
def iSeq (K : PySem.W.Frag) (tl : TE) : TI := fun σ H R => iList K tl σ H R ∨ iTup K tl σ H R
theorem pi_seq {tg l : Expr} {tl : TE} (hl : PE X l tl) : PI X tg l (iSeq X.K tl) := pi_or (pi_list hl) (pi_tup hl)
/-- // by any divisor but 0, below 2 ^ 9000 -/
def CDivA (_ j : Int) : Prop := j ≠ 0 ∧ j.natAbs.log2 < 9000
theorem op_fdivA : OpR X (binaryOp .FloorDiv) (rI CDivA fun i j => .int (i.fdiv j)) := opI fun i j _ _ _ _ _ hc q =>
  floordiv_int hc.1 q (.inl (PyProof.noPylong_of_log2 hc.2))
end
section
variable {P : Program} {w : World} {K : PySem.W.Frag} {mg : Str → Option Value} {base : Heap}
/-- a def of the text, from its body -/
theorem mkCal {x : Str} {st : Stmt} {N ps : List Str} {k : Nat} {sp : Sp} {f : Addr} {fd : FuncData} (F : FunD K x x (defArgs st) (defBody st) (defScope st) [] [] f fd) (g : mg x = some (.ref f)) (S : FnScope N ps (defScope st)) (b : Binds K fd ps [])
    (len : ∀ vs H Q E, sp vs H Q E → vs.length = ps.length)
    (hbody : ∀ (cdv : Value) (A : Around) (outer : List Env) (s : Shared) (H : Hp) (vs : List V) (Q : VK) (E : XK), Room k (A.deeper (envOfC x (defScope st) s.heap.objs.size f cdv)) → sp vs H Q E →
      ∃ t, PSs (cxOf CX0 P w K mg base N x (defScope st) f cdv A outer s H E).nox (defBody st) t ∧ t { nx := fun _ H' => Q .non H', rt := Q } (start N vs) H) : Cal P w K mg base (k + 1) x sp [] :=
  ⟨f, fd, ps, [], F.ok S len (fun cdv A outer s H vs Q E hr h => by
    obtain ⟨t, a, b⟩ := hbody cdv A outer s H vs Q E hr h
    exact ⟨t, a.nox, b⟩), g, F.kp, b, .nil⟩
end
section
variable {X : Cx} {k j : Nat} {C : Addr} {x : Str} {sp : Sp} {dvs : List V} {p pos : Pos} {e : Expr} {es : List Expr} {t : TA}
end
/-! ### heaps that grow -/
theorem _root_.L2.Same.of_new {H : Hp} {p : Addr} {o : HO} (h : H p = none) : Same H (upd H p o) := fun b o e => by rw [upd_ne (ne_of_none e h)]; exact e
/-- what is not a list stays -/
def SameN (H H' : Hp) : Prop := ∀ b o, H b = some o → (∀ xs, o ≠ .lst xs) → H' b = some o
theorem _root_.L2.Same.n {H H' : Hp} (e : Same H H') : SameN H H' := fun b o h _ => e b o h
theorem SameN.trans {H H1 H2 : Hp} (a : SameN H H1) (b : SameN H1 H2) : SameN H H2 := fun c o h n => b c o (a c o h n) n
theorem SameN.refl (H : Hp) : SameN H H := fun _ _ h _ => h
theorem SameN.lst {H : Hp} {l : Addr} {xs ys : List V} (h : H l = some (.lst xs)) : SameN H (upd H l (.lst ys)) := fun b o e n => by
  rw [upd_ne]; exact e
  rintro rfl
  rw [h] at e; cases e; exact n _ rfl
/-! ### numbers -/
/-- the value v is the number q: an int, or a pair in its one form -/
def Num (H : Hp) (v : V) (q : Rat) : Prop := (q.den = 1 ∧ v = .int q.num) ∨ (q.den ≠ 1 ∧ ∃ p, v = .ref p ∧ H p = some (.tup [.int q.num, .int (q.den : Int)]))
theorem Num.mono {H H' : Hp} {v : V} {q : Rat} (h : Num H v q) (e : SameN H H') : Num H' v q := by
  rcases h with h | ⟨h, p, a, b⟩
  · exact .inl h
  · exact .inr ⟨h, p, a, e _ _ b (fun _ z => nomatch z)⟩
theorem Num.int (H : Hp) (n : Int) : Num H (.int n) (n : Rat) := .inl ⟨Rat.den_intCast n, by rw [Rat.num_intCast]⟩
abbrev Nums (H : Hp) (vs : List V) (qs : List Rat) : Prop := Paired (Num H) vs qs
theorem Paired.imp {α β : Type} {F G : α → β → Prop} {l : List α} {m : List β} (h : Paired F l m) (f : ∀ a b, F a b → G a b) : Paired G l m := Paired.mapP h f
theorem Nums.mono {H H' : Hp} {vs : List V} {qs : List Rat} (h : Nums H vs qs) (e : SameN H H') : Nums H' vs qs := Paired.mapP h fun _ _ q => q.mono e
end Hp
/-! Plain mathematics: numbers. -/
namespace Hp
set_option autoImplicit false
/-! ### sizes -/
theorem log2_lt_pow {n k : Nat} (h : n < 2 ^ k) (hk : 0 < k) : n.log2 < k := by
  by_cases h0 : n = 0
  · subst h0; simpa using hk
  · exact (Nat.log2_lt h0).mpr h
theorem lt_pow_log2 (n : Nat) : n < 2 ^ (n.log2 + 1) := Nat.lt_log2_self
theorem log2_mul_le (a b : Nat) : (a * b).log2 ≤ a.log2 + b.log2 + 1 := by
  have h1 := lt_pow_log2 a
  have h2 := lt_pow_log2 b
  have h : a * b < 2 ^ (a.log2 + 1 + (b.log2 + 1)) := by
    rw [Nat.pow_add]
    by_cases hb : b = 0
    · subst hb; rw [Nat.mul_zero]; exact Nat.mul_pos (Nat.two_pow_pos _) (Nat.two_pow_pos _)
    · exact Nat.mul_lt_mul'' h1 h2
  have := log2_lt_pow h (by omega)
  omega
theorem log2_le_of_le {a b : Nat} (h : a ≤ b) : a.log2 ≤ b.log2 := by
  by_cases h0 : a = 0
  · subst h0; simp
  · exact (Nat.le_log2 (by omega)).mpr (Nat.le_trans (Nat.log2_self_le h0) h)
theorem log2_add_le (a b : Nat) : (a + b).log2 ≤ max a.log2 b.log2 + 1 := by
  have h1 := lt_pow_log2 a
  have h2 := lt_pow_log2 b
  have m1 : 2 ^ (a.log2 + 1) ≤ 2 ^ (max a.log2 b.log2 + 1) := Nat.pow_le_pow_right (by omega) (by omega)
  have m2 : 2 ^ (b.log2 + 1) ≤ 2 ^ (max a.log2 b.log2 + 1) := Nat.pow_le_pow_right (by omega) (by omega)
  have h : a + b < 2 ^ (max a.log2 b.log2 + 2) := by
    rw [show max a.log2 b.log2 + 2 = (max a.log2 b.log2 + 1) + 1 from rfl, Nat.pow_succ]; omega
  have := log2_lt_pow h (by omega)
  omega
/-- a number that every rule takes -/
def Sz (q : Rat) : Prop := q.num.natAbs.log2 < 400000 ∧ q.den.log2 < 4000
/-! ### sums and products -/
def rsum : List Rat → Rat
  | [] => 0
  | a :: l => a + rsum l
def rprod : List Rat → Rat
  | [] => 1
  | a :: l => a * rprod l
theorem rsum_append (a b : List Rat) : rsum (a ++ b) = rsum a + rsum b := by
  induction a with
  | nil => simp [rsum, Rat.zero_add]
  | cons x l ih => simp [rsum, ih, Rat.add_assoc]
theorem rprod_append (a b : List Rat) : rprod (a ++ b) = rprod a * rprod b := by
  induction a with
  | nil => simp [rprod, Rat.one_mul]
  | cons x l ih => simp [rprod, ih, Rat.mul_assoc]
theorem rsum_one (a : Rat) : rsum [a] = a := by simp [rsum, Rat.add_zero]
theorem rprod_one (a : Rat) : rprod [a] = a := by simp [rprod, Rat.mul_one]
theorem take_snoc {α : Type} {l : List α} {i : Nat} {x : α} (h : l[i]? = some x) : l.take (i + 1) = l.take i ++ [x] := by
  obtain ⟨hi, e⟩ := List.getElem?_eq_some_iff.mp h
  rw [List.take_add_one, h]; rfl
theorem rsum_take {l : List Rat} {i : Nat} {x : Rat} (h : l[i]? = some x) : rsum (l.take (i + 1)) = rsum (l.take i) + x := by
  rw [take_snoc h, rsum_append, rsum_one]
theorem rprod_take {l : List Rat} {i : Nat} {x : Rat} (h : l[i]? = some x) : rprod (l.take (i + 1)) = rprod (l.take i) * x := by
  rw [take_snoc h, rprod_append, rprod_one]
def rmax (p q : Rat) : Rat := if p < q then q else p
/-! ### the one form -/
theorem gcd_pos_int {a u : Int} (h : u ≠ 0) : 0 < Int.gcd a u := Int.gcd_pos_of_ne_zero_right a h
/-- the divisor that lowest takes -/
def lpart (a u : Int) : Int := if u < 0 then -(Int.gcd a u : Int) else (Int.gcd a u : Int)
theorem lpart_ne {a u : Int} (h : u ≠ 0) : lpart a u ≠ 0 := by
  have := gcd_pos_int (a := a) h
  unfold lpart; split <;> omega
theorem lpart_abs (a u : Int) : (lpart a u).natAbs = Int.gcd a u := by
  unfold lpart; split <;> omega
theorem lpart_le {a u : Int} (h : u ≠ 0) : (lpart a u).natAbs ≤ u.natAbs := by
  rw [lpart_abs]
  exact Nat.le_of_dvd (by omega) (Nat.gcd_dvd_right _ _)
theorem lpart_dvd (a u : Int) : lpart a u ∣ a ∧ lpart a u ∣ u := by
  have h1 : (Int.gcd a u : Int) ∣ a := Int.gcd_dvd_left ..
  have h2 : (Int.gcd a u : Int) ∣ u := Int.gcd_dvd_right ..
  unfold lpart
  split
  · exact ⟨Int.neg_dvd.mpr h1, Int.neg_dvd.mpr h2⟩
  · exact ⟨h1, h2⟩
theorem low_num {a u : Int} (h : u ≠ 0) : a.fdiv (lpart a u) = (Rat.divInt a u).num := by
  rw [Rat.num_divInt, Int.fdiv_eq_ediv_of_dvd (lpart_dvd a u).1, Int.gcd_comm u a]
  unfold lpart
  by_cases hu : u < 0
  · rw [if_pos hu, Int.sign_eq_neg_one_of_neg hu, Int.ediv_neg, Int.neg_mul, Int.one_mul, Int.neg_ediv_of_dvd (Int.gcd_dvd_left ..)]
  · rw [if_neg hu, Int.sign_eq_one_of_pos (by omega), Int.one_mul]
theorem low_den {a u : Int} (h : u ≠ 0) : u.fdiv (lpart a u) = ((Rat.divInt a u).den : Int) := by
  rw [Rat.den_divInt, if_neg h, Int.fdiv_eq_ediv_of_dvd (lpart_dvd a u).2, Int.gcd_comm u a]
  unfold lpart
  by_cases hu : u < 0
  · rw [if_pos hu, Int.ediv_neg, Int.natCast_ediv]
    rw [show u = -(u.natAbs : Int) by omega, Int.neg_ediv_of_dvd (by rw [← Int.dvd_neg]; have := Int.gcd_dvd_right (a := a) (b := u); rw [show u = -(u.natAbs : Int) by omega] at this; simpa using this)]
    simp
  · rw [if_neg hu, Int.natCast_ediv, show (u.natAbs : Int) = u by omega]
theorem add_low (p q : Rat) : Rat.divInt (p.num * q.den + q.num * p.den) (p.den * q.den) = p + q := by
  have h := Rat.divInt_add_divInt p.num q.num (d₁ := p.den) (d₂ := q.den) (by have := p.den_nz; omega) (by have := q.den_nz; omega)
  rw [Rat.num_divInt_den, Rat.num_divInt_den] at h
  exact h.symm
theorem mul_low (p q : Rat) : Rat.divInt (p.num * q.num) (p.den * q.den) = p * q := by
  have h := Rat.divInt_mul_divInt p.num q.num (d₁ := p.den) (d₂ := q.den)
  rw [Rat.num_divInt_den, Rat.num_divInt_den] at h
  exact h.symm
theorem div_low (p q : Rat) : Rat.divInt (p.num * q.den) (p.den * q.num) = p / q := by
  have h := Rat.divInt_mul_divInt p.num q.den (d₁ := p.den) (d₂ := q.num)
  rw [Rat.num_divInt_den] at h
  rw [Rat.div_def, ← h]
  congr 1
  rw [← Rat.inv_divInt, Rat.num_divInt_den]
theorem one_form {p : Rat} (h : p.den ≠ 1) : 2 ≤ p.den ∧ Int.gcd p.num p.den = 1 := by
  have h1 := p.den_nz
  refine ⟨by omega, ?_⟩
  have := p.reduced
  simpa [Int.gcd] using this
theorem den_one {p : Rat} (h : p.den = 1) : (p.num : Rat) = p := by
  apply Rat.ext
  · rw [Rat.num_intCast]
  · rw [Rat.den_intCast, h]
theorem num_eq (q : Rat) : (q.num : Rat) = q * ((q.den : Int) : Rat) := by
  have d0 : ((q.den : Int) : Rat) ≠ 0 := by
    intro z
    have := Rat.intCast_inj.mp (show ((q.den : Int) : Rat) = ((0 : Int) : Rat) from z)
    have := q.den_nz
    omega
  have h := Rat.num_divInt_den q
  rw [Rat.divInt_eq_div] at h
  have h2 := Rat.div_mul_cancel (a := (q.num : Rat)) d0
  rw [h] at h2
  exact h2.symm
theorem acc_step {a u n d : Int} {S q : Rat} (h : (a : Rat) = S * (u : Rat)) (hq : (n : Rat) = q * (d : Rat)) : ((a * d + n * u : Int) : Rat) = (S + q) * ((u * d : Int) : Rat) := by
  rw [Rat.intCast_add, Rat.intCast_mul, Rat.intCast_mul, Rat.intCast_mul, h, hq]
  grind
end Hp
namespace Hp
set_option Elab.async false
set_option linter.all false
set_option maxRecDepth 100000
set_option maxHeartbeats 4000000
open PySem PySem.Spec PyProof.Rows L2
section
variable {P : Program} {w : World} {K : PySem.W.Frag} {mg : Str → Option Value} {base : Heap}
theorem kt {a b : String} {r : Bool} (h : kitB a b = some r) : PySem.W.kitOne K (.type a) (.type b) = some r := h
theorem itt {b : Bool} {A B : Prop} (e : b = true) (h : A) : if b = true then A else B := by rw [if_pos e]; exact h
theorem itf {b : Bool} {A B : Prop} (e : b = false) (h : B) : if b = true then A else B := by rw [if_neg (by rw [e]; decide)]; exact h
theorem dt {p : Prop} [Decidable p] (h : p) : decide p = true := decide_eq_true h
theorem df {p : Prop} [Decidable p] (h : ¬ p) : decide p = false := decide_eq_false h
def sp_is_integer  : Sp :=  fun vs H Q _ => (∃ i, vs = [.int i] ∧ Q (.bl true) H) ∨ (∃ p xs, vs = [.ref p] ∧ H p = some (.tup xs) ∧ Q (.bl false) H)
theorem sc_is_integer : FnScope ["value"] ["value"] (defScope s_is_integer) := ⟨rfl, rfl, rfl, by decide +kernel, rfl, by decide +kernel, by decide +kernel⟩
theorem c_is_integer (T : Wd K mg base) : Cal P w K mg base 1 "is_integer" sp_is_integer [] := by
  obtain ⟨fd, F⟩ := T.d_is_integer
  refine mkCal (k := 1 - 1) F T.g_is_integer sc_is_integer (F.bindsN fun _ _ _ _ _ _ us hl => match us, hl with | [_], _ => rfl) (fun vs H Q E h => ?_) (fun cdv A outer s H vs Q E hr h => ?_)
  · rcases h with ⟨i, rfl, k⟩ | ⟨p, xs, rfl, hp, k⟩ <;> rfl
  · refine ⟨_, (pss_one (ps_ret (pe_and (pe_callB call_isi (by rfl) T.f_isinstance (by decide +kernel) (pa_cons (pv 0) (pa_cons (pe_bltn (v := .ty "int") (by rfl) T.f_int (by decide +kernel) rfl) pa_nil))) (pe_one (pe_not (pe_callB call_isi (by rfl) T.f_isinstance (by decide +kernel) (pa_cons (pv 0) (pa_cons (pe_bltn (v := .ty "bool") (by rfl) T.f_bool (by decide +kernel) rfl) pa_nil)))))))), ?_⟩
    rcases h with ⟨i, rfl, k⟩ | ⟨p, xs, rfl, hp, k⟩
    · refine ⟨_, rfl, _, _, _, _, true, rfl, .ty "int", .base (.int i), kt (by decide +kernel), _, rfl, iteT ?_⟩
      refine ⟨_, rfl, _, _, _, _, false, rfl, .ty "bool", .base (.int i), kt (by decide +kernel), _, rfl, ?_⟩
      exact k
    · refine ⟨_, rfl, _, _, _, _, false, rfl, .ty "int", .base (.tup hp), kt (by decide +kernel), _, rfl, iteF ?_⟩
      exact k
def sp_is_list  : Sp :=  fun vs H Q _ => (∃ i, vs = [.int i] ∧ ∀ H', Same H H' → Q (.bl false) H') ∨ (∃ p xs, vs = [.ref p] ∧ (H p = some (.tup xs) ∨ H p = some (.lst xs)) ∧ ∀ H', Same H H' → Q (.bl true) H')
theorem sc_is_list : FnScope ["value"] ["value"] (defScope s_is_list) := ⟨rfl, rfl, rfl, by decide +kernel, rfl, by decide +kernel, by decide +kernel⟩
theorem c_is_list (T : Wd K mg base) : Cal P w K mg base 1 "is_list" sp_is_list [] := by
  obtain ⟨fd, F⟩ := T.d_is_list
  refine mkCal (k := 1 - 1) F T.g_is_list sc_is_list (F.bindsN fun _ _ _ _ _ _ us hl => match us, hl with | [_], _ => rfl) (fun vs H Q E h => ?_) (fun cdv A outer s H vs Q E hr h => ?_)
  · rcases h with ⟨i, rfl, k⟩ | ⟨p, xs, rfl, hp, k⟩ <;> rfl
  · refine ⟨_, (pss_one (ps_ret (pe_callB call_isiT (by rfl) T.f_isinstance (by decide +kernel) (pa_cons (pv 0) (pa_cons (pe_tup (pa_cons (pe_bltn (v := .ty "list") (by rfl) T.f_list (by decide +kernel) rfl) (pa_cons (pe_bltn (v := .ty "tuple") (by rfl) T.f_tuple (by decide +kernel) rfl) pa_nil))) pa_nil))))), ?_⟩
    rcases h with ⟨i, rfl, k⟩ | ⟨p, xs, rfl, hp, k⟩
    · refine ⟨_, rfl, (by show 2 ≤ sizeLine; decide), fun t nt => ?_⟩
      refine ⟨_, t, _, _, _, false, rfl, upd_same, .cons (.ty _) (.cons (.ty _) .nil), .base (.int i), ?_, k _ (Same.of_new nt)⟩
      exact kitAny_cons (kt (a := "int") (b := "list") (r := false) (by decide +kernel)) (fun _ => kitAny_cons (kt (a := "int") (b := "tuple") (r := false) (by decide +kernel)) (fun _ => kitAny_nil) (fun z => nomatch z)) (fun z => nomatch z)
    · refine ⟨_, rfl, (by show 2 ≤ sizeLine; decide), fun t nt => ?_⟩
      rcases hp with hp | hp
      · refine ⟨_, t, _, _, _, true, rfl, upd_same, .cons (.ty _) (.cons (.ty _) .nil), .base (.tup (Same.of_new nt _ _ hp)), ?_, k _ (Same.of_new nt)⟩
        exact kitAny_cons (kt (a := "tuple") (b := "list") (r := false) (by decide +kernel)) (fun _ => kitAny_cons (kt (a := "tuple") (b := "tuple") (r := true) (by decide +kernel)) (fun z => nomatch z) (fun _ => rfl)) (fun z => nomatch z)
      · refine ⟨_, t, _, _, _, true, rfl, upd_same, .cons (.ty _) (.cons (.ty _) .nil), .base (.lst (Same.of_new nt _ _ hp)), ?_, k _ (Same.of_new nt)⟩
        exact kitAny_cons (kt (a := "list") (b := "list") (r := true) (by decide +kernel)) (fun z => nomatch z) (fun _ => rfl)
/-- an int or None -/
def oV : Option Int → V
  | none => .non
  | some n => .int n
def inR (i : Int) (lo hi : Option Int) : Bool := (match lo with | none => true | some n => decide (n ≤ i)) && (match hi with | none => true | some n => decide (i ≤ n))
def sp_is_within  : Sp :=  fun vs H Q _ => ∃ (i : Int) (lo hi : Option Int), vs = [.int i, oV lo, oV hi] ∧ Q (.bl (inR i lo hi)) H
theorem sc_is_within : FnScope ["value", "least", "most"] ["value", "least", "most"] (defScope s_is_within) := ⟨rfl, rfl, rfl, by decide +kernel, rfl, by decide +kernel, by decide +kernel⟩
theorem c_is_within (T : Wd K mg base) : Cal P w K mg base 2 "is_within" sp_is_within [] := by
  obtain ⟨fd, F⟩ := T.d_is_within
  refine mkCal (k := 2 - 1) F T.g_is_within sc_is_within (F.bindsN fun _ _ _ _ _ _ us hl => match us, hl with | [_, _, _], _ => rfl) (fun vs H Q E h => ?_) (fun cdv A outer s H vs Q E hr h => ?_)
  · rcases h with ⟨i, lo, hi, rfl, k⟩ <;> rfl
  · rcases h with ⟨i, lo, hi, rfl, k⟩
    refine ⟨_, (pss_cons (ps_if (pt_not (pt_val (pe_c (c_is_integer T) hr (by decide) rfl (pa_cons (pv 0) pa_nil)))) (pss_one (ps_ret pe_bl)) pss_nil)
  (pss_one (ps_ret (pe_and (pe_or (pe_cmpR op_isN (pv 1) pe_non (nomark _)) (pe_one (pe_cmpR op_le (pv 1) (pv 0) (nomark _)))) (pe_one (pe_or (pe_cmpR op_isN (pv 2) pe_non (nomark _)) (pe_one (pe_cmpR op_le (pv 0) (pv 2) (nomark _))))))))), ?_⟩
    refine ⟨_, rfl, .inl ⟨i, rfl, _, rfl, iteF ?_⟩⟩
    have fin : ∀ b : Bool, b = inR i lo hi → Q (.bl b) H := fun b e => by rw [e]; exact k
    cases lo with
    | none =>
      refine ⟨_, rfl, rfl, _, rfl, iteT ⟨_, rfl, iteT ?_⟩⟩
      cases hi with
      | none => exact ⟨_, rfl, rfl, _, rfl, iteT (fin _ rfl)⟩
      | some n => exact ⟨_, rfl, rfl, _, rfl, iteF ⟨_, rfl, _, rfl, _, _, rfl, rfl, fin _ (by simp [inR])⟩⟩
    | some m =>
      refine ⟨_, rfl, rfl, _, rfl, iteF ⟨_, rfl, _, rfl, _, _, rfl, rfl, _, rfl, ?_⟩⟩
      by_cases hm : m ≤ i
      · refine itt (dt hm) ?_
        cases hi with
        | none => exact ⟨_, rfl, rfl, _, rfl, iteT (fin _ (by simp [inR, hm]))⟩
        | some n => exact ⟨_, rfl, rfl, _, rfl, iteF ⟨_, rfl, _, rfl, _, _, rfl, rfl, fin _ (by simp [inR, hm])⟩⟩
      · refine itf (df hm) (fin _ (by simp [inR, hm]))
def sp_common  : Sp :=  fun vs H Q _ => ∃ a b : Int, vs = [.int a, .int b] ∧ Q (.int (Int.gcd a b : Int)) H
theorem sc_common : FnScope ["one", "other"] ["one", "other"] (defScope s_common) := ⟨rfl, rfl, rfl, by decide +kernel, rfl, by decide +kernel, by decide +kernel⟩
theorem c_common (T : Wd K mg base) : Cal P w K mg base 1 "common" sp_common [] := by
  obtain ⟨fd, F⟩ := T.d_common
  refine mkCal (k := 1 - 1) F T.g_common sc_common (F.bindsN fun _ _ _ _ _ _ us hl => match us, hl with | [_, _], _ => rfl) (fun vs H Q E h => ?_) (fun cdv A outer s H vs Q E hr h => ?_)
  · rcases h with ⟨a, b, rfl, k⟩ <;> rfl
  · rcases h with ⟨a, b, rfl, k⟩
    refine ⟨_, (pss_cons (ps_par (i := 0) (j := 1) rfl sc_common.nd rfl rfl (by decide) rfl rfl (pa_cons (pe_callB call_abs (by rfl) T.f_abs (by decide +kernel) (pa_cons (pv 0) pa_nil)) (pa_cons (pe_callB call_abs (by rfl) T.f_abs (by decide +kernel) (pa_cons (pv 1) pa_nil)) pa_nil)) (by rfl))
  (pss_cons (ps_while PassesOwn.never (pt_cmpR op_gt (pv 1) pe_int (nomark _)) (pss_one (ps_par (i := 0) (j := 1) rfl sc_common.nd rfl rfl (by decide) rfl rfl (pa_cons (pv 1) (pa_cons (pe_op op_modN (pv 0) (pv 1)) pa_nil)) (by rfl))))
  (pss_one (ps_ret (pv 0))))), ?_⟩
    refine ⟨_, rfl, _, rfl, _, rfl, _, rfl, _, _, rfl, ?_⟩
    refine while_by (Pv := fun σ H1 => ∃ x y : Int, σ = [some (.int x), some (.int y)] ∧ H1 = H ∧ 0 ≤ x ∧ 0 ≤ y ∧ Int.gcd x y = Int.gcd a b) (fun σ _ => match σ with | [_, some (.int y)] => y.toNat | _ => 0)
      ⟨if a < 0 then -a else a, if b < 0 then -b else b, rfl, rfl, by split <;> omega, by split <;> omega, ?_⟩ ?_ ?_
    · rw [show (if a < 0 then -a else a) = (a.natAbs : Int) by split <;> omega, show (if b < 0 then -b else b) = (b.natAbs : Int) by split <;> omega]
      simp [Int.gcd]
    · rintro σ H1 ⟨x, y, rfl, rfl, hx, hy, e⟩
      refine ⟨_, rfl, _, _, rfl, rfl, _, rfl, ?_⟩
      by_cases hy0 : 0 < y
      · refine itt (dt hy0) ?_
        refine ⟨_, rfl, _, rfl, _, rfl, _, _, rfl, rfl, by omega, _, _, rfl, ?_⟩
        refine ⟨⟨y, x.fmod y, rfl, rfl, hy, ?_, ?_⟩, ?_⟩
        · rw [Int.fmod_eq_emod_of_nonneg _ hy]; exact Int.emod_nonneg _ (by omega)
        · rw [Int.fmod_eq_emod_of_nonneg _ hy, ← e]
          obtain ⟨m, rfl⟩ := Int.eq_ofNat_of_zero_le hx
          obtain ⟨n, rfl⟩ := Int.eq_ofNat_of_zero_le hy
          show Nat.gcd _ _ = Nat.gcd _ _
          rw [← Int.natCast_emod]
          simp only [Int.natAbs_natCast]
          rw [Nat.gcd_comm m n, Nat.gcd_comm n (m % n)]
          exact (Nat.gcd_rec n m).symm
        · show (x.fmod y).toNat < y.toNat
          rw [Int.fmod_eq_emod_of_nonneg _ hy]
          have := Int.emod_lt_of_pos x hy0
          omega
      · refine itf (df hy0) ?_
        refine ⟨_, rfl, ?_⟩
        have y0 : y = 0 := by omega
        subst y0
        have e1 : (Int.gcd a b : Int) = x := by rw [← e, Int.gcd_zero_right]; omega
        rw [← e1]
        exact k
    · rintro σ H1 Q1 Q2 f ⟨v, e, i, j, e1, e2, b, e3, q⟩
      exact ⟨v, e, i, j, e1, e2, b, e3, f _ _ q⟩
end
end Hp
namespace Hp
set_option Elab.async false
set_option linter.all false
set_option maxRecDepth 100000
set_option maxHeartbeats 4000000
open PySem PySem.Spec PyProof.Rows L2
/-! ### a list (true) or a tuple (false) -/
def SqB (K : PySem.W.Frag) : Bool → Hp → Addr → List V → Prop
  | true => SqL K
  | false => SqT K
def sqO : Bool → List V → HO
  | true => .lst
  | false => .tup
theorem SqB.of {K : PySem.W.Frag} {b : Bool} {H : Hp} {a : Addr} {xs : List V} (h : H a = some (sqO b xs)) : SqB K b H a xs := by
  cases b
  · exact SqT.of h
  · exact SqL.of h
def HIsSq : Bool → Heap → Addr → Array Value → Prop
  | true => fun h l its => h.IsList l its
  | false => fun h l its => h.IsTuple l its
def HIsIt : Bool → Heap → Addr → Addr → Nat → Prop
  | true => fun h it l i => h.IsListIter it l i
  | false => fun h it l i => h.IsTupleIter it l i
def itO : Bool → Addr → Obj
  | true => fun l => { cls := .type "list_iterator", data := .fields #[.ref l, .int 0 0] }
  | false => fun l => { cls := .type "tuple_iterator", data := .fields #[.ref l, .int 0 0] }
section
variable {X : Cx} {pins : List (Addr × Obj)} {σ : L2.St} {H : Hp} {s : Shared} {a : Addr} {xs ys : List V} {b : Bool}
theorem inv_sq (I : Inv X pins σ H s) (h : SqB X.K b H a xs) : ∃ its : List Value, Vals xs its ∧ HIsSq b s.heap a its.toArray ∧ xs.length ≤ sizeLine ∧ a < s.heap.objs.size := by
  cases b
  · obtain ⟨its, r, p, z⟩ := I.tuple h
    exact ⟨its, r, p, z, p.lt⟩
  · obtain ⟨its, r, p, z⟩ := I.list h
    exact ⟨its, r, p.isList, z, p.lt⟩
theorem inv_sq_inj (I : Inv X pins σ H s) (h : SqB X.K b H a xs) (h' : SqB X.K b H a ys) : xs = ys := by
  cases b
  · exact I.tuple_inj h h'
  · exact I.list_inj h h'
theorem draws_sq {prog : Program} {w : World} {A : Around} (hh : A.handled = none) (b : Bool) (it l : Addr) (hne : l ≠ it) (items : Array Value) :
    Draws prog w A it [it, l] items.size (fun i v => items[i]? = some v) (fun i h => HIsIt b h it l i ∧ HIsSq b h l items) := by
  cases b
  · exact Draws.tuple hh it l hne items
  · exact Draws.list hh it l hne items
theorem begins_sq (b : Bool) (l : Addr) (items : Array Value) : Begins (.ref l) (itO b l) fun h => HIsSq b h l items := by
  cases b
  · exact begins_tuple l items
  · exact begins_list l items
theorem hisIt_obj {b : Bool} {h : Heap} {it l : Addr} {i : Nat} (st : HIsIt b h it l i) : ∃ o, h.get? it = some o ∧ ∀ v, o.data ≠ .cell v := by
  cases b
  · obtain ⟨o, e, c, d⟩ := st
    exact ⟨o, e, fun v z => by rw [d] at z; cases z⟩
  · obtain ⟨o, e, c, d⟩ := st
    exact ⟨o, e, fun v z => by rw [d] at z; cases z⟩
theorem hisIt_at {b : Bool} {h h' : Heap} {it l : Addr} {i : Nat} (st : HIsIt b h it l i) (k : ∀ o, h.get? it = some o → h'.get? it = some o) : HIsIt b h' it l i := by
  cases b
  · exact Heap.IsTupleIter.at st fun o e => k o e
  · exact Heap.IsListIter.at st fun o e => k o e
theorem hisIt_new {b : Bool} {h : Heap} {it l : Addr} (e : h.get? it = some (itO b l)) : HIsIt b h it l 0 := by
  cases b
  · exact ⟨_, e, rfl, rfl⟩
  · exact ⟨_, e, rfl, rfl⟩
end
/-! ### enumerate -/
def IteB (K : PySem.W.Frag) (b : Bool) (a : Addr) : It :=
  ⟨fun i H => ∃ (xs : List V) (x : V), SqB K b H a xs ∧ xs[i]? = some x, fun i H v H' => ∃ T x, v = .ref T ∧ H T = none ∧ H' = upd H T (.tup [.int (i : Nat), x]) ∧ ∀ xs, SqB K b H a xs → xs[i]? = some x, fun i H => ∃ xs : List V, SqB K b H a xs ∧ xs.length = i⟩
theorem turn_enumB {P : Program} {w : World} {K : PySem.W.Frag} {elts : List Expr} {kk : Nat} {tpos : Pos} (b : Bool) (a e it : Addr) (hae : a ≠ e) (hai : a ≠ it) :
    Turn P w K (.Tuple elts kk tpos) (IteB K b a) [e, it] e (fun i h => (∃ old, IsEnum h e it ((i : Nat) : Int) old) ∧ HIsIt b h it a i ∧ e ≠ it) where
  mem := by simp
  obj := fun i h st c hc => by
    obtain ⟨⟨old, he⟩, hit, _⟩ := st
    have e' : c = e ∨ c = it := by simpa using hc
    rcases e' with z | z
    · rw [z]; exact ⟨_, he, fun v q => nomatch q⟩
    · rw [z]; exact hisIt_obj hit
  keep := fun i h h' st k => let ⟨⟨old, he⟩, hi, hne⟩ := st; ⟨⟨old, k e (by simp) _ he⟩, hisIt_at hi fun o q => k it (by simp) o q, hne⟩
  item := by
    intro X hP hw hK hc i pins s σ H E I hf st hg
    subst hP hw hK
    obtain ⟨⟨old, he⟩, hit, hne⟩ := st
    obtain ⟨xs, x, hq, hx⟩ := hg
    obtain ⟨its, rv, p, hz, ha⟩ := inv_sq I hq
    obtain ⟨u, hu, ru⟩ := rv.get hx
    have hel : e < s.heap.objs.size := Heap.lt_size he
    have hil : it < s.heap.objs.size := by obtain ⟨_, q, _⟩ := hisIt_obj hit; exact Heap.lt_size q
    have hh : X.A.in1.handled = none := I.ok.hd hc
    have hi : i < its.toArray.size := by
      have := (List.getElem?_eq_some_iff.mp hu).1
      simpa using this
    refine wpAny_pyNext_enum_itemD (draws_sq hh b it a hai its.toArray) he ⟨hit, p⟩ hi hne (by simp; exact ⟨hne, fun q => hae q.symm⟩) fun u' h' tk hu' ho st' hT hsz hk => ?_
    have eu : u' = u := by
      rw [show its.toArray[i]? = its[i]? by simp] at hu'
      rw [hu] at hu'; exact (Option.some.inj hu').symm
    subst eu
    refine ⟨_, rfl, wpAny_letOwnedTupleGo_enum (s := { s with heap := h', toks := tk + 1 }) ho fun h'' he' sb => ?_⟩
    have hT2 : h''.get? s.heap.objs.size = some { cls := .type "tuple", data := .seq #[.int i tk, u'] } := (sb.2 _ (Nat.ne_of_gt hel)).trans hT
    have new : ObjOk X.prog X.w (upd H s.heap.objs.size (.tup [.int (i : Nat), x])) h'' s.heap.objs.size (.tup [.int (i : Nat), x]) :=
      ⟨by show 2 ≤ sizeLine; decide, [.int i tk, u'], .cons ⟨_, rfl⟩ (.cons ru .nil), ⟨_, hT2, rfl, _, rfl⟩⟩
    have I1 : Inv X pins σ (upd H s.heap.objs.size (.tup [.int (i : Nat), x])) { s with heap := h'', toks := tk + 1 } :=
      I.turnedNew (t' := tk + 1) (ch := [e, it]) (fun c o hb q => (sb.2 c (fun q' => hb (by simp [q']))).trans (hk c o (fun q' => hb (by simp [q'])) (fun q' => hb (by simp [q'])) q)) hf (Nat.le_refl _) new
    have he2 : IsEnum h'' e it ((i + 1 : Nat) : Int) u' := by
      have e1 : ((i + 1 : Nat) : Int) = (i : Int) + 1 := by omega
      rw [e1]; exact he'
    refine ⟨.ref s.heap.objs.size, _, I1, rfl, ⟨_, x, rfl, I.hok.fresh (Nat.le_refl _), rfl, fun l hl => by rw [inv_sq_inj I hl hq]; exact hx⟩, ⟨⟨_, he2⟩, ?_, hne⟩, fun c hcm => ?_⟩
    · exact hisIt_at st'.1 fun o q => (sb.2 _ (Ne.symm hne)).trans q
    · have hb' : c < s.heap.objs.size := by
        have e' : c = e ∨ c = it := by simpa using hcm
        rcases e' with z | z
        · rw [z]; exact hel
        · rw [z]; exact hil
      rw [upd_ne (Nat.ne_of_lt hb')]
      exact (hf c hcm).1
  done := by
    intro X hP hw hK hc i pins s σ H E I hf st hg
    subst hP hw hK
    obtain ⟨⟨old, he⟩, hit, hne⟩ := st
    obtain ⟨xs, hq, hx⟩ := hg
    obtain ⟨its, rv, p, hz, ha⟩ := inv_sq I hq
    obtain ⟨f0, f1, f2, f3, f4, f5⟩ := hf it (by simp)
    have hh : X.A.in1.handled = none := I.ok.hd hc
    have hl := rv.length
    have hi : i = its.toArray.size := by simp; omega
    subst hi
    exact wpAny_pyNext_enum_endD (draws_sq hh b it a hai its.toArray) he ⟨hit, p⟩ fun h' eb => ⟨rfl, I.turned (t' := s.toks) (fun c o hb q => eb c o hb q) f0 f1 f3 f4 f5⟩
  self := fun A i s Q E st h => let ⟨⟨_, he⟩, _⟩ := st; wpAny_pyIter_enum he h
theorem meets_enumerate_newC {v : Value} {o : Obj} {H : Heap → Prop} (B : Begins v o H) :
    Meets (Builtin.«enumerate.__new__» ⟨[.type "enumerate", v], []⟩) (fun _ R s => H s.heap ∧
      R (.ok (.ret (.ref (s.heap.push o).objs.size))) { s with heap := (s.heap.push o).push { cls := .type "enumerate", data := .fields #[.none, .bool false, .ref s.heap.objs.size, rawInt 0, .none, .none] } }) :=
  .of_wp fun prog w A R s h => by
    obtain ⟨hp, g, d, tk, os⟩ := s; obtain ⟨h1, h⟩ := h
    have hsub := sub_enumerate
    have q1 : ∀ {A' : Around} {E : Value → Shared → Prop} {Q : Value → Shared → Prop}, Q (.ref hp.objs.size) ⟨hp.push o, g, d, tk, os⟩ → wpAny (model prog w) A' (pyIter v) Q E ⟨hp, g, d, tk, os⟩ :=
      fun q => B.iter prog w _ _ ⟨hp, g, d, tk, os⟩ _ h1 q
    wp_walk using q1
    refine wpAny_stack_any fun st => wpAny_pure ?_
    split
    · rename_i c _ _ _ _ _
      cases (c == Value.type "enumerate")
      · wp_walk using q1
        exact ⟨_, rfl, h⟩
      · wp_walk using q1
        exact ⟨_, rfl, h⟩
    · wp_walk using q1
      exact ⟨_, rfl, h⟩
theorem enum_begins1 {prog : Program} {w : World} {A : Around} {E : Value → Shared → Prop} {s : Shared} {v : Value} {o : Obj} {H : Heap → Prop} {Q : Value → Shared → Prop} (B : Begins v o H) (h1 : H s.heap)
    (h : ∀ h', IsEnum h' (s.heap.objs.size + 1) s.heap.objs.size 0 .none → h'.get? s.heap.objs.size = some o → h'.objs.size = s.heap.objs.size + 2 →
      (∀ b o, s.heap.get? b = some o → h'.get? b = some o) → Q (.ref (s.heap.objs.size + 1)) { s with heap := h' }) :
    wpAny (model prog w) A (call (.type "enumerate") [v]) Q E s := by
  refine callType_new F.called_enumerate (by decide) (F.typeCall_enumerate_1 _) (F.newCall_enumerate_1 _) (fun obj => F.args_object_init_2 obj _) F.entry_enumerate_new
    (meets_enumerate_newC B) ⟨h1, ?_⟩
  have hz : (s.heap.push o).objs.size = s.heap.objs.size + 1 := Heap.size_push ..
  show _ ∧ _
  rw [hz]
  have he : IsEnum ((s.heap.push o).push { cls := .type "enumerate", data := .fields #[.none, .bool false, .ref s.heap.objs.size, rawInt 0, .none, .none] }) (s.heap.objs.size + 1) s.heap.objs.size 0 .none := by
    have := Heap.get?_push_size (s.heap.push o) (o := { cls := .type "enumerate", data := .fields #[.none, .bool false, .ref s.heap.objs.size, rawInt 0, .none, .none] }) rfl
    rw [hz] at this; exact this
  refine ⟨⟨_, he, rfl⟩, h _ he (Heap.get?_push_of_some _ (Heap.get?_push_size _ B.free)) (by rw [Heap.size_push, hz]) fun b o x => Heap.get?_push_of_some _ (Heap.get?_push_of_some _ x)⟩
def iEnumB (K : PySem.W.Frag) (ta : TA) : TI := fun σ H R => ta σ H fun vs H1 => ∃ b a xs, vs = [.ref a] ∧ SqB K b H1 a xs ∧ R (IteB K b a) H1
theorem pi_enumS {X : Cx} {e : Expr} {ta : TA} {p pos tpos : Pos} {elts : List Expr} {kk : Nat} (hg : Gl X "enumerate") (hm : X.mg "enumerate" = none) (ha : PA X [e] ta) (hs : starEach [e] X.env = [(false, eval e X.env)] := by rfl) :
    PI X (.Tuple elts kk tpos) (.Call (.Name "enumerate" p) [e] [] pos) (iEnumB X.K ta) := by
  refine ⟨fun pins s σ H R I h => ?_⟩
  refine Call_ (ld_blt I hg hm boot_enumerate (PyProof.Rows.callWith_type1 (thn (ha.run pos pins s σ H _ I h) fun us s1 ⟨vs, H1, I1, r1, q1⟩ => ?_) hs rfl))
  obtain ⟨b, a, xs, ex, hq, q⟩ := q1
  subst ex
  cases r1 with
  | cons r rr =>
    cases rr
    cases r
    obtain ⟨its, rv, p', hz, hal⟩ := inv_sq I1 hq
    refine enum_begins1 (begins_sq b a its.toArray) p' fun h' he hit hsz hk => wpAny_pyIter_enum he ?_
    have I2 : Inv X pins σ H1 { s1 with heap := h' } := I1.kept (t' := s1.toks) hk
    refine ⟨s1.heap.objs.size + 1, [s1.heap.objs.size + 1, s1.heap.objs.size], _, _, H1, rfl, I2, turn_enumB b a (s1.heap.objs.size + 1) s1.heap.objs.size (Nat.ne_of_lt (Nat.lt_succ_of_lt hal)) (Nat.ne_of_lt hal), ⟨⟨.none, he⟩, hisIt_new hit, Nat.succ_ne_self _⟩, fun c hc => ?_, q⟩
    have e' : c = s1.heap.objs.size + 1 ∨ c = s1.heap.objs.size := by simpa using hc
    have hle : s1.heap.objs.size ≤ c := by
      rcases e' with z | z
      · rw [z]; exact Nat.le_add_right _ _
      · rw [z]; exact Nat.le_refl _
    exact I1.fpOk hle (I1.hok.fresh hle)
theorem walk_enumB {K : PySem.W.Frag} {b : Bool} {a : Addr} {xs : List V} : Walk (IteB K b a) xs.length (fun H => SqB K b H a xs) (YPair (fun i => some (.int (i : Nat))) (fun i => xs[i]?)) := by
  refine ⟨fun i _ hi q => ⟨xs, xs[i], q, by simp [hi]⟩, fun _ q => ⟨xs, q, rfl⟩, fun i H v H' _ q y => ?_⟩
  obtain ⟨T, x, h1, h2, h3, h4⟩ := y
  exact ⟨T, .int (i : Nat), x, h1, h2, h3, rfl, h4 xs q⟩
/-! ### zip of two -/
def ItzB (K : PySem.W.Frag) (b c : Bool) (a d : Addr) : It :=
  ⟨fun i H => ∃ (xs ys : List V) (x y : V), SqB K b H a xs ∧ SqB K c H d ys ∧ xs[i]? = some x ∧ ys[i]? = some y,
    fun i H v H' => ∃ T x y, v = .ref T ∧ H T = none ∧ H' = upd H T (.tup [x, y]) ∧ (∀ xs, SqB K b H a xs → xs[i]? = some x) ∧ ∀ ys, SqB K c H d ys → ys[i]? = some y,
    fun i H => ∃ xs ys : List V, SqB K b H a xs ∧ SqB K c H d ys ∧ i = min xs.length ys.length⟩
theorem turn_zipB {P : Program} {w : World} {K : PySem.W.Frag} {elts : List Expr} {kk : Nat} {tpos : Pos} {b c : Bool} {a d z TI TO i1 i2 : Addr} (D : ZipSep2 z TI TO i1 i2 [i1, a] [i2, d]) (h1a : a ≠ i1) (h2d : d ≠ i2) :
    Turn P w K (.Tuple elts kk tpos) (ItzB K b c a d) [z, TI, TO, i1, i2] z (fun i h => IsZip h z TI TO .none ∧ IsTupOf2 h TI (.ref i1) (.ref i2) ∧ (∃ x y, IsTupOf2 h TO x y) ∧ HIsIt b h i1 a i ∧ HIsIt c h i2 d i) where
  mem := by simp
  obj := fun i h st e hc => by
    obtain ⟨hz, hTI, ⟨x, y, hTO⟩, h1, h2⟩ := st
    have e' : e = z ∨ e = TI ∨ e = TO ∨ e = i1 ∨ e = i2 := by simpa using hc
    rcases e' with q | q | q | q | q
    · rw [q]; exact ⟨_, hz, fun v q => nomatch q⟩
    · rw [q]; exact ⟨_, hTI, fun v q => nomatch q⟩
    · rw [q]; exact ⟨_, hTO, fun v q => nomatch q⟩
    · rw [q]; exact hisIt_obj h1
    · rw [q]; exact hisIt_obj h2
  keep := fun i h h' st k => by
    obtain ⟨hz, hTI, ⟨x, y, hTO⟩, h1, h2⟩ := st
    exact ⟨k z (by simp) _ hz, k TI (by simp) _ hTI, ⟨x, y, k TO (by simp) _ hTO⟩, hisIt_at h1 fun o q => k i1 (by simp) o q, hisIt_at h2 fun o q => k i2 (by simp) o q⟩
  item := by
    intro X hP hw hK hc i pins s σ H E I hf st hg
    subst hP hw hK
    obtain ⟨hz, hTI, ⟨x0, y0, hTO⟩, h1, h2⟩ := st
    obtain ⟨xs, ys, x, y, hqx, hqy, hx, hy⟩ := hg
    obtain ⟨its, rv, p, _, _⟩ := inv_sq I hqx
    obtain ⟨its2, rv2, p2, _, _⟩ := inv_sq I hqy
    obtain ⟨u, hu, ru⟩ := rv.get hx
    obtain ⟨u2, hu2, ru2⟩ := rv2.get hy
    have hzl : z < s.heap.objs.size := Heap.lt_size hz
    have hh : X.A.in1.handled = none := I.ok.hd hc
    have hi : i < its.toArray.size := by
      have := (List.getElem?_eq_some_iff.mp hu).1
      simpa using this
    have hi2 : i < its2.toArray.size := by
      have := (List.getElem?_eq_some_iff.mp hu2).1
      simpa using this
    refine wpAny_pyNext_zipD2_item D (draws_sq hh b i1 a h1a its.toArray) (draws_sq hh c i2 d h2d its2.toArray) hz hTI hTO ⟨h1, p⟩ ⟨h2, p2⟩ hi hi2 fun v1 v2 h' tk hv1 hv2 z' TO' st1 st2 hT hsz hk => ?_
    have e1 : v1 = u := by
      rw [show its.toArray[i]? = its[i]? by simp] at hv1
      rw [hu] at hv1; exact (Option.some.inj hv1).symm
    have e2 : v2 = u2 := by
      rw [show its2.toArray[i]? = its2[i]? by simp] at hv2
      rw [hu2] at hv2; exact (Option.some.inj hv2).symm
    subst e1 e2
    refine ⟨_, rfl, wpAny_letOwnedTupleGo_zip (s := { s with heap := h', toks := tk }) z' fun h'' z'' sb => ?_⟩
    have hT2 : h''.get? s.heap.objs.size = some { cls := .type "tuple", data := .seq #[v1, v2] } := (sb.2 _ (Nat.ne_of_gt hzl)).trans hT
    have new : ObjOk X.prog X.w (upd H s.heap.objs.size (.tup [x, y])) h'' s.heap.objs.size (.tup [x, y]) :=
      ⟨by show 2 ≤ sizeLine; decide, [v1, v2], .cons ru (.cons ru2 .nil), ⟨_, hT2, rfl, _, rfl⟩⟩
    have I1 : Inv X pins σ (upd H s.heap.objs.size (.tup [x, y])) { s with heap := h'', toks := tk } :=
      I.turnedNew (t' := tk) (ch := [z, TI, TO, i1, i2]) (fun e o hb q => (sb.2 e (fun q' => hb (by simp [q']))).trans (hk e o (fun q' => hb (by simp [q'])) (fun q' => hb (by simp [q'])) (fun q' => hb (by simp [q'])) (fun q' => hb (by simp [q'])) q)) hf (Nat.le_refl _) new
    refine ⟨.ref s.heap.objs.size, _, I1, rfl, ⟨_, x, y, rfl, I.hok.fresh (Nat.le_refl _), rfl, fun l hl => by rw [inv_sq_inj I hl hqx]; exact hx, fun l hl => by rw [inv_sq_inj I hl hqy]; exact hy⟩, ⟨z'', ?_, ⟨v1, v2, ?_⟩, ?_, ?_⟩, fun e hcm => ?_⟩
    · exact (sb.2 _ D.TIz).trans (hk _ _ D.TIz D.TITO D.TIi1 D.TIi2 hTI)
    · exact (sb.2 _ D.TOz).trans TO'
    · exact hisIt_at st1.1 fun o q => (sb.2 _ (Ne.symm D.zi1)).trans q
    · exact hisIt_at st2.1 fun o q => (sb.2 _ (Ne.symm D.zi2)).trans q
    · have hlt : e < s.heap.objs.size := by
        have e' : e = z ∨ e = TI ∨ e = TO ∨ e = i1 ∨ e = i2 := by simpa using hcm
        rcases e' with q | q | q | q | q
        · rw [q]; exact hzl
        · rw [q]; exact Heap.lt_size hTI
        · rw [q]; exact Heap.lt_size hTO
        · rw [q]; obtain ⟨_, e1, _⟩ := hisIt_obj h1; exact Heap.lt_size e1
        · rw [q]; obtain ⟨_, e2, _⟩ := hisIt_obj h2; exact Heap.lt_size e2
      rw [upd_ne (Nat.ne_of_lt hlt)]
      exact (hf e hcm).1
  done := by
    intro X hP hw hK hc i pins s σ H E I hf st hg
    subst hP hw hK
    obtain ⟨hz, hTI, ⟨x0, y0, hTO⟩, h1, h2⟩ := st
    obtain ⟨xs, ys, hqx, hqy, hend⟩ := hg
    obtain ⟨its, rv, p, _, _⟩ := inv_sq I hqx
    obtain ⟨its2, rv2, p2, _, _⟩ := inv_sq I hqy
    have l1 := rv.length
    have l2 := rv2.length
    have hh : X.A.in1.handled = none := I.ok.hd hc
    have s1 : its.toArray.size = its.length := by simp
    have s2 : its2.toArray.size = its2.length := by simp
    exact wpAny_pyNext_zipD2_end D (draws_sq hh b i1 a h1a its.toArray) (draws_sq hh c i2 d h2d its2.toArray) hz hTI hTO ⟨h1, p⟩ ⟨h2, p2⟩ (by omega) (by omega) (by omega) fun h' tk hk => ⟨rfl, I.turnedL (t' := tk) (ch := [z, TI, TO, i1, i2]) (fun e o hb q =>
      hk e o (fun q' => hb (by simp [q'])) (fun q' => hb (by simp [q'])) (fun q' => hb (by simp [q'])) (fun q' => hb (by simp [q'])) q) hf⟩
  self := fun A i s Q E st h => wpAny_pyIter_zip st.1 h
def iZipB (K : PySem.W.Frag) (ta : TA) : TI := fun σ H R => ta σ H fun vs H1 => ∃ b c a d xs ys, vs = [.ref a, .ref d] ∧ SqB K b H1 a xs ∧ SqB K c H1 d ys ∧ R (ItzB K b c a d) H1
theorem pi_zipS {X : Cx} {e e2 : Expr} {ta : TA} {p pos tpos : Pos} {elts : List Expr} {kk : Nat} (hg : Gl X "zip") (hm : X.mg "zip" = none) (ha : PA X [e, e2] ta)
    (hs : starEach [e, e2] X.env = (false, eval e X.env) :: starEach [e2] X.env := by rfl) (hpl : (backTo pos (starEach [e2] X.env)).any (·.1) = false := by rfl) :
    PI X (.Tuple elts kk tpos) (.Call (.Name "zip" p) [e, e2] [] pos) (iZipB X.K ta) := by
  refine ⟨fun pins s σ H R I h => ?_⟩
  refine Call_ (ld_blt I hg hm PyProof.Rows.boot_zip (PyProof.Rows.callWith_type1 (thn (ha.run pos pins s σ H _ I h) fun us s1 ⟨vs, H1, I1, r1, q1⟩ => ?_) hs hpl))
  obtain ⟨b, c, a, d, xs, ys, ex, hqx, hqy, q⟩ := q1
  subst ex
  cases r1 with
  | cons r rr =>
    cases rr with
    | cons r' rr =>
      cases rr
      cases r
      cases r'
      obtain ⟨its, rv, p1, _, la⟩ := inv_sq I1 hqx
      obtain ⟨its2, rv2, p2, _, ld⟩ := inv_sq I1 hqy
      refine zip_begins2 (begins_sq b a its.toArray) (begins_sq c d its2.toArray) p1 p2 fun h' hz hTI hTO h1 h2 hsz hk => wpAny_pyIter_zip hz ?_
      have I2 : Inv X pins σ H1 { s1 with heap := h' } := I1.kept (t' := s1.toks) hk
      refine ⟨s1.heap.objs.size + 4, [s1.heap.objs.size + 4, s1.heap.objs.size + 2, s1.heap.objs.size + 3, s1.heap.objs.size, s1.heap.objs.size + 1], _, _, H1, rfl, I2,
        turn_zipB (zip_sep2 (fp1 := [a]) (fp2 := [d]) (fun x hx => by rw [List.mem_singleton.mp hx]; exact la) (fun x hx => by rw [List.mem_singleton.mp hx]; exact ld)) (Nat.ne_of_lt la) (Nat.ne_of_lt (Nat.lt_succ_of_lt ld)), ⟨hz, hTI, ⟨_, _, hTO⟩, hisIt_new h1, hisIt_new h2⟩, fun e hcm => ?_, q⟩
      have e' : e = s1.heap.objs.size + 4 ∨ e = s1.heap.objs.size + 2 ∨ e = s1.heap.objs.size + 3 ∨ e = s1.heap.objs.size ∨ e = s1.heap.objs.size + 1 := by simpa using hcm
      have hle : s1.heap.objs.size ≤ e := by
        rcases e' with z | z | z | z | z
        · rw [z]; exact Nat.le_add_right _ _
        · rw [z]; exact Nat.le_add_right _ _
        · rw [z]; exact Nat.le_add_right _ _
        · rw [z]; exact Nat.le_refl _
        · rw [z]; exact Nat.le_add_right _ _
      exact I1.fpOk hle (I1.hok.fresh hle)
theorem walk_zipB {K : PySem.W.Frag} {b c : Bool} {a d : Addr} {xs ys : List V} : Walk (ItzB K b c a d) (min xs.length ys.length) (fun H => SqB K b H a xs ∧ SqB K c H d ys) (YPair (fun i => xs[i]?) (fun i => ys[i]?)) := by
  refine ⟨fun i _ hi q => ?_, fun _ q => ⟨xs, ys, q.1, q.2, rfl⟩, fun i H v H' _ q y => ?_⟩
  · have h1 : i < xs.length := by omega
    have h2 : i < ys.length := by omega
    exact ⟨xs, ys, xs[i], ys[i], q.1, q.2, by simp [h1], by simp [h2]⟩
  · obtain ⟨T, x, z, h1, h2, h3, h4, h5⟩ := y
    exact ⟨T, x, z, h1, h2, h3, h4 xs q.1, h5 ys q.2⟩
end Hp
namespace Hp
set_option Elab.async false
set_option linter.all false
set_option maxRecDepth 100000
set_option maxHeartbeats 4000000
open PySem PySem.Spec PyProof.Rows L2
abbrev St := L2.St
/-- at v stands a list (b) or a tuple of xs -/
def SqK (b : Bool) (H : Hp) (v : V) (xs : List V) : Prop := ∃ p, v = .ref p ∧ H p = some (sqO b xs)
theorem SqK.same {b : Bool} {H H' : Hp} {v : V} {xs : List V} (h : SqK b H v xs) (e : Same H H') : SqK b H' v xs := let ⟨p, a, c⟩ := h; ⟨p, a, e _ _ c⟩
theorem SqK.tup {H : Hp} {p : Addr} {xs : List V} (h : H p = some (.tup xs)) : SqK false H (.ref p) xs := ⟨p, rfl, h⟩
theorem SqK.lst {H : Hp} {p : Addr} {xs : List V} (h : H p = some (.lst xs)) : SqK true H (.ref p) xs := ⟨p, rfl, h⟩
/-- the term gives v and leaves H1 -/
def Gives (tl : TE) (σ : St) (H : Hp) (v : V) (H1 : Hp) : Prop := ∀ R : VK, R v H1 → tl σ H R
theorem gives_var {σ : St} {H : Hp} {i : Nat} {v : V} (h : σ[i]? = some (some v)) : Gives (tVar i) σ H v H := fun _ r => ⟨v, h, r⟩
section
variable {K : PySem.W.Frag} {tl tl2 : TE} {σ : St} {H H1 H2 : Hp} {v v2 : V} {xs ys : List V} {b c : Bool} {D : Ends}
theorem for_seq {g : TG} {tb : TS} (he : Gives tl σ H v H1) (sq : SqK b H1 v xs) (Pv : Nat → St → Hp → Prop) (h0 : Pv 0 σ H1) (hl : ∀ i σ' H', i ≤ xs.length → Pv i σ' H' → SqK b H' v xs)
    (hs : ∀ i x σ' H', xs[i]? = some x → Pv i σ' H' → g x σ' H' fun σ2 H2 => tb { D with nx := Pv (i + 1), ct := Pv (i + 1), bk := D.nx } σ2 H2) (hd : ∀ σ' H', Pv xs.length σ' H' → D.nx σ' H') : tFor (iSeq K tl) g tb D σ H := by
  obtain ⟨p, rfl, hp⟩ := sq
  have hl' : ∀ i σ' H', i ≤ xs.length → Pv i σ' H' → H' p = some (sqO b xs) := fun i σ' H' hi q => by
    obtain ⟨p', e, h⟩ := hl i σ' H' hi q
    cases e; exact h
  cases b
  · exact .inr (he _ ⟨p, rfl, ⟨xs, SqT.of hp⟩, for_it walk_tup Pv h0 (fun i σ' H' hi q => SqT.of (hl' i σ' H' hi q)) (fun i x σ' H' H'' _ q y => by
      obtain ⟨rfl, hx⟩ := y
      exact hs i x σ' _ hx q) hd⟩)
  · exact .inl (he _ ⟨p, rfl, ⟨xs, SqL.of hp⟩, for_it walk_list Pv h0 (fun i σ' H' hi q => SqL.of (hl' i σ' H' hi q)) (fun i x σ' H' H'' _ q y => by
      obtain ⟨rfl, hx⟩ := y
      exact hs i x σ' _ hx q) hd⟩)
/-- the pair that enumerate, zip give -/
abbrev gPair (K : PySem.W.Frag) (i j : Nat) : TG := gTup K 2 (gCons (gName i) (gCons (gName j) gNil))
theorem gPair_new {i j : Nat} {x y : V} {T : Addr} {Q : St → Hp → Prop} (h : H T = some (.tup [x, y])) (q : Q ((σ.set i (some x)).set j (some y)) H) : gPair K i j (.ref T) σ H Q :=
  ⟨T, [x, y], rfl, SqT.of h, rfl, x, [y], rfl, y, [], rfl, rfl, q⟩
theorem for_enum {i j : Nat} {tb : TS} (he : Gives tl σ H v H1) (sq : SqK b H1 v xs) (Pv : Nat → St → Hp → Prop) (h0 : Pv 0 σ H1) (hl : ∀ k σ' H', k ≤ xs.length → Pv k σ' H' → SqK b H' v xs)
    (hs : ∀ k x σ' H' T, xs[k]? = some x → Pv k σ' H' → H' T = none → tb { D with nx := Pv (k + 1), ct := Pv (k + 1), bk := D.nx } ((σ'.set i (some (.int (k : Nat)))).set j (some x)) (upd H' T (.tup [.int (k : Nat), x])))
    (hd : ∀ σ' H', Pv xs.length σ' H' → D.nx σ' H') : tFor (iEnumB K (tCons tl tNil)) (gPair K i j) tb D σ H := by
  obtain ⟨p, rfl, hp⟩ := sq
  have hl' : ∀ i σ' H', i ≤ xs.length → Pv i σ' H' → H' p = some (sqO b xs) := fun i σ' H' hi q => by
    obtain ⟨p', e, h⟩ := hl i σ' H' hi q
    cases e; exact h
  refine he _ ⟨b, p, xs, rfl, SqB.of hp, for_it walk_enumB Pv h0 (fun i σ' H' hi q => SqB.of (hl' i σ' H' hi q)) (fun k x σ' H' H'' _ q y => ?_) hd⟩
  obtain ⟨T, x1, y1, rfl, hT, rfl, e1, e2⟩ := y
  cases e1
  exact gPair_new upd_same (hs k y1 σ' H' T e2 q hT)
theorem for_zip {i j : Nat} {tb : TS} (he : Gives tl σ H v H1) (he2 : Gives tl2 σ H1 v2 H2) (sq : SqK b H2 v xs) (sq2 : SqK c H2 v2 ys) (Pv : Nat → St → Hp → Prop) (h0 : Pv 0 σ H2) (hl : ∀ k σ' H', Pv k σ' H' → SqK b H' v xs ∧ SqK c H' v2 ys)
    (hs : ∀ k x y σ' H' T, xs[k]? = some x → ys[k]? = some y → Pv k σ' H' → H' T = none → tb { D with nx := Pv (k + 1), ct := Pv (k + 1), bk := D.nx } ((σ'.set i (some x)).set j (some y)) (upd H' T (.tup [x, y])))
    (hd : ∀ σ' H', Pv (min xs.length ys.length) σ' H' → D.nx σ' H') : tFor (iZipB K (tCons tl (tCons tl2 tNil))) (gPair K i j) tb D σ H := by
  obtain ⟨p, rfl, hp⟩ := sq
  obtain ⟨p2, rfl, hp2⟩ := sq2
  have hl' : ∀ i σ' H', Pv i σ' H' → H' p = some (sqO b xs) ∧ H' p2 = some (sqO c ys) := fun i σ' H' q => by
    obtain ⟨⟨p', e, h⟩, ⟨p2', e2, h2⟩⟩ := hl i σ' H' q
    cases e; cases e2; exact ⟨h, h2⟩
  refine he _ (he2 _ ⟨b, c, p, p2, xs, ys, rfl, SqB.of hp, SqB.of hp2, for_it walk_zipB Pv h0 (fun i σ' H' hi q => ⟨SqB.of (hl' i σ' H' q).1, SqB.of (hl' i σ' H' q).2⟩) (fun k x σ' H' H'' _ q y => ?_) hd⟩)
  obtain ⟨T, x1, y1, rfl, hT, rfl, e1, e2⟩ := y
  exact gPair_new upd_same (hs k x1 y1 σ' H' T e1 e2 q hT)
/-! ### readings opened by one step -/
section
variable {σ : St} {H : Hp} {Q : VK} {te : TE} {D : Ends}
theorem u_cb1 {r : List V → Hp → VK → Prop} (h : te σ H fun x H1 => r [x] H1 Q) : tCB r (tCons te tNil) σ H Q := h
theorem u_call1 {sp : Sp} {E : XK} (h : te σ H fun x H1 => sp [x] H1 Q E) : tCall sp [] E (tCons te tNil) σ H Q := h
theorem u_ret (h : te σ H D.rt) : tRet te D σ H := h
theorem u_seq {t u : TS} (h : t { D with nx := u D } σ H) : tSeq t u D σ H := h
theorem u_asg {g : TG} (h : te σ H fun x H1 => g x σ H1 D.nx) : tAsg te g D σ H := h
theorem u_drop (h : te σ H fun _ H1 => D.nx σ H1) : tDrop te D σ H := h
end
/-- the target a, b of a comprehension -/
theorem pg_pair {X : Cx} {K : PySem.W.Frag} {i j : Nat} {x y : Str} {px py pos : Pos} {k : Nat} (hc : X.calm = true) (hN : X.N.Nodup) (hi : X.N[i]? = some x) (hj : X.N[j]? = some y) (hx : X.env.scope.names.lookup x = some .local) (hy : X.env.scope.names.lookup y = some .local)
    (hK : X.K = K) : PG X (.Tuple [.Name x px, .Name y py] k pos) (gPair K i j) := by
  subst hK
  exact pg_tup hc (pgs_cons (pg_name hN hi (.inl hx) (.inr hx)) (pgs_cons (pg_name hN hj (.inl hy) (.inr hy)) pgs_nil))
/-! ### comprehensions -/
/-- all but what stands at D -/
def SameB (D : Addr) (H H' : Hp) : Prop := ∀ a o, a ≠ D → H a = some o → H' a = some o
theorem SameB.of {D : Addr} (e : Same H H1) : SameB D H H1 := fun a o _ h => e a o h
theorem SameB.trans {D : Addr} (a : SameB D H H1) (b : SameB D H1 H2) : SameB D H H2 := fun x o n h => b x o n (a x o n h)
theorem SameB.upd {D : Addr} {o : HO} : SameB D H (L2.upd H D o) := fun a u n h => by rw [upd_ne n]; exact h
/-- D's list was changed, no more -/
def Chg (D : Addr) (H H' : Hp) : Prop := SameB D H H' ∧ ∃ xs, H D = some (.lst xs)
theorem Chg.n {D : Addr} (h : Chg D H H1) : SameN H H1 := fun a o e n => by
  obtain ⟨s, xs, hd⟩ := h
  refine s a o ?_ e
  rintro rfl
  rw [hd] at e; cases e; exact n _ rfl
/-- what a comprehension asks of its turns -/
def LcW (J : It) (g : TG) (tt : TT) (te : TE) (vs : List Nat) (σ : St) (D : Addr) (Qd : Hp → Prop) (H0 : Hp) : Prop :=
  ∃ W : Nat → Nat → Hp → Prop, (∃ m, W 0 m H0) ∧ ∀ i m H, W i m H →
    (J.stop i H ∧ Qd H) ∨ (J.go i H ∧ ∃ Nx : Hp → Prop, (∀ H', Nx H' → ∃ m', m' < m ∧ W (i + 1) m' H') ∧ ∀ x H', J.yld i H x H' → g x (wipe σ vs) H' fun σ2 H2 => wipe σ2 vs = wipe σ vs ∧ tt σ2 H2 fun b H3 =>
      if b = true then te σ2 H3 fun y H4 => ∃ acc, H4 D = some (.lst acc) ∧ acc.length < sizeLine ∧ Nx (L2.upd H4 D (.lst (acc ++ [y]))) else Nx H3)
/-- every item is kept: F tells each by its place -/
theorem lc_core {J : It} {n : Nat} {G : Hp → Prop} {Y : Nat → Hp → V → Hp → Prop} (wk : Walk J n G Y) {g : TG} {tt : TT} {te : TE} {vs : List Nat} {D0 : Addr} {Qd : Hp → Prop} (F : Nat → Hp → V → Prop) (hD : H1 D0 = none) (hn : n ≤ 100000)
    (hG : ∀ H', Same H1 H' → G H') (mono : ∀ i H H' y, Chg D0 H H' → F i H y → F i H' y)
    (hstep : ∀ i x H' H'' (R : VK) (Z : Hp → Prop), i < n → Same H1 H' → H' D0 ≠ none → Y i H' x H'' → (∀ y H4, Same H' H4 → F i H4 y → R y H4) → g x (wipe σ vs) H'' fun σ2 H2 => wipe σ2 vs = wipe σ vs ∧ tt σ2 H2 fun b H3 => if b = true then te σ2 H3 R else Z H3)
    (hd : ∀ H' zs, Same H1 H' → H' D0 = some (.lst zs) → zs.length = n → (∀ j y, zs[j]? = some y → F j H' y) → Qd H') : LcW J g tt te vs σ D0 Qd (upd H1 D0 (.lst [])) := by
  refine lc_it wk (Pv := fun i H' => Same H1 H' ∧ ∃ acc, H' D0 = some (.lst acc) ∧ acc.length = i ∧ ∀ j y, acc[j]? = some y → F j H' y) ⟨Same.of_new hD, [], upd_same, rfl, fun j y h => by simp at h⟩ (fun i H' _ p => hG H' p.1) ?_ ?_
  · rintro i x H' H'' hi ⟨s1, acc, ha, hl, hF⟩ hY
    refine hstep i x H' H'' _ _ hi s1 (by rw [ha]; simp) hY fun y H4 s4 hy => ?_
    have h4 := s4 _ _ ha
    refine ⟨acc, h4, Nat.lt_of_lt_of_le (by omega : acc.length < 100001) (by decide), ?_, acc ++ [y], upd_same, by simp [hl], ?_⟩
    · intro a o e
      rw [upd_ne (ne_of_none e hD)]
      exact s4 _ _ (s1 _ _ e)
    · intro j z hz
      have ch : Chg D0 H4 (upd H4 D0 (.lst (acc ++ [y]))) := ⟨SameB.upd, acc, h4⟩
      by_cases hj : j < acc.length
      · rw [List.getElem?_append_left hj] at hz
        exact mono _ _ _ _ ch (mono j H' H4 z ⟨SameB.of s4, acc, ha⟩ (hF j z hz))
      · have e : j = acc.length := by
          have := (List.getElem?_eq_some_iff.mp hz).1
          simp at this; omega
        subst e
        rw [List.getElem?_append_right (Nat.le_refl _)] at hz
        simp at hz
        subst hz
        rw [hl]
        exact mono _ _ _ _ ch hy
  · rintro H' ⟨s1, acc, ha, hl, hF⟩
    exact hd H' acc s1 ha hl hF
theorem yes {σ : St} {H : Hp} {te : TE} {R : VK} {Z : Hp → Prop} (h : te σ H R) : tYes σ H fun b H3 => if b = true then te σ H3 R else Z H3 := by
  show (if true = true then te σ H R else Z H)
  rw [if_pos rfl]
  exact h
/-- one name, nothing asked -/
theorem lc_seq {k : Nat} {te : TE} {vs : List Nat} {Q : VK} (he : Gives tl σ H v H1) (sq : SqK b H1 v xs) (hn : xs.length ≤ 100000) (F : Addr → Nat → Hp → V → Prop) (mono : ∀ D i H H' y, Chg D H H' → F D i H y → F D i H' y)
    (hstep : ∀ D i x H' (R : VK), xs[i]? = some x → H1 D = none → Same H1 H' → H' D ≠ none → (∀ y H4, Same H' H4 → F D i H4 y → R y H4) → te ((wipe σ vs).set k (some x)) H' R)
    (hd : ∀ D H' zs, H1 D = none → Same H1 H' → H' D = some (.lst zs) → zs.length = xs.length → (∀ j y, zs[j]? = some y → F D j H' y) → Q (.ref D) H')
    (hw : ∀ x, wipe ((wipe σ vs).set k (some x)) vs = wipe σ vs) : tLc (iSeq K tl) (gName k) tYes te vs σ H Q := by
  obtain ⟨p, rfl, hp⟩ := sq
  cases b
  · refine .inr (he _ ⟨p, rfl, ⟨xs, SqT.of hp⟩, fun D hD => ?_⟩)
    exact lc_core walk_tup (F D) hD hn (fun H' s => SqT.of (s _ _ hp)) (mono D) (fun i x H' H'' R Z hi s hn hY hR => by
      obtain ⟨rfl, hx⟩ := hY
      exact ⟨hw x, yes (hstep D i x _ R hx hD s hn hR)⟩) fun H' zs => hd D H' zs hD
  · refine .inl (he _ ⟨p, rfl, ⟨xs, SqL.of hp⟩, fun D hD => ?_⟩)
    exact lc_core walk_list (F D) hD hn (fun H' s => SqL.of (s _ _ hp)) (mono D) (fun i x H' H'' R Z hi s hn hY hR => by
      obtain ⟨rfl, hx⟩ := hY
      exact ⟨hw x, yes (hstep D i x _ R hx hD s hn hR)⟩) fun H' zs => hd D H' zs hD
theorem lc_rng1 {k : Nat} {te : TE} {vs : List Nat} {Q : VK} {n : Nat} (he : Gives tl σ H (.int n) H1) (hn : n ≤ 100000) (F : Addr → Nat → Hp → V → Prop) (mono : ∀ D i H H' y, Chg D H H' → F D i H y → F D i H' y)
    (hstep : ∀ D i H' (R : VK), i < n → H1 D = none → Same H1 H' → H' D ≠ none → (∀ y H4, Same H' H4 → F D i H4 y → R y H4) → te ((wipe σ vs).set k (some (.int i))) H' R)
    (hd : ∀ D H' zs, H1 D = none → Same H1 H' → H' D = some (.lst zs) → zs.length = n → (∀ j y, zs[j]? = some y → F D j H' y) → Q (.ref D) H')
    (hw : ∀ x, wipe ((wipe σ vs).set k (some x)) vs = wipe σ vs) : tLc (iRng1 (tCons tl tNil)) (gName k) tYes te vs σ H Q := by
  refine he _ ⟨n, rfl, by omega, by omega, fun D hD => ?_⟩
  rw [Int.toNat_natCast]
  refine lc_core walk_range (F D) hD hn (fun _ _ => trivial) (mono D) (fun i x H' H'' R Z hi s hn hY hR => ?_) fun H' zs => hd D H' zs hD
  obtain ⟨rfl, hx⟩ := hY
  have hx' : x = .int (i : Int) := hx.trans (by show V.int (0 + (i : Int)) = _; rw [Int.zero_add])
  subst hx'
  exact ⟨hw _, yes (hstep D i _ R hi hD s hn hR)⟩
theorem lc_enum {k l : Nat} {te : TE} {vs : List Nat} {Q : VK} (he : Gives tl σ H v H1) (sq : SqK b H1 v xs) (hn : xs.length ≤ 100000) (F : Addr → Nat → Hp → V → Prop) (mono : ∀ D i H H' y, Chg D H H' → F D i H y → F D i H' y)
    (hstep : ∀ D i x H' (R : VK), xs[i]? = some x → H1 D = none → Same H1 H' → H' D ≠ none → (∀ y H4, Same H' H4 → F D i H4 y → R y H4) → te (((wipe σ vs).set k (some (.int i))).set l (some x)) H' R)
    (hd : ∀ D H' zs, H1 D = none → Same H1 H' → H' D = some (.lst zs) → zs.length = xs.length → (∀ j y, zs[j]? = some y → F D j H' y) → Q (.ref D) H')
    (hw : ∀ x y, wipe (((wipe σ vs).set k (some x)).set l (some y)) vs = wipe σ vs) : tLc (iEnumB K (tCons tl tNil)) (gPair K k l) tYes te vs σ H Q := by
  obtain ⟨p, rfl, hp⟩ := sq
  refine he _ ⟨b, p, xs, rfl, SqB.of hp, fun D hD => ?_⟩
  refine lc_core walk_enumB (F D) hD hn (fun H' s => SqB.of (s _ _ hp)) (mono D) (fun i x H' H'' R Z hi s hn hY hR => ?_) fun H' zs => hd D H' zs hD
  obtain ⟨T, x1, y1, rfl, hT, rfl, e1, e2⟩ := hY
  cases e1
  exact gPair_new upd_same ⟨hw _ _, yes (hstep D i y1 _ R e2 hD (s.trans (Same.of_new hT)) (by
    rw [upd_ne]; exact hn
    rintro rfl; exact hn hT) fun y H4 s4 => hR y H4 ((Same.of_new hT).trans s4))⟩
theorem lc_zip {k l : Nat} {te : TE} {vs : List Nat} {Q : VK} (he : Gives tl σ H v H1) (he2 : Gives tl2 σ H1 v2 H2) (sq : SqK b H2 v xs) (sq2 : SqK c H2 v2 ys) (hn : xs.length ≤ 100000) (F : Addr → Nat → Hp → V → Prop) (mono : ∀ D i H H' y, Chg D H H' → F D i H y → F D i H' y)
    (hstep : ∀ D i x y H' (R : VK), xs[i]? = some x → ys[i]? = some y → H2 D = none → Same H2 H' → H' D ≠ none → (∀ y H4, Same H' H4 → F D i H4 y → R y H4) → te (((wipe σ vs).set k (some x)).set l (some y)) H' R)
    (hd : ∀ D H' zs, H2 D = none → Same H2 H' → H' D = some (.lst zs) → zs.length = min xs.length ys.length → (∀ j y, zs[j]? = some y → F D j H' y) → Q (.ref D) H')
    (hw : ∀ x y, wipe (((wipe σ vs).set k (some x)).set l (some y)) vs = wipe σ vs) : tLc (iZipB K (tCons tl (tCons tl2 tNil))) (gPair K k l) tYes te vs σ H Q := by
  obtain ⟨p, rfl, hp⟩ := sq
  obtain ⟨p2, rfl, hp2⟩ := sq2
  refine he _ (he2 _ ⟨b, c, p, p2, xs, ys, rfl, SqB.of hp, SqB.of hp2, fun D hD => ?_⟩)
  refine lc_core walk_zipB (F D) hD (by omega) (fun H' s => ⟨SqB.of (s _ _ hp), SqB.of (s _ _ hp2)⟩) (mono D) (fun i x H' H'' R Z hi s hn hY hR => ?_) fun H' zs => hd D H' zs hD
  obtain ⟨T, x1, y1, rfl, hT, rfl, e1, e2⟩ := hY
  exact gPair_new upd_same ⟨hw _ _, yes (hstep D i x1 y1 _ R e1 e2 hD (s.trans (Same.of_new hT)) (by
    rw [upd_ne]; exact hn
    rintro rfl; exact hn hT) fun y H4 s4 => hR y H4 ((Same.of_new hT).trans s4))⟩
end
end Hp
namespace Hp
set_option Elab.async false
set_option linter.all false
set_option maxRecDepth 100000
set_option maxHeartbeats 4000000
open PySem PySem.Spec PyProof.Rows L2
section
variable {P : Program} {w : World} {K : PySem.W.Frag} {mg : Str → Option Value} {base : Heap}
theorem sz2 : 2 ≤ sizeLine := by decide
theorem cmul {i j : Int} {a b : Nat} (ha : i.natAbs.log2 < a) (hb : j.natAbs.log2 < b) (h : a + b ≤ 1000000 := by decide) : CMulW i j := by unfold CMulW; omega
theorem Sz.nd {p q : Rat} (hp : Sz p) (hq : Sz q) : CMulW p.num (q.den : Int) := cmul hp.1 (by simpa using hq.2) (by decide)
theorem Sz.nn {p q : Rat} (hp : Sz p) (hq : Sz q) : CMulW p.num q.num := cmul hp.1 hq.1 (by decide)
theorem Sz.dd {p q : Rat} (hp : Sz p) (hq : Sz q) : CMulW (p.den : Int) (q.den : Int) := cmul (by simpa using hp.2) (by simpa using hq.2) (by decide)
theorem Sz.ddl {p q : Rat} (hp : Sz p) (hq : Sz q) : ((p.den : Int) * (q.den : Int)).natAbs.log2 < 9000 := by
  have h := log2_mul_le p.den q.den
  have h1 := hp.2
  have h2 := hq.2
  rw [Int.natAbs_mul]
  simp only [Int.natAbs_natCast]
  omega
theorem dd_ne (p q : Rat) : (p.den : Int) * (q.den : Int) ≠ 0 := by
  have h1 := p.den_nz
  have h2 := q.den_nz
  exact Int.mul_ne_zero (by omega) (by omega)
def sp_halves  : Sp :=  fun vs H Q _ => ∃ v q, vs = [v] ∧ Num H v q ∧ ∀ p H', Same H H' → H' p = some (.tup [.int q.num, .int (q.den : Int)]) → Q (.ref p) H'
theorem sc_halves : FnScope ["number"] ["number"] (defScope s_halves) := ⟨rfl, rfl, rfl, by decide +kernel, rfl, by decide +kernel, by decide +kernel⟩
theorem c_halves (T : Wd K mg base) : Cal P w K mg base 1 "halves" sp_halves [] := by
  obtain ⟨fd, F⟩ := T.d_halves
  refine mkCal (k := 1 - 1) F T.g_halves sc_halves (F.bindsN fun _ _ _ _ _ _ us hl => match us, hl with | [_], _ => rfl) (fun vs H Q E h => ?_) (fun cdv A outer s H vs Q E hr h => ?_)
  · rcases h with ⟨v, q, rfl, hq, k⟩ <;> rfl
  · rcases h with ⟨v, q, rfl, hq, k⟩
    refine ⟨_, (pss_one (ps_ret (pe_ifExp (pt_val (pe_callB call_isi (by rfl) T.f_isinstance (by decide +kernel) (pa_cons (pv 0) (pa_cons (pe_bltn (v := .ty "int") (by rfl) T.f_int (by decide +kernel) rfl) pa_nil)))) (pe_tup (pa_cons (pv 0) (pa_cons pe_int pa_nil))) (pe_tup (pa_cons (pe_ix ix_seq (pv 0) pe_int (fun _ _ => rfl)) (pa_cons (pe_ix ix_seq (pv 0) pe_int (fun _ _ => rfl)) pa_nil)))))), ?_⟩
    rcases hq with ⟨h1, rfl⟩ | ⟨h1, p, rfl, hp⟩
    · refine ⟨_, rfl, _, _, _, _, true, rfl, .ty "int", .base (.int _), kt (by decide +kernel), _, rfl, iteT ?_⟩
      refine ⟨_, rfl, sz2, fun t nt => k t _ (Same.of_new nt) ?_⟩
      rw [upd_same, h1]; rfl
    · refine ⟨_, rfl, _, _, _, _, false, rfl, .ty "int", .base (.tup hp), kt (by decide +kernel), _, rfl, iteF ?_⟩
      refine ⟨_, rfl, .inr (.inl ⟨p, _, 0, _, rfl, rfl, SqT.of hp, rfl, ?_⟩)⟩
      refine ⟨_, rfl, .inr (.inl ⟨p, _, 1, _, rfl, rfl, SqT.of hp, rfl, ?_⟩)⟩
      exact ⟨sz2, fun t nt => k t _ (Same.of_new nt) upd_same⟩
def sp_lowest  : Sp :=  fun vs H Q _ => ∃ a u : Int, vs = [.int a, .int u] ∧ u ≠ 0 ∧ u.natAbs.log2 < 9000 ∧ ∀ v H', Same H H' → Num H' v (Rat.divInt a u) → Q v H'
theorem sc_lowest : FnScope ["above", "under", "part"] ["above", "under"] (defScope s_lowest) := ⟨rfl, rfl, rfl, by decide +kernel, rfl, by decide +kernel, by decide +kernel⟩
theorem c_lowest (T : Wd K mg base) : Cal P w K mg base 2 "lowest" sp_lowest [] := by
  obtain ⟨fd, F⟩ := T.d_lowest
  refine mkCal (k := 2 - 1) F T.g_lowest sc_lowest (F.bindsN fun _ _ _ _ _ _ us hl => match us, hl with | [_, _], _ => rfl) (fun vs H Q E h => ?_) (fun cdv A outer s H vs Q E hr h => ?_)
  · rcases h with ⟨a, u, rfl, hu0, hul, k⟩ <;> rfl
  · rcases h with ⟨a, u, rfl, hu0, hul, k⟩
    refine ⟨_, (pss_cons (ps_set (i := 2) sc_lowest.nd rfl (Or.inl rfl) (pe_c (c_common T) hr (by decide) rfl (pa_cons (pv 0) (pa_cons (pv 1) pa_nil))))
  (pss_cons (ps_set (i := 2) sc_lowest.nd rfl (Or.inl rfl) (pe_ifExp (pt_cmpR op_lt (pv 1) pe_int (nomark _)) (pe_un un_neg (pv 2)) (pv 2)))
  (pss_cons (ps_par (i := 0) (j := 1) rfl sc_lowest.nd rfl rfl (by decide) rfl rfl (pa_cons (pe_op op_fdivA (pv 0) (pv 2)) (pa_cons (pe_op op_fdivA (pv 1) (pv 2)) pa_nil)) (by rfl))
  (pss_one (ps_ret (pe_ifExp (pt_cmpR op_eq (pv 1) pe_int (nomark _)) (pv 0) (pe_tup (pa_cons (pv 0) (pa_cons (pv 1) pa_nil))))))))), ?_⟩
    have e1 : a.fdiv (lpart a u) = (Rat.divInt a u).num := low_num hu0
    have e2 : u.fdiv (lpart a u) = ((Rat.divInt a u).den : Int) := low_den hu0
    have hne := lpart_ne (a := a) hu0
    have hlt : (lpart a u).natAbs.log2 < 9000 := Nat.lt_of_le_of_lt (log2_le_of_le (lpart_le hu0)) hul
    refine ⟨_, rfl, _, rfl, a, u, rfl, ?_⟩
    refine ⟨_, rfl, _, _, rfl, rfl, _, rfl, ?_⟩
    by_cases hu : u < 0
    · refine itt (dt hu) ⟨_, rfl, _, rfl, ?_⟩
      have e : -(Int.gcd a u : Int) = lpart a u := by unfold lpart; rw [if_pos hu]
      dsimp only
      rw [e]
      refine ⟨_, rfl, _, rfl, _, _, rfl, rfl, ⟨hne, hlt⟩, _, rfl, _, rfl, _, _, rfl, rfl, ⟨hne, hlt⟩, _, _, rfl, ?_⟩
      dsimp only
      rw [e1, e2]
      refine ⟨_, rfl, rfl, _, rfl, ?_⟩
      by_cases h1 : (Rat.divInt a u).den = 1
      · refine itt (dt (by rw [h1]; rfl)) ⟨_, rfl, k _ _ (Same.refl _) (.inl ⟨h1, rfl⟩)⟩
      · refine itf (df (by intro z; injection z with z; omega)) ⟨_, rfl, _, rfl, sz2, fun t nt => k _ _ (Same.of_new nt) (.inr ⟨h1, t, rfl, upd_same⟩)⟩
    · refine itf (df hu) ⟨_, rfl, ?_⟩
      have e : (Int.gcd a u : Int) = lpart a u := by unfold lpart; rw [if_neg hu]
      dsimp only
      rw [e]
      refine ⟨_, rfl, _, rfl, _, _, rfl, rfl, ⟨hne, hlt⟩, _, rfl, _, rfl, _, _, rfl, rfl, ⟨hne, hlt⟩, _, _, rfl, ?_⟩
      dsimp only
      rw [e1, e2]
      refine ⟨_, rfl, rfl, _, rfl, ?_⟩
      by_cases h1 : (Rat.divInt a u).den = 1
      · refine itt (dt (by rw [h1]; rfl)) ⟨_, rfl, k _ _ (Same.refl _) (.inl ⟨h1, rfl⟩)⟩
      · refine itf (df (by intro z; injection z with z; omega)) ⟨_, rfl, _, rfl, sz2, fun t nt => k _ _ (Same.of_new nt) (.inr ⟨h1, t, rfl, upd_same⟩)⟩
def sp_added  : Sp :=  fun vs H Q _ => ∃ v u p q, vs = [v, u] ∧ Num H v p ∧ Num H u q ∧ Sz p ∧ Sz q ∧ ∀ x H', Same H H' → Num H' x (p + q) → Q x H'
theorem sc_added : FnScope ["one", "other", "above", "under", "its", "below_it"] ["one", "other"] (defScope s_added) := ⟨rfl, rfl, rfl, by decide +kernel, rfl, by decide +kernel, by decide +kernel⟩
theorem c_added (T : Wd K mg base) : Cal P w K mg base 3 "added" sp_added [] := by
  obtain ⟨fd, F⟩ := T.d_added
  refine mkCal (k := 3 - 1) F T.g_added sc_added (F.bindsN fun _ _ _ _ _ _ us hl => match us, hl with | [_, _], _ => rfl) (fun vs H Q E h => ?_) (fun cdv A outer s H vs Q E hr h => ?_)
  · rcases h with ⟨v, u, p, q, rfl, hp, hq, zp, zq, k⟩ <;> rfl
  · rcases h with ⟨v, u, p, q, rfl, hp, hq, zp, zq, k⟩
    refine ⟨_, (pss_cons (ps_asg (pe_tup (pa_cons (pe_c (c_halves T) hr (by decide) rfl (pa_cons (pv 0) pa_nil)) (pa_cons (pe_c (c_halves T) hr (by decide) rfl (pa_cons (pv 1) pa_nil)) pa_nil))) (pg_tup rfl (pgs_cons (pg_tup rfl (pgs_cons (pg_name (i := 2) sc_added.nd rfl (Or.inl rfl)) (pgs_cons (pg_name (i := 3) sc_added.nd rfl (Or.inl rfl)) pgs_nil))) (pgs_cons (pg_tup rfl (pgs_cons (pg_name (i := 4) sc_added.nd rfl (Or.inl rfl)) (pgs_cons (pg_name (i := 5) sc_added.nd rfl (Or.inl rfl)) pgs_nil))) pgs_nil))))
  (pss_one (ps_ret (pe_c (c_lowest T) hr (by decide) rfl (pa_cons (pe_op op_add (pe_op op_mulW (pv 2) (pv 5)) (pe_op op_mulW (pv 4) (pv 3))) (pa_cons (pe_op op_mulW (pv 3) (pv 5)) pa_nil)))))), ?_⟩
    refine ⟨_, rfl, v, p, rfl, hp, fun t H1 s1 ht => ?_⟩
    refine ⟨_, rfl, u, q, rfl, hq.mono s1.n, fun t2 H2 s2 ht2 => ?_⟩
    refine ⟨sz2, fun t3 n3 => ?_⟩
    have s3 := Same.of_new (o := .tup [.ref t, .ref t2]) n3
    refine ⟨t3, _, rfl, SqT.of upd_same, rfl, _, _, rfl, ⟨t, _, rfl, SqT.of (s3 _ _ (s2 _ _ ht)), rfl, _, _, rfl, _, _, rfl, rfl, ?_⟩⟩
    refine ⟨_, _, rfl, ⟨t2, _, rfl, SqT.of (s3 _ _ ht2), rfl, _, _, rfl, _, _, rfl, rfl, rfl, ?_⟩⟩
    refine ⟨_, rfl, _, rfl, _, _, rfl, rfl, zp.nd zq, _, rfl, _, rfl, _, _, rfl, rfl, zq.nd zp, _, _, rfl, rfl, _, rfl, _, rfl, _, _, rfl, rfl, zp.dd zq, ?_⟩
    refine ⟨_, _, rfl, dd_ne p q, zp.ddl zq, fun x H' s4 hx => k x H' (((s1.trans s2).trans s3).trans s4) ?_⟩
    rw [← add_low]; exact hx
def sp_product  : Sp :=  fun vs H Q _ => ∃ v u p q, vs = [v, u] ∧ Num H v p ∧ Num H u q ∧ Sz p ∧ Sz q ∧ ∀ x H', Same H H' → Num H' x (p * q) → Q x H'
theorem sc_product : FnScope ["one", "other", "above", "under", "its", "below_it"] ["one", "other"] (defScope s_product) := ⟨rfl, rfl, rfl, by decide +kernel, rfl, by decide +kernel, by decide +kernel⟩
theorem c_product (T : Wd K mg base) : Cal P w K mg base 3 "product" sp_product [] := by
  obtain ⟨fd, F⟩ := T.d_product
  refine mkCal (k := 3 - 1) F T.g_product sc_product (F.bindsN fun _ _ _ _ _ _ us hl => match us, hl with | [_, _], _ => rfl) (fun vs H Q E h => ?_) (fun cdv A outer s H vs Q E hr h => ?_)
  · rcases h with ⟨v, u, p, q, rfl, hp, hq, zp, zq, k⟩ <;> rfl
  · rcases h with ⟨v, u, p, q, rfl, hp, hq, zp, zq, k⟩
    refine ⟨_, (pss_cons (ps_asg (pe_tup (pa_cons (pe_c (c_halves T) hr (by decide) rfl (pa_cons (pv 0) pa_nil)) (pa_cons (pe_c (c_halves T) hr (by decide) rfl (pa_cons (pv 1) pa_nil)) pa_nil))) (pg_tup rfl (pgs_cons (pg_tup rfl (pgs_cons (pg_name (i := 2) sc_product.nd rfl (Or.inl rfl)) (pgs_cons (pg_name (i := 3) sc_product.nd rfl (Or.inl rfl)) pgs_nil))) (pgs_cons (pg_tup rfl (pgs_cons (pg_name (i := 4) sc_product.nd rfl (Or.inl rfl)) (pgs_cons (pg_name (i := 5) sc_product.nd rfl (Or.inl rfl)) pgs_nil))) pgs_nil))))
  (pss_one (ps_ret (pe_c (c_lowest T) hr (by decide) rfl (pa_cons (pe_op op_mulW (pv 2) (pv 4)) (pa_cons (pe_op op_mulW (pv 3) (pv 5)) pa_nil)))))), ?_⟩
    refine ⟨_, rfl, v, p, rfl, hp, fun t H1 s1 ht => ?_⟩
    refine ⟨_, rfl, u, q, rfl, hq.mono s1.n, fun t2 H2 s2 ht2 => ?_⟩
    refine ⟨sz2, fun t3 n3 => ?_⟩
    have s3 := Same.of_new (o := .tup [.ref t, .ref t2]) n3
    refine ⟨t3, _, rfl, SqT.of upd_same, rfl, _, _, rfl, ⟨t, _, rfl, SqT.of (s3 _ _ (s2 _ _ ht)), rfl, _, _, rfl, _, _, rfl, rfl, ?_⟩⟩
    refine ⟨_, _, rfl, ⟨t2, _, rfl, SqT.of (s3 _ _ ht2), rfl, _, _, rfl, _, _, rfl, rfl, rfl, ?_⟩⟩
    refine ⟨_, rfl, _, rfl, _, _, rfl, rfl, zp.nn zq, _, rfl, _, rfl, _, _, rfl, rfl, zp.dd zq, ?_⟩
    refine ⟨_, _, rfl, dd_ne p q, zp.ddl zq, fun x H' s4 hx => k x H' (((s1.trans s2).trans s3).trans s4) ?_⟩
    rw [← mul_low]; exact hx
def sp_part_by  : Sp :=  fun vs H Q _ => ∃ v u p q, vs = [v, u] ∧ Num H v p ∧ Num H u q ∧ Sz p ∧ Sz q ∧ q ≠ 0 ∧ q.num.natAbs.log2 < 4000 ∧ ∀ x H', Same H H' → Num H' x (p / q) → Q x H'
theorem sc_part_by : FnScope ["one", "other", "above", "under", "its", "below_it"] ["one", "other"] (defScope s_part_by) := ⟨rfl, rfl, rfl, by decide +kernel, rfl, by decide +kernel, by decide +kernel⟩
theorem c_part_by (T : Wd K mg base) : Cal P w K mg base 3 "part_by" sp_part_by [] := by
  obtain ⟨fd, F⟩ := T.d_part_by
  refine mkCal (k := 3 - 1) F T.g_part_by sc_part_by (F.bindsN fun _ _ _ _ _ _ us hl => match us, hl with | [_, _], _ => rfl) (fun vs H Q E h => ?_) (fun cdv A outer s H vs Q E hr h => ?_)
  · rcases h with ⟨v, u, p, q, rfl, hp, hq, zp, zq, q0, ql, k⟩ <;> rfl
  · rcases h with ⟨v, u, p, q, rfl, hp, hq, zp, zq, q0, ql, k⟩
    refine ⟨_, (pss_cons (ps_asg (pe_tup (pa_cons (pe_c (c_halves T) hr (by decide) rfl (pa_cons (pv 0) pa_nil)) (pa_cons (pe_c (c_halves T) hr (by decide) rfl (pa_cons (pv 1) pa_nil)) pa_nil))) (pg_tup rfl (pgs_cons (pg_tup rfl (pgs_cons (pg_name (i := 2) sc_part_by.nd rfl (Or.inl rfl)) (pgs_cons (pg_name (i := 3) sc_part_by.nd rfl (Or.inl rfl)) pgs_nil))) (pgs_cons (pg_tup rfl (pgs_cons (pg_name (i := 4) sc_part_by.nd rfl (Or.inl rfl)) (pgs_cons (pg_name (i := 5) sc_part_by.nd rfl (Or.inl rfl)) pgs_nil))) pgs_nil))))
  (pss_one (ps_ret (pe_c (c_lowest T) hr (by decide) rfl (pa_cons (pe_op op_mulW (pv 2) (pv 5)) (pa_cons (pe_op op_mulW (pv 3) (pv 4)) pa_nil)))))), ?_⟩
    refine ⟨_, rfl, v, p, rfl, hp, fun t H1 s1 ht => ?_⟩
    refine ⟨_, rfl, u, q, rfl, hq.mono s1.n, fun t2 H2 s2 ht2 => ?_⟩
    refine ⟨sz2, fun t3 n3 => ?_⟩
    have s3 := Same.of_new (o := .tup [.ref t, .ref t2]) n3
    refine ⟨t3, _, rfl, SqT.of upd_same, rfl, _, _, rfl, ⟨t, _, rfl, SqT.of (s3 _ _ (s2 _ _ ht)), rfl, _, _, rfl, _, _, rfl, rfl, ?_⟩⟩
    refine ⟨_, _, rfl, ⟨t2, _, rfl, SqT.of (s3 _ _ ht2), rfl, _, _, rfl, _, _, rfl, rfl, rfl, ?_⟩⟩
    have hn : q.num ≠ 0 := fun z => q0 (Rat.num_eq_zero.mp z)
    refine ⟨_, rfl, _, rfl, _, _, rfl, rfl, zp.nd zq, _, rfl, _, rfl, _, _, rfl, rfl, cmul (by simpa using zp.2) zq.1, ?_⟩
    refine ⟨_, _, rfl, Int.mul_ne_zero (by have := p.den_nz; omega) hn, ?_, fun x H' s4 hx => k x H' (((s1.trans s2).trans s3).trans s4) ?_⟩
    · have h := log2_mul_le p.den q.num.natAbs
      have h1 := zp.2
      rw [Int.natAbs_mul]
      simp only [Int.natAbs_natCast]
      omega
    · rw [← div_low]; exact hx
def sp_turned  : Sp :=  fun vs H Q _ => ∃ v p, vs = [v] ∧ Num H v p ∧ ∀ x H', Same H H' → Num H' x (-p) → Q x H'
theorem sc_turned : FnScope ["number", "above", "under"] ["number"] (defScope s_turned) := ⟨rfl, rfl, rfl, by decide +kernel, rfl, by decide +kernel, by decide +kernel⟩
theorem c_turned (T : Wd K mg base) : Cal P w K mg base 2 "turned" sp_turned [] := by
  obtain ⟨fd, F⟩ := T.d_turned
  refine mkCal (k := 2 - 1) F T.g_turned sc_turned (F.bindsN fun _ _ _ _ _ _ us hl => match us, hl with | [_], _ => rfl) (fun vs H Q E h => ?_) (fun cdv A outer s H vs Q E hr h => ?_)
  · rcases h with ⟨v, p, rfl, hp, k⟩ <;> rfl
  · rcases h with ⟨v, p, rfl, hp, k⟩
    refine ⟨_, (pss_cons (ps_asg (pe_c (c_halves T) hr (by decide) rfl (pa_cons (pv 0) pa_nil)) (pg_tup rfl (pgs_cons (pg_name (i := 1) sc_turned.nd rfl (Or.inl rfl)) (pgs_cons (pg_name (i := 2) sc_turned.nd rfl (Or.inl rfl)) pgs_nil))))
  (pss_one (ps_ret (pe_ifExp (pt_cmpR op_eq (pv 2) pe_int (nomark _)) (pe_un un_neg (pv 1)) (pe_tup (pa_cons (pe_un un_neg (pv 1)) (pa_cons (pv 2) pa_nil))))))), ?_⟩
    refine ⟨_, rfl, v, p, rfl, hp, fun t H1 s1 ht => ?_⟩
    refine ⟨t, _, rfl, SqT.of ht, rfl, _, _, rfl, _, _, rfl, rfl, ?_⟩
    refine ⟨_, rfl, rfl, _, rfl, ?_⟩
    by_cases h1 : p.den = 1
    · refine itt (dt (by rw [h1]; rfl)) ⟨_, rfl, _, rfl, k _ _ s1 (.inl ⟨h1, rfl⟩)⟩
    · refine itf (df (by intro z; injection z with z; omega)) ⟨_, rfl, _, rfl, _, rfl, sz2, fun t2 n2 => k _ _ (s1.trans (Same.of_new n2)) (.inr ⟨h1, t2, rfl, upd_same⟩)⟩
def sp_less_by  : Sp :=  fun vs H Q _ => ∃ v u p q, vs = [v, u] ∧ Num H v p ∧ Num H u q ∧ Sz p ∧ Sz q ∧ ∀ x H', Same H H' → Num H' x (p - q) → Q x H'
theorem sc_less_by : FnScope ["one", "other"] ["one", "other"] (defScope s_less_by) := ⟨rfl, rfl, rfl, by decide +kernel, rfl, by decide +kernel, by decide +kernel⟩
theorem c_less_by (T : Wd K mg base) : Cal P w K mg base 4 "less_by" sp_less_by [] := by
  obtain ⟨fd, F⟩ := T.d_less_by
  refine mkCal (k := 4 - 1) F T.g_less_by sc_less_by (F.bindsN fun _ _ _ _ _ _ us hl => match us, hl with | [_, _], _ => rfl) (fun vs H Q E h => ?_) (fun cdv A outer s H vs Q E hr h => ?_)
  · rcases h with ⟨v, u, p, q, rfl, hp, hq, zp, zq, k⟩ <;> rfl
  · rcases h with ⟨v, u, p, q, rfl, hp, hq, zp, zq, k⟩
    refine ⟨_, (pss_one (ps_ret (pe_c (c_added T) hr (by decide) rfl (pa_cons (pv 0) (pa_cons (pe_c (c_turned T) hr (by decide) rfl (pa_cons (pv 1) pa_nil)) pa_nil))))), ?_⟩
    refine ⟨_, rfl, _, rfl, u, q, rfl, hq, fun x H1 s1 hx => ?_⟩
    refine ⟨v, x, p, -q, rfl, hp.mono s1.n, hx, zp, ⟨by simpa using zq.1, zq.2⟩, fun y H2 s2 hy => k y H2 (s1.trans s2) ?_⟩
    rw [Rat.sub_eq_add_neg]; exact hy
def sp_below  : Sp :=  fun vs H Q _ => ∃ v u p q, vs = [v, u] ∧ Num H v p ∧ Num H u q ∧ Sz p ∧ Sz q ∧ ∀ H', Same H H' → Q (.bl (decide (p < q))) H'
theorem sc_below : FnScope ["one", "other", "above", "under", "its", "below_it"] ["one", "other"] (defScope s_below) := ⟨rfl, rfl, rfl, by decide +kernel, rfl, by decide +kernel, by decide +kernel⟩
theorem c_below (T : Wd K mg base) : Cal P w K mg base 2 "below" sp_below [] := by
  obtain ⟨fd, F⟩ := T.d_below
  refine mkCal (k := 2 - 1) F T.g_below sc_below (F.bindsN fun _ _ _ _ _ _ us hl => match us, hl with | [_, _], _ => rfl) (fun vs H Q E h => ?_) (fun cdv A outer s H vs Q E hr h => ?_)
  · rcases h with ⟨v, u, p, q, rfl, hp, hq, zp, zq, k⟩ <;> rfl
  · rcases h with ⟨v, u, p, q, rfl, hp, hq, zp, zq, k⟩
    refine ⟨_, (pss_cons (ps_asg (pe_tup (pa_cons (pe_c (c_halves T) hr (by decide) rfl (pa_cons (pv 0) pa_nil)) (pa_cons (pe_c (c_halves T) hr (by decide) rfl (pa_cons (pv 1) pa_nil)) pa_nil))) (pg_tup rfl (pgs_cons (pg_tup rfl (pgs_cons (pg_name (i := 2) sc_below.nd rfl (Or.inl rfl)) (pgs_cons (pg_name (i := 3) sc_below.nd rfl (Or.inl rfl)) pgs_nil))) (pgs_cons (pg_tup rfl (pgs_cons (pg_name (i := 4) sc_below.nd rfl (Or.inl rfl)) (pgs_cons (pg_name (i := 5) sc_below.nd rfl (Or.inl rfl)) pgs_nil))) pgs_nil))))
  (pss_one (ps_ret (pe_cmpR op_lt (pe_op op_mulW (pv 2) (pv 5)) (pe_op op_mulW (pv 4) (pv 3)) (nomark _))))), ?_⟩
    refine ⟨_, rfl, v, p, rfl, hp, fun t H1 s1 ht => ?_⟩
    refine ⟨_, rfl, u, q, rfl, hq.mono s1.n, fun t2 H2 s2 ht2 => ?_⟩
    refine ⟨sz2, fun t3 n3 => ?_⟩
    have s3 := Same.of_new (o := .tup [.ref t, .ref t2]) n3
    refine ⟨t3, _, rfl, SqT.of upd_same, rfl, _, _, rfl, ⟨t, _, rfl, SqT.of (s3 _ _ (s2 _ _ ht)), rfl, _, _, rfl, _, _, rfl, rfl, ?_⟩⟩
    refine ⟨_, _, rfl, ⟨t2, _, rfl, SqT.of (s3 _ _ ht2), rfl, _, _, rfl, _, _, rfl, rfl, rfl, ?_⟩⟩
    refine ⟨_, rfl, _, rfl, _, _, rfl, rfl, zp.nd zq, _, rfl, _, rfl, _, _, rfl, rfl, zq.nd zp, _, _, rfl, rfl, ?_⟩
    have e : decide (p.num * (q.den : Int) < q.num * (p.den : Int)) = decide (p < q) := by rw [decide_eq_decide]; exact (Rat.lt_iff p q).symm
    dsimp only
    rw [e]
    exact k _ ((s1.trans s2).trans s3)
def sp_greater  : Sp :=  fun vs H Q _ => ∃ v u p q, vs = [v, u] ∧ Num H v p ∧ Num H u q ∧ Sz p ∧ Sz q ∧ ∀ x H', Same H H' → Num H' x (rmax p q) → Q x H'
theorem sc_greater : FnScope ["one", "other"] ["one", "other"] (defScope s_greater) := ⟨rfl, rfl, rfl, by decide +kernel, rfl, by decide +kernel, by decide +kernel⟩
theorem c_greater (T : Wd K mg base) : Cal P w K mg base 3 "greater" sp_greater [] := by
  obtain ⟨fd, F⟩ := T.d_greater
  refine mkCal (k := 3 - 1) F T.g_greater sc_greater (F.bindsN fun _ _ _ _ _ _ us hl => match us, hl with | [_, _], _ => rfl) (fun vs H Q E h => ?_) (fun cdv A outer s H vs Q E hr h => ?_)
  · rcases h with ⟨v, u, p, q, rfl, hp, hq, zp, zq, k⟩ <;> rfl
  · rcases h with ⟨v, u, p, q, rfl, hp, hq, zp, zq, k⟩
    refine ⟨_, (pss_one (ps_ret (pe_ifExp (pt_val (pe_c (c_below T) hr (by decide) rfl (pa_cons (pv 0) (pa_cons (pv 1) pa_nil)))) (pv 1) (pv 0)))), ?_⟩
    refine ⟨_, rfl, _, rfl, v, u, p, q, rfl, hp, hq, zp, zq, fun H1 s1 => ⟨_, rfl, ?_⟩⟩
    by_cases h : p < q
    · exact itt (dt h) ⟨_, rfl, k _ _ s1 (by rw [rmax, if_pos h]; exact hq.mono s1.n)⟩
    · exact itf (df h) ⟨_, rfl, k _ _ s1 (by rw [rmax, if_neg h]; exact hp.mono s1.n)⟩
def sp_sign_in  : Sp :=  fun vs H Q _ => ∃ v p, vs = [v] ∧ Num H v p ∧ ∀ H', Same H H' → Q (.int ((if 0 < p.num then 1 else 0) - (if p.num < 0 then 1 else 0))) H'
theorem sc_sign_in : FnScope ["number", "above"] ["number"] (defScope s_sign_in) := ⟨rfl, rfl, rfl, by decide +kernel, rfl, by decide +kernel, by decide +kernel⟩
theorem c_sign_in (T : Wd K mg base) : Cal P w K mg base 2 "sign_in" sp_sign_in [] := by
  obtain ⟨fd, F⟩ := T.d_sign_in
  refine mkCal (k := 2 - 1) F T.g_sign_in sc_sign_in (F.bindsN fun _ _ _ _ _ _ us hl => match us, hl with | [_], _ => rfl) (fun vs H Q E h => ?_) (fun cdv A outer s H vs Q E hr h => ?_)
  · rcases h with ⟨v, p, rfl, hp, k⟩ <;> rfl
  · rcases h with ⟨v, p, rfl, hp, k⟩
    refine ⟨_, (pss_cons (ps_set (i := 1) sc_sign_in.nd rfl (Or.inl rfl) (pe_ix ix_seq (pe_c (c_halves T) hr (by decide) rfl (pa_cons (pv 0) pa_nil)) pe_int (fun _ _ => rfl)))
  (pss_one (ps_ret (pe_op op_sub (pe_callTy call_int1 (by rfl) T.f_int (by decide +kernel) (pa_cons (pe_cmpR op_gt (pv 1) pe_int (nomark _)) pa_nil)) (pe_callTy call_int1 (by rfl) T.f_int (by decide +kernel) (pa_cons (pe_cmpR op_lt (pv 1) pe_int (nomark _)) pa_nil)))))), ?_⟩
    refine ⟨_, rfl, v, p, rfl, hp, fun t H1 s1 ht => ?_⟩
    refine .inr (.inl ⟨t, _, 0, _, rfl, rfl, SqT.of ht, rfl, ?_⟩)
    refine ⟨_, rfl, _, _, rfl, rfl, .inr ⟨_, rfl, ?_⟩⟩
    refine ⟨_, rfl, _, _, rfl, rfl, .inr ⟨_, rfl, ?_⟩⟩
    refine ⟨_, _, rfl, rfl, ?_⟩
    have e : ((if decide (0 < p.num) = true then (1 : Int) else 0) - (if decide (p.num < 0) = true then 1 else 0)) = ((if 0 < p.num then 1 else 0) - (if p.num < 0 then 1 else 0)) := by simp
    dsimp only
    rw [e]
    exact k _ s1
end
end Hp
namespace Hp
set_option Elab.async false
set_option linter.all false
set_option maxRecDepth 100000
set_option maxHeartbeats 4000000
open PySem PySem.Spec PyProof.Rows L2
theorem paired_get {α β : Type} {F : α → β → Prop} {l : List α} {m : List β} (h : Paired F l m) : ∀ {i : Nat} {x : α}, l[i]? = some x → ∃ y, m[i]? = some y ∧ F x y := by
  induction h with
  | nil => intro i x h; simp at h
  | cons r t ih =>
    intro i x hx
    cases i with
    | zero => simp at hx; subst hx; exact ⟨_, rfl, r⟩
    | succ i => simpa using ih (by simpa using hx)
theorem paired_of {α β : Type} {F : α → β → Prop} : ∀ {l : List α} {m : List β}, l.length = m.length → (∀ (i : Nat) (x : α) (y : β), l[i]? = some x → m[i]? = some y → F x y) → Paired F l m
  | [], [], _, _ => .nil
  | [], _ :: _, h, _ => by simp at h
  | _ :: _, [], h, _ => by simp at h
  | a :: l, b :: m, h, f => .cons (f 0 a b rfl rfl) (paired_of (by simpa using h) fun i x y hx hy => f (i + 1) x y (by simpa using hx) (by simpa using hy))
theorem take_all {α : Type} (l : List α) : l.take l.length = l := List.take_length
/-- what a sum asks of sizes -/
def SzSum (qs : List Rat) : Prop := (∀ q ∈ qs, Sz q) ∧ ∀ k, Sz (rsum (qs.take k))
def SzProd (qs : List Rat) : Prop := (∀ q ∈ qs, Sz q) ∧ ∀ k, Sz (rprod (qs.take k))
theorem mem_get {α : Type} {l : List α} {i : Nat} {x : α} (h : l[i]? = some x) : x ∈ l := List.mem_of_getElem? h
section
variable {P : Program} {w : World} {K : PySem.W.Frag} {mg : Str → Option Value} {base : Heap}
def sp_total  : Sp :=  fun vs H Q _ => ∃ b v xs qs, vs = [v] ∧ SqK b H v xs ∧ Nums H xs qs ∧ SzSum qs ∧ ∀ x H', Same H H' → Num H' x (rsum qs) → Q x H'
theorem sc_total : FnScope ["numbers", "found", "number"] ["numbers"] (defScope s_total) := ⟨rfl, rfl, rfl, by decide +kernel, rfl, by decide +kernel, by decide +kernel⟩
theorem c_total (T : Wd K mg base) : Cal P w K mg base 4 "total" sp_total [] := by
  obtain ⟨fd, F⟩ := T.d_total
  refine mkCal (k := 4 - 1) F T.g_total sc_total (F.bindsN fun _ _ _ _ _ _ us hl => match us, hl with | [_], _ => rfl) (fun vs H Q E h => ?_) (fun cdv A outer s H vs Q E hr h => ?_)
  · rcases h with ⟨b, v, xs, qs, rfl, sq, hn, sz, k⟩ <;> rfl
  · rcases h with ⟨b, v, xs, qs, rfl, sq, hn, sz, k⟩
    refine ⟨_, (pss_cons (ps_set (i := 1) sc_total.nd rfl (Or.inl rfl) pe_int)
  (pss_cons (ps_for PassesOwn.never rfl (pi_seq (pv 0)) (pg_name (i := 2) sc_total.nd rfl (Or.inl rfl))
  (pss_one (ps_set (i := 1) sc_total.nd rfl (Or.inl rfl) (pe_c (c_added T) hr (by decide) rfl (pa_cons (pv 1) (pa_cons (pv 2) pa_nil))))))
  (pss_one (ps_ret (pv 1))))), ?_⟩
    refine for_seq (gives_var rfl) sq (fun i σ' H' => ∃ x y, σ' = [some v, some x, y] ∧ Same H H' ∧ Num H' x (rsum (qs.take i))) ⟨_, _, rfl, Same.refl _, Num.int H 0⟩ (fun i σ' H' _ ⟨_, _, _, s, _⟩ => sq.same s) ?_ ?_
    · rintro i x σ' H' hx ⟨y, z, rfl, s1, hy⟩
      obtain ⟨q, hq, hxq⟩ := paired_get hn hx
      refine ⟨_, rfl, _, rfl, _, _, _, _, rfl, hy, hxq.mono s1.n, sz.2 i, sz.1 q (mem_get hq), fun y2 H2 s2 hy2 => ⟨_, _, rfl, s1.trans s2, ?_⟩⟩
      rw [rsum_take hq]; exact hy2
    · rintro σ' H' ⟨y, z, rfl, s1, hy⟩
      refine ⟨_, rfl, k _ _ s1 ?_⟩
      rw [hn.length, take_all] at hy; exact hy
def sp_multiplied  : Sp :=  fun vs H Q _ => ∃ b v xs qs, vs = [v] ∧ SqK b H v xs ∧ Nums H xs qs ∧ SzProd qs ∧ ∀ x H', Same H H' → Num H' x (rprod qs) → Q x H'
theorem sc_multiplied : FnScope ["numbers", "found", "number"] ["numbers"] (defScope s_multiplied) := ⟨rfl, rfl, rfl, by decide +kernel, rfl, by decide +kernel, by decide +kernel⟩
theorem c_multiplied (T : Wd K mg base) : Cal P w K mg base 4 "multiplied" sp_multiplied [] := by
  obtain ⟨fd, F⟩ := T.d_multiplied
  refine mkCal (k := 4 - 1) F T.g_multiplied sc_multiplied (F.bindsN fun _ _ _ _ _ _ us hl => match us, hl with | [_], _ => rfl) (fun vs H Q E h => ?_) (fun cdv A outer s H vs Q E hr h => ?_)
  · rcases h with ⟨b, v, xs, qs, rfl, sq, hn, sz, k⟩ <;> rfl
  · rcases h with ⟨b, v, xs, qs, rfl, sq, hn, sz, k⟩
    refine ⟨_, (pss_cons (ps_set (i := 1) sc_multiplied.nd rfl (Or.inl rfl) pe_int)
  (pss_cons (ps_for PassesOwn.never rfl (pi_seq (pv 0)) (pg_name (i := 2) sc_multiplied.nd rfl (Or.inl rfl))
  (pss_one (ps_set (i := 1) sc_multiplied.nd rfl (Or.inl rfl) (pe_c (c_product T) hr (by decide) rfl (pa_cons (pv 1) (pa_cons (pv 2) pa_nil))))))
  (pss_one (ps_ret (pv 1))))), ?_⟩
    refine for_seq (gives_var rfl) sq (fun i σ' H' => ∃ x y, σ' = [some v, some x, y] ∧ Same H H' ∧ Num H' x (rprod (qs.take i))) ⟨_, _, rfl, Same.refl _, Num.int H 1⟩ (fun i σ' H' _ ⟨_, _, _, s, _⟩ => sq.same s) ?_ ?_
    · rintro i x σ' H' hx ⟨y, z, rfl, s1, hy⟩
      obtain ⟨q, hq, hxq⟩ := paired_get hn hx
      refine ⟨_, rfl, _, rfl, _, _, _, _, rfl, hy, hxq.mono s1.n, sz.2 i, sz.1 q (mem_get hq), fun y2 H2 s2 hy2 => ⟨_, _, rfl, s1.trans s2, ?_⟩⟩
      rw [rprod_take hq]; exact hy2
    · rintro σ' H' ⟨y, z, rfl, s1, hy⟩
      refine ⟨_, rfl, k _ _ s1 ?_⟩
      rw [hn.length, take_all] at hy; exact hy
/-- the products of two rows -/
def rmul (a b : List Rat) : List Rat := (a.zip b).map fun p => p.1 * p.2
theorem rmul_get {a b : List Rat} {i : Nat} {x y : Rat} (h1 : a[i]? = some x) (h2 : b[i]? = some y) : (rmul a b)[i]? = some (x * y) := by
  simp only [rmul, List.getElem?_map, (List.getElem?_zip_eq_some (l₁ := a) (l₂ := b) (z := (x, y))).mpr ⟨h1, h2⟩, Option.map_some]
theorem rmul_len (a b : List Rat) : (rmul a b).length = min a.length b.length := by simp [rmul]
def rdot (a b : List Rat) : Rat := rsum (rmul a b)
def sp_summed  : Sp :=  fun vs H Q _ => ∃ b c v u xs ys ps qs, vs = [v, u] ∧ SqK b H v xs ∧ SqK c H u ys ∧ Nums H xs ps ∧ Nums H ys qs ∧ xs.length ≤ 100000 ∧ (∀ q ∈ ps, Sz q) ∧ (∀ q ∈ qs, Sz q) ∧ SzSum (rmul ps qs) ∧ ∀ x H', Same H H' → Num H' x (rdot ps qs) → Q x H'
theorem sc_summed : FnScope ["row", "other", "one", "its"] ["row", "other"] (defScope s_summed) := ⟨rfl, rfl, rfl, by decide +kernel, rfl, by decide +kernel, by decide +kernel⟩
theorem c_summed (T : Wd K mg base) : Cal P w K mg base 5 "summed" sp_summed [] := by
  obtain ⟨fd, F⟩ := T.d_summed
  refine mkCal (k := 5 - 1) F T.g_summed sc_summed (F.bindsN fun _ _ _ _ _ _ us hl => match us, hl with | [_, _], _ => rfl) (fun vs H Q E h => ?_) (fun cdv A outer s H vs Q E hr h => ?_)
  · rcases h with ⟨b, c, v, u, xs, ys, ps, qs, rfl, sx, sy, hx, hy, hl, zp, zq, sz, k⟩ <;> rfl
  · rcases h with ⟨b, c, v, u, xs, ys, ps, qs, rfl, sx, sy, hx, hy, hl, zp, zq, sz, k⟩
    refine ⟨_, (pss_one (ps_ret (pe_c (c_total T) hr (by decide) rfl (pa_cons (pe_lc (own := [("one", 2), ("its", 3)]) rfl sc_summed.nd (pi_zipS (by rfl) T.f_zip (pa_cons (pv 0) (pa_cons (pv 1) pa_nil))) (blkOk_by (own := [("one", 2), ("its", 3)]) (N := ["row", "other", "one", "its"]) (sc := defScope s_summed) (by decide +kernel)) (fun _ _ _ _ _ => by exact (by refine pg_pair (K := K) (i := 2) (j := 3) ?_ ?_ ?_ ?_ ?_ ?_ ?_ <;> first | exact sc_summed.nd | rfl)) (fun _ _ _ _ _ => by exact pts_nil) (fun _ _ _ _ _ => by exact (pe_c (c_product T) hr (by decide) rfl (pa_cons (pv 2) (pa_cons (pv 3) pa_nil))))) pa_nil)))), ?_⟩
    refine u_ret (u_call1 ?_)
    refine lc_zip (H1 := H) ?_ ?_ sx sy hl (fun D i H' z => ∀ p q, ps[i]? = some p → qs[i]? = some q → Num H' z (p * q)) (fun D i H1 H2 z c h p q h1 h2 => (h p q h1 h2).mono c.n) ?_ ?_ (fun _ _ => rfl)
    · exact gives_var rfl
    · exact gives_var rfl
    · intro D i x y H' R h1 h2 hD s1 hDn hR
      obtain ⟨p, hp, hxp⟩ := paired_get hx h1
      obtain ⟨q, hq, hyq⟩ := paired_get hy h2
      refine ⟨_, rfl, _, rfl, _, _, _, _, rfl, hxp.mono s1.n, hyq.mono s1.n, zp p (mem_get hp), zq q (mem_get hq), fun z H4 s4 hz => hR z H4 s4 fun p' q' h3 h4 => ?_⟩
      rw [hp] at h3; rw [hq] at h4; cases h3; cases h4; exact hz
    · intro D H' zs hD s1 hDz hl2 hF
      refine ⟨true, _, zs, rmul ps qs, rfl, SqK.lst hDz, paired_of (by rw [rmul_len, hl2, hx.length, hy.length]) fun i z r hz hr => ?_, sz, fun x H2 s2 hx2 => k x H2 (s1.trans s2) hx2⟩
      have hi : i < min ps.length qs.length := by
        have := (List.getElem?_eq_some_iff.mp hr).1
        rw [rmul_len] at this; exact this
      have e1 : ps[i]? = some (ps[i]'(by omega)) := by simp
      have e2 : qs[i]? = some (qs[i]'(by omega)) := by simp
      rw [rmul_get e1 e2] at hr; cases hr
      exact hF i z hz _ _ e1 e2
def sp_is_number  : Sp :=  fun vs H Q _ => ∃ v q, vs = [v] ∧ Num H v q ∧ ∀ H', Same H H' → Q (.bl true) H'
theorem sc_is_number : FnScope ["value"] ["value"] (defScope s_is_number) := ⟨rfl, rfl, rfl, by decide +kernel, rfl, by decide +kernel, by decide +kernel⟩
theorem c_is_number (T : Wd K mg base) : Cal P w K mg base 3 "is_number" sp_is_number [] := by
  obtain ⟨fd, F⟩ := T.d_is_number
  refine mkCal (k := 3 - 1) F T.g_is_number sc_is_number (F.bindsN fun _ _ _ _ _ _ us hl => match us, hl with | [_], _ => rfl) (fun vs H Q E h => ?_) (fun cdv A outer s H vs Q E hr h => ?_)
  · rcases h with ⟨v, q, rfl, hq, k⟩ <;> rfl
  · rcases h with ⟨v, q, rfl, hq, k⟩
    refine ⟨_, (pss_cons (ps_if (pt_val (pe_c (c_is_integer T) hr (by decide) rfl (pa_cons (pv 0) pa_nil))) (pss_one (ps_ret pe_bl)) pss_nil)
  (pss_cons (ps_if (PW.pt (pw_or (pt_not (pt_val (pe_c (c_is_list T) hr (by decide) rfl (pa_cons (pv 0) pa_nil)))) (pw_or (pt_cmpR op_ne (pe_callB call_len_seq (by rfl) T.f_len (by decide +kernel) (pa_cons (pv 0) pa_nil)) pe_int (nomark _)) (pw_or1 (pt_not (pt_val (pe_c (c_is_integer T) hr (by decide) rfl (pa_cons (pe_ix ix_seq (pv 0) pe_int (fun _ _ => rfl)) pa_nil)))))))) (pss_one (ps_ret pe_bl)) pss_nil)
  (pss_one (ps_ret (pe_and (pe_c (c_is_within T) hr (by decide) rfl (pa_cons (pe_ix ix_seq (pv 0) pe_int (fun _ _ => rfl)) (pa_cons pe_int (pa_cons pe_non pa_nil)))) (pe_one (pe_cmpR op_eq (pe_c (c_common T) hr (by decide) rfl (pa_cons (pe_ix ix_seq (pv 0) pe_int (fun _ _ => rfl)) (pa_cons (pe_ix ix_seq (pv 0) pe_int (fun _ _ => rfl)) pa_nil))) pe_int (nomark _)))))))), ?_⟩
    rcases hq with ⟨h1, rfl⟩ | ⟨h1, p, rfl, hp⟩
    · refine ⟨_, rfl, .inl ⟨_, rfl, _, rfl, iteT (k _ (Same.refl _))⟩⟩
    · obtain ⟨h2, hg⟩ := one_form h1
      refine ⟨_, rfl, .inr ⟨_, _, rfl, hp, _, rfl, iteF ?_⟩⟩
      refine ⟨_, rfl, .inr ⟨_, _, rfl, .inl hp, fun H1 s1 => ⟨_, rfl, iteF ?_⟩⟩⟩
      have hp1 := s1 _ _ hp
      refine ⟨_, rfl, _, _, rfl, .inr (SqT.of hp1), rfl, _, rfl, iteF ?_⟩
      refine ⟨_, rfl, .inr (.inl ⟨p, _, 0, _, rfl, rfl, SqT.of hp1, rfl, ?_⟩)⟩
      refine .inl ⟨_, rfl, _, rfl, iteF ?_⟩
      refine ⟨_, rfl, .inr (.inl ⟨p, _, 1, _, rfl, rfl, SqT.of hp1, rfl, ?_⟩)⟩
      refine ⟨_, some 2, none, rfl, _, rfl, ?_⟩
      refine itt (by simp [inR]; omega) ?_
      refine ⟨_, rfl, .inr (.inl ⟨p, _, 0, _, rfl, rfl, SqT.of hp1, rfl, ?_⟩)⟩
      refine ⟨_, rfl, .inr (.inl ⟨p, _, 1, _, rfl, rfl, SqT.of hp1, rfl, ?_⟩)⟩
      refine ⟨_, _, rfl, rfl, ?_⟩
      have e : decide (V.int (Int.gcd q.num (q.den : Int) : Int) = V.int 1) = true := decide_eq_true (by rw [hg]; rfl)
      dsimp only
      rw [e]
      exact k _ s1
def sp_above_in  : Sp :=  fun vs H Q _ => ∃ v q, vs = [v] ∧ Num H v q ∧ ∀ H', Same H H' → Q (.int q.num) H'
theorem sc_above_in : FnScope ["number"] ["number"] (defScope s_above_in) := ⟨rfl, rfl, rfl, by decide +kernel, rfl, by decide +kernel, by decide +kernel⟩
theorem c_above_in (T : Wd K mg base) : Cal P w K mg base 2 "above_in" sp_above_in [] := by
  obtain ⟨fd, F⟩ := T.d_above_in
  refine mkCal (k := 2 - 1) F T.g_above_in sc_above_in (F.bindsN fun _ _ _ _ _ _ us hl => match us, hl with | [_], _ => rfl) (fun vs H Q E h => ?_) (fun cdv A outer s H vs Q E hr h => ?_)
  · rcases h with ⟨v, q, rfl, hq, k⟩ <;> rfl
  · rcases h with ⟨v, q, rfl, hq, k⟩
    refine ⟨_, (pss_one (ps_ret (pe_ifExp (pt_val (pe_c (c_is_list T) hr (by decide) rfl (pa_cons (pv 0) pa_nil))) (pe_ix ix_seq (pv 0) pe_int (fun _ _ => rfl)) (pv 0)))), ?_⟩
    rcases hq with ⟨h1, rfl⟩ | ⟨h1, p, rfl, hp⟩
    · exact ⟨_, rfl, .inl ⟨_, rfl, fun H1 s1 => ⟨_, rfl, iteF ⟨_, rfl, k _ s1⟩⟩⟩⟩
    · refine ⟨_, rfl, .inr ⟨_, _, rfl, .inl hp, fun H1 s1 => ⟨_, rfl, iteT ?_⟩⟩⟩
      exact ⟨_, rfl, .inr (.inl ⟨p, _, 0, _, rfl, rfl, SqT.of (s1 _ _ hp), rfl, k _ s1⟩)⟩
def sp_is_from_0  : Sp :=  fun vs H Q _ => ∃ v q, vs = [v] ∧ Num H v q ∧ 0 ≤ q ∧ ∀ H', Same H H' → Q (.bl true) H'
theorem sc_is_from_0 : FnScope ["value"] ["value"] (defScope s_is_from_0) := ⟨rfl, rfl, rfl, by decide +kernel, rfl, by decide +kernel, by decide +kernel⟩
theorem c_is_from_0 (T : Wd K mg base) : Cal P w K mg base 4 "is_from_0" sp_is_from_0 [] := by
  obtain ⟨fd, F⟩ := T.d_is_from_0
  refine mkCal (k := 4 - 1) F T.g_is_from_0 sc_is_from_0 (F.bindsN fun _ _ _ _ _ _ us hl => match us, hl with | [_], _ => rfl) (fun vs H Q E h => ?_) (fun cdv A outer s H vs Q E hr h => ?_)
  · rcases h with ⟨v, q, rfl, hq, h0, k⟩ <;> rfl
  · rcases h with ⟨v, q, rfl, hq, h0, k⟩
    refine ⟨_, (pss_one (ps_ret (pe_and (pe_c (c_is_number T) hr (by decide) rfl (pa_cons (pv 0) pa_nil)) (pe_one (pe_cmpR op_ge (pe_c (c_above_in T) hr (by decide) rfl (pa_cons (pv 0) pa_nil)) pe_int (nomark _)))))), ?_⟩
    refine ⟨_, rfl, v, q, rfl, hq, fun H1 s1 => ⟨_, rfl, iteT ?_⟩⟩
    refine ⟨_, rfl, v, q, rfl, hq.mono s1.n, fun H2 s2 => ⟨_, _, rfl, rfl, ?_⟩⟩
    have e : decide ((0 : Int) ≤ q.num) = true := decide_eq_true (Rat.num_nonneg.mpr h0)
    dsimp only
    rw [e]
    exact k _ (s1.trans s2)
theorem all_true {zs : List V} (h : ∀ (j : Nat) (y : V), zs[j]? = some y → y = V.bl true) : zs = (List.replicate zs.length true).map V.bl := by
  apply List.ext_getElem?
  intro i
  by_cases hi : i < zs.length
  · have e : zs[i]? = some zs[i] := by simp
    rw [e, h i _ e]
    simp [hi]
  · rw [List.getElem?_eq_none_iff.mpr (by omega), List.getElem?_eq_none_iff.mpr (by simp; omega)]
theorem all_rep (n : Nat) : (List.replicate n true).all id = true := by simp
def sp_is_row  : Sp :=  fun vs H Q _ => ∃ b v xs qs, vs = [v, .int (xs.length : Int)] ∧ SqK b H v xs ∧ Nums H xs qs ∧ (∀ q ∈ qs, 0 ≤ q) ∧ xs.length ≤ 100000 ∧ ∀ H', Same H H' → Q (.bl true) H'
theorem sc_is_row : FnScope ["value", "many", "each"] ["value", "many"] (defScope s_is_row) := ⟨rfl, rfl, rfl, by decide +kernel, rfl, by decide +kernel, by decide +kernel⟩
theorem c_is_row (T : Wd K mg base) : Cal P w K mg base 5 "is_row" sp_is_row [] := by
  obtain ⟨fd, F⟩ := T.d_is_row
  refine mkCal (k := 5 - 1) F T.g_is_row sc_is_row (F.bindsN fun _ _ _ _ _ _ us hl => match us, hl with | [_, _], _ => rfl) (fun vs H Q E h => ?_) (fun cdv A outer s H vs Q E hr h => ?_)
  · rcases h with ⟨b, v, xs, qs, rfl, sq, hn, h0, hl, k⟩ <;> rfl
  · rcases h with ⟨b, v, xs, qs, rfl, sq, hn, h0, hl, k⟩
    refine ⟨_, (pss_one (ps_ret (pe_and (pe_c (c_is_list T) hr (by decide) rfl (pa_cons (pv 0) pa_nil)) (pe_and (pe_cmpR op_eq (pe_callB call_len_seq (by rfl) T.f_len (by decide +kernel) (pa_cons (pv 0) pa_nil)) (pv 1) (nomark _)) (pe_one (pe_callB (cr_all rfl) (by rfl) T.f_all (by decide +kernel) (pa_cons (pe_lc (own := [("each", 2)]) rfl sc_is_row.nd (pi_seq (pv 0)) (blkOk_by (own := [("each", 2)]) (N := ["value", "many", "each"]) (sc := defScope s_is_row) (by decide +kernel)) (fun _ _ _ _ _ => by exact (pg_name (i := 2) sc_is_row.nd rfl (by first | exact Or.inl rfl | exact Or.inr rfl))) (fun _ _ _ _ _ => by exact pts_nil) (fun _ _ _ _ _ => by exact (pe_c (c_is_from_0 T) hr (by decide) rfl (pa_cons (pv 2) pa_nil)))) pa_nil))))))), ?_⟩
    obtain ⟨p, rfl, hp⟩ := id sq
    have hk : H p = some (.tup xs) ∨ H p = some (.lst xs) := by cases b; exact .inl hp; exact .inr hp
    refine ⟨_, rfl, .inr ⟨_, _, rfl, hk, fun H1 s1 => ⟨_, rfl, iteT ?_⟩⟩⟩
    have hk1 : SqL K H1 p xs ∨ SqT K H1 p xs := hk.elim (fun z => .inr (SqT.of (s1 _ _ z))) fun z => .inl (SqL.of (s1 _ _ z))
    refine ⟨_, rfl, _, _, rfl, hk1, _, rfl, rfl, ?_⟩
    refine ⟨_, rfl, itt (dt rfl) ?_⟩
    refine u_cb1 ?_
    refine lc_seq ?_ (sq.same s1) hl (fun D i H' z => z = .bl true) (fun _ _ _ _ _ _ h => h) ?_ ?_ (fun _ => rfl)
    · exact gives_var rfl
    · intro D i x H' R hx hD s2 hDn hR
      obtain ⟨q, hq, hxq⟩ := paired_get hn hx
      exact ⟨_, rfl, x, q, rfl, hxq.mono (s1.trans s2).n, h0 q (mem_get hq), fun H4 s4 => hR _ H4 s4 rfl⟩
    · intro D H' zs hD s2 hDz hl2 hF
      rw [all_true hF] at hDz
      refine ⟨_, _, rfl, SqL.of hDz, ?_⟩
      rw [all_rep]
      exact k _ (s1.trans s2)
def sp_is_word_of  : Sp :=  fun vs H Q _ => ∃ (b : Bool) (v : V) (ns : List Int) (g : Int), vs = [v, .int g] ∧ SqK b H v (ns.map V.int) ∧ (∀ n ∈ ns, 0 ≤ n ∧ n < g) ∧ ns.length ≤ 100000 ∧ ∀ H', Same H H' → Q (.bl true) H'
theorem sc_is_word_of : FnScope ["value", "goods", "good"] ["value", "goods"] (defScope s_is_word_of) := ⟨rfl, rfl, rfl, by decide +kernel, rfl, by decide +kernel, by decide +kernel⟩
theorem c_is_word_of (T : Wd K mg base) : Cal P w K mg base 3 "is_word_of" sp_is_word_of [] := by
  obtain ⟨fd, F⟩ := T.d_is_word_of
  refine mkCal (k := 3 - 1) F T.g_is_word_of sc_is_word_of (F.bindsN fun _ _ _ _ _ _ us hl => match us, hl with | [_, _], _ => rfl) (fun vs H Q E h => ?_) (fun cdv A outer s H vs Q E hr h => ?_)
  · rcases h with ⟨b, v, ns, g, rfl, sq, h0, hl, k⟩ <;> rfl
  · rcases h with ⟨b, v, ns, g, rfl, sq, h0, hl, k⟩
    refine ⟨_, (pss_one (ps_ret (pe_and (pe_c (c_is_list T) hr (by decide) rfl (pa_cons (pv 0) pa_nil)) (pe_one (pe_callB (cr_all rfl) (by rfl) T.f_all (by decide +kernel) (pa_cons (pe_lc (own := [("good", 2)]) rfl sc_is_word_of.nd (pi_seq (pv 0)) (blkOk_by (own := [("good", 2)]) (N := ["value", "goods", "good"]) (sc := defScope s_is_word_of) (by decide +kernel)) (fun _ _ _ _ _ => by exact (pg_name (i := 2) sc_is_word_of.nd rfl (by first | exact Or.inl rfl | exact Or.inr rfl))) (fun _ _ _ _ _ => by exact pts_nil) (fun _ _ _ _ _ => by exact (pe_c (c_is_within T) hr (by decide) rfl (pa_cons (pv 2) (pa_cons pe_int (pa_cons (pe_op op_sub (pv 1) pe_int) pa_nil)))))) pa_nil)))))), ?_⟩
    obtain ⟨p, rfl, hp⟩ := id sq
    have hk : H p = some (.tup (ns.map V.int)) ∨ H p = some (.lst (ns.map V.int)) := by cases b; exact .inl hp; exact .inr hp
    refine ⟨_, rfl, .inr ⟨_, _, rfl, hk, fun H1 s1 => ⟨_, rfl, iteT ?_⟩⟩⟩
    refine u_cb1 ?_
    refine lc_seq ?_ (sq.same s1) (by rw [List.length_map]; exact hl) (fun D i H' z => z = .bl true) (fun _ _ _ _ _ _ h => h) ?_ ?_ (fun _ => rfl)
    · exact gives_var rfl
    · intro D i x H' R hx hD s2 hDn hR
      rw [List.getElem?_map] at hx
      obtain ⟨n, hn, rfl⟩ := Option.map_eq_some_iff.mp hx
      have hb := h0 n (mem_get hn)
      refine ⟨_, rfl, _, rfl, _, _, rfl, rfl, n, some 0, some (g - 1), rfl, hR _ _ (Same.refl _) ?_⟩
      have e : inR n (some 0) (some (g - 1)) = true := by simp [inR]; omega
      rw [e]
    · intro D H' zs hD s2 hDz hl2 hF
      rw [all_true hF] at hDz
      refine ⟨_, _, rfl, SqL.of hDz, ?_⟩
      rw [all_rep]
      exact k _ (s1.trans s2)
def sp_kept  : Sp :=  fun vs H Q _ => ∃ v q, vs = [v] ∧ Num H v q ∧ ∀ H', Same H H' → Q v H'
theorem sc_kept : FnScope ["number"] ["number"] (defScope s_kept) := ⟨rfl, rfl, rfl, by decide +kernel, rfl, by decide +kernel, by decide +kernel⟩
theorem c_kept (T : Wd K mg base) : Cal P w K mg base 1 "kept" sp_kept [] := by
  obtain ⟨fd, F⟩ := T.d_kept
  refine mkCal (k := 1 - 1) F T.g_kept sc_kept (F.bindsN fun _ _ _ _ _ _ us hl => match us, hl with | [_], _ => rfl) (fun vs H Q E h => ?_) (fun cdv A outer s H vs Q E hr h => ?_)
  · rcases h with ⟨v, q, rfl, hq, k⟩ <;> rfl
  · rcases h with ⟨v, q, rfl, hq, k⟩
    refine ⟨_, (pss_one (ps_ret (pe_ifExp (pt_val (pe_callB call_isiT (by rfl) T.f_isinstance (by decide +kernel) (pa_cons (pv 0) (pa_cons (pe_tup (pa_cons (pe_bltn (v := .ty "list") (by rfl) T.f_list (by decide +kernel) rfl) (pa_cons (pe_bltn (v := .ty "tuple") (by rfl) T.f_tuple (by decide +kernel) rfl) pa_nil))) pa_nil)))) (pe_callTy call_tuple_of (by rfl) T.f_tuple (by decide +kernel) (pa_cons (pv 0) pa_nil)) (pv 0)))), ?_⟩
    rcases hq with ⟨h1, rfl⟩ | ⟨h1, p, rfl, hp⟩
    · refine ⟨_, rfl, sz2, fun t nt => ?_⟩
      refine ⟨_, t, _, _, _, false, rfl, upd_same, .cons (.ty _) (.cons (.ty _) .nil), .base (.int _), ?_, _, rfl, iteF ⟨_, rfl, k _ (Same.of_new nt)⟩⟩
      exact kitAny_cons (kt (a := "int") (b := "list") (r := false) (by decide +kernel)) (fun _ => kitAny_cons (kt (a := "int") (b := "tuple") (r := false) (by decide +kernel)) (fun _ => kitAny_nil) (fun z => nomatch z)) (fun z => nomatch z)
    · refine ⟨_, rfl, sz2, fun t nt => ?_⟩
      have hp1 := Same.of_new (o := .tup [.ty "list", .ty "tuple"]) nt _ _ hp
      refine ⟨_, t, _, _, _, true, rfl, upd_same, .cons (.ty _) (.cons (.ty _) .nil), .base (.tup hp1), ?_, _, rfl, iteT ⟨_, rfl, _, _, rfl, .inr ⟨SqT.of hp1, k _ (Same.of_new nt)⟩⟩⟩
      exact kitAny_cons (kt (a := "tuple") (b := "list") (r := false) (by decide +kernel)) (fun _ => kitAny_cons (kt (a := "tuple") (b := "tuple") (r := true) (by decide +kernel)) (fun z => nomatch z) (fun _ => rfl)) (fun z => nomatch z)
def sp_kept_row  : Sp :=  fun vs H Q _ => ∃ b v xs qs, vs = [v] ∧ SqK b H v xs ∧ Nums H xs qs ∧ xs.length ≤ 100000 ∧ ∀ p H', Same H H' → H p = none → H' p = some (.tup xs) → Q (.ref p) H'
theorem sc_kept_row : FnScope ["row", "each"] ["row"] (defScope s_kept_row) := ⟨rfl, rfl, rfl, by decide +kernel, rfl, by decide +kernel, by decide +kernel⟩
theorem c_kept_row (T : Wd K mg base) : Cal P w K mg base 2 "kept_row" sp_kept_row [] := by
  obtain ⟨fd, F⟩ := T.d_kept_row
  refine mkCal (k := 2 - 1) F T.g_kept_row sc_kept_row (F.bindsN fun _ _ _ _ _ _ us hl => match us, hl with | [_], _ => rfl) (fun vs H Q E h => ?_) (fun cdv A outer s H vs Q E hr h => ?_)
  · rcases h with ⟨b, v, xs, qs, rfl, sq, hn, hl, k⟩ <;> rfl
  · rcases h with ⟨b, v, xs, qs, rfl, sq, hn, hl, k⟩
    refine ⟨_, (pss_one (ps_ret (pe_callTy call_tuple_of (by rfl) T.f_tuple (by decide +kernel) (pa_cons (pe_lc (own := [("each", 1)]) rfl sc_kept_row.nd (pi_seq (pv 0)) (blkOk_by (own := [("each", 1)]) (N := ["row", "each"]) (sc := defScope s_kept_row) (by decide +kernel)) (fun _ _ _ _ _ => by exact (pg_name (i := 1) sc_kept_row.nd rfl (by first | exact Or.inl rfl | exact Or.inr rfl))) (fun _ _ _ _ _ => by exact pts_nil) (fun _ _ _ _ _ => by exact (pe_c (c_kept T) hr (by decide) rfl (pa_cons (pv 1) pa_nil)))) pa_nil)))), ?_⟩
    refine u_ret (u_cb1 ?_)
    refine lc_seq ?_ sq hl (fun D i H' z => xs[i]? = some z) (fun _ _ _ _ _ _ h => h) ?_ ?_ (fun _ => rfl)
    · exact gives_var rfl
    · intro D i x H' R hx hD s2 hDn hR
      obtain ⟨q, hq, hxq⟩ := paired_get hn hx
      exact ⟨_, rfl, x, q, rfl, hxq.mono s2.n, fun H4 s4 => hR _ H4 s4 hx⟩
    · intro D H' zs hD s2 hDz hl2 hF
      have e : zs = xs := by
        apply List.ext_getElem?
        intro i
        by_cases hi : i < zs.length
        · have e : zs[i]? = some zs[i] := by simp
          rw [e]; exact (hF i _ e).symm
        · rw [List.getElem?_eq_none_iff.mpr (by omega), List.getElem?_eq_none_iff.mpr (by omega)]
      subst e
      exact ⟨_, _, rfl, .inl ⟨SqL.of hDz, fun t nt => k t _ (s2.trans (Same.of_new nt)) (s2.free nt) upd_same⟩⟩
def sp_need_integer  : Sp :=  fun vs H Q _ => ∃ (i : Int) (z : Str) (lo hi : Option Int), vs = [.int i, .str z, oV lo, oV hi] ∧ inR i lo hi = true ∧ Q .non H
theorem sc_need_integer : FnScope ["value", "part", "least", "most"] ["value", "part", "least", "most"] (defScope s_need_integer) := ⟨rfl, rfl, rfl, by decide +kernel, rfl, by decide +kernel, by decide +kernel⟩
theorem c_need_integer (T : Wd K mg base) : Cal P w K mg base 3 "need_integer" sp_need_integer [] := by
  obtain ⟨fd, F⟩ := T.d_need_integer
  refine mkCal (k := 3 - 1) F T.g_need_integer sc_need_integer (F.bindsN fun _ _ _ _ _ _ us hl => match us, hl with | [_, _, _, _], _ => rfl) (fun vs H Q E h => ?_) (fun cdv A outer s H vs Q E hr h => ?_)
  · rcases h with ⟨i, z, lo, hi, rfl, h, k⟩ <;> rfl
  · rcases h with ⟨i, z, lo, hi, rfl, h, k⟩
    refine ⟨_, (pss_one (ps_if (pt_not (pt_val (pe_c (c_is_within T) hr (by decide) rfl (pa_cons (pv 0) (pa_cons (pv 2) (pa_cons (pv 3) pa_nil)))))) pss_never pss_nil)), ?_⟩
    refine ⟨_, rfl, _, rfl, _, rfl, i, lo, hi, rfl, _, rfl, ?_⟩
    rw [h]
    exact iteF k
def sp_need_goods  : Sp :=  fun vs H Q _ => ∃ (i : Int), vs = [.int i] ∧ 1 ≤ i ∧ i ≤ 5 ∧ Q .non H
theorem sc_need_goods : FnScope ["value"] ["value"] (defScope s_need_goods) := ⟨rfl, rfl, rfl, by decide +kernel, rfl, by decide +kernel, by decide +kernel⟩
theorem c_need_goods (T : Wd K mg base) : Cal P w K mg base 4 "need_goods" sp_need_goods [] := by
  obtain ⟨fd, F⟩ := T.d_need_goods
  refine mkCal (k := 4 - 1) F T.g_need_goods sc_need_goods (F.bindsN fun _ _ _ _ _ _ us hl => match us, hl with | [_], _ => rfl) (fun vs H Q E h => ?_) (fun cdv A outer s H vs Q E hr h => ?_)
  · rcases h with ⟨i, rfl, h1, h2, k⟩ <;> rfl
  · rcases h with ⟨i, rfl, h1, h2, k⟩
    refine ⟨_, (pss_one (ps_expr (pe_c (c_need_integer T) hr (by decide) rfl (pa_cons (pv 0) (pa_cons pe_str (pa_cons pe_int (pa_cons (pe_gc rfl T.most_goods) pa_nil))))))), ?_⟩
    exact ⟨_, rfl, i, _, some 1, some 5, rfl, by simp [inR]; omega, k⟩
def sp_need_days  : Sp :=  fun vs H Q _ => ∃ (i : Int), vs = [.int i] ∧ 0 ≤ i ∧ i ≤ 1000 ∧ Q .non H
theorem sc_need_days : FnScope ["value"] ["value"] (defScope s_need_days) := ⟨rfl, rfl, rfl, by decide +kernel, rfl, by decide +kernel, by decide +kernel⟩
theorem c_need_days (T : Wd K mg base) : Cal P w K mg base 4 "need_days" sp_need_days [] := by
  obtain ⟨fd, F⟩ := T.d_need_days
  refine mkCal (k := 4 - 1) F T.g_need_days sc_need_days (F.bindsN fun _ _ _ _ _ _ us hl => match us, hl with | [_], _ => rfl) (fun vs H Q E h => ?_) (fun cdv A outer s H vs Q E hr h => ?_)
  · rcases h with ⟨i, rfl, h1, h2, k⟩ <;> rfl
  · rcases h with ⟨i, rfl, h1, h2, k⟩
    refine ⟨_, (pss_one (ps_expr (pe_c (c_need_integer T) hr (by decide) rfl (pa_cons (pv 0) (pa_cons pe_str (pa_cons pe_int (pa_cons (pe_gc rfl T.most_days) pa_nil))))))), ?_⟩
    exact ⟨_, rfl, i, _, some 0, some 1000, rfl, by simp [inR]; omega, k⟩
def sp_need_from_0  : Sp :=  fun vs H Q _ => ∃ v q z, vs = [v, .str z] ∧ Num H v q ∧ 0 ≤ q ∧ ∀ H', Same H H' → Q v H'
theorem sc_need_from_0 : FnScope ["value", "part"] ["value", "part"] (defScope s_need_from_0) := ⟨rfl, rfl, rfl, by decide +kernel, rfl, by decide +kernel, by decide +kernel⟩
theorem c_need_from_0 (T : Wd K mg base) : Cal P w K mg base 5 "need_from_0" sp_need_from_0 [] := by
  obtain ⟨fd, F⟩ := T.d_need_from_0
  refine mkCal (k := 5 - 1) F T.g_need_from_0 sc_need_from_0 (F.bindsN fun _ _ _ _ _ _ us hl => match us, hl with | [_, _], _ => rfl) (fun vs H Q E h => ?_) (fun cdv A outer s H vs Q E hr h => ?_)
  · rcases h with ⟨v, q, z, rfl, hq, h0, k⟩ <;> rfl
  · rcases h with ⟨v, q, z, rfl, hq, h0, k⟩
    refine ⟨_, (pss_cons (ps_if (pt_not (pt_val (pe_c (c_is_from_0 T) hr (by decide) rfl (pa_cons (pv 0) pa_nil)))) pss_never pss_nil)
  (pss_one (ps_ret (pe_c (c_kept T) hr (by decide) rfl (pa_cons (pv 0) pa_nil))))), ?_⟩
    refine ⟨_, rfl, v, q, rfl, hq, h0, fun H1 s1 => ⟨_, rfl, iteF ?_⟩⟩
    exact ⟨_, rfl, v, q, rfl, hq.mono s1.n, fun H2 s2 => k _ (s1.trans s2)⟩
end
end Hp
namespace Hp
set_option Elab.async false
set_option linter.all false
set_option maxRecDepth 100000
set_option maxHeartbeats 4000000
open PySem PySem.Spec PyProof.Rows L2
section
variable {P : Program} {w : World} {K : PySem.W.Frag} {mg : Str → Option Value} {base : Heap}
/-- a def of the text with defaults, those behind the first j left out at the call -/
theorem mkCalD {x : Str} {st : Stmt} {N ps : List Str} {k j : Nat} {sp : Sp} {f : Addr} {fd : FuncData} {D : List V} (F : FunD K x x (defArgs st) (defBody st) (defScope st) D [] f fd) (g : mg x = some (.ref f)) (S : FnScope N ps (defScope st)) (b : ∃ ds, Vals (D.drop j) ds ∧ Binds K fd ps ds)
    (len : ∀ vs H Q E, sp vs H Q E → vs.length = ps.length)
    (hbody : ∀ (cdv : Value) (A : Around) (outer : List Env) (s : Shared) (H : Hp) (vs : List V) (Q : VK) (E : XK), Room k (A.deeper (envOfC x (defScope st) s.heap.objs.size f cdv)) → sp vs H Q E →
      ∃ t, PSs (cxOf CX0 P w K mg base N x (defScope st) f cdv A outer s H E).nox (defBody st) t ∧ t { nx := fun _ H' => Q .non H', rt := Q } (start N vs) H) : Cal P w K mg base (k + 1) x sp (D.drop j) := by
  obtain ⟨ds, r, b⟩ := b
  exact ⟨f, fd, ps, ds, F.ok S len (fun cdv A outer s H vs Q E hr h => by
    obtain ⟨t, a, b⟩ := hbody cdv A outer s H vs Q E hr h
    exact ⟨t, a.nox, b⟩), g, F.kp, b, r⟩
end
theorem u64 {k : Nat} {A : Around} (r : Room k A) : A.units + 64 < cLine := by have := r.un; omega
section
variable {K : PySem.W.Frag} {H : Hp}
/-- a number as data -/
theorem Num.dp {v : V} {q : Rat} (h : Num H v q) : ∃ d, Dp K H v d ∧ SeqAt.shaped d = true ∧ (∀ i : Int, PyData.eqv d (.int i) = decide (q = (i : Rat))) ∧ (∀ i : Int, PyData.eqv (.int i) d = decide ((i : Rat) = q)) := by
  rcases h with ⟨h, rfl⟩ | ⟨h, p, rfl, hp⟩
  · have e := den_one h
    refine ⟨.int q.num, .int _, rfl, fun i => ?_, fun i => ?_⟩
    · show (q.num == i) = _
      rw [← e, Rat.num_intCast, Bool.eq_iff_iff]
      simp
    · show (i == q.num) = _
      rw [← e, Rat.num_intCast, Bool.eq_iff_iff]
      simp
  · have ne : ∀ i : Int, q ≠ (i : Rat) := fun i e => h (by rw [e]; exact Rat.den_intCast i)
    refine ⟨.tuple [.int q.num, .int q.den], .tup (SqT.of hp) (.cons (.int _) (.cons (.int _) .nil)), rfl, fun i => ?_, fun i => ?_⟩
    · rw [decide_eq_false (ne i)]; rfl
    · rw [decide_eq_false (fun e => ne i e.symm)]; rfl
theorem Num.dp0 {v : V} {q : Rat} (h : Num H v q) : ∃ d, Dp K H v d ∧ SeqAt.shaped d = true ∧ PyData.eqv d (.int 0) = decide (q = 0) := by
  obtain ⟨d, h1, h2, h3, _⟩ := h.dp (K := K)
  exact ⟨d, h1, h2, h3 0⟩
theorem eq0 {v : V} {q : Rat} {Q : VK} (h : Num H v q) (k : Q (.bl (decide (q = 0))) H) : rEqD K v (.int 0) H Q := by
  obtain ⟨d, h1, h2, h3, _⟩ := h.dp (K := K)
  refine ⟨d, .int 0, h1, .int 0, h2, rfl, ?_⟩
  rw [h3 0]; exact k
theorem ne0 {v : V} {q : Rat} {Q : VK} (h : Num H v q) (k : Q (.bl (!decide (q = 0))) H) : rNeD K v (.int 0) H Q := by
  obtain ⟨d, h1, h2, h3, _⟩ := h.dp (K := K)
  refine ⟨d, .int 0, h1, .int 0, h2, rfl, ?_⟩
  rw [h3 0]; exact k
/-! ### lists or tuples -/
theorem SqK.or {b : Bool} {p : Addr} {xs : List V} (h : SqK b H (.ref p) xs) : SqL K H p xs ∨ SqT K H p xs := by
  obtain ⟨p', e, hp⟩ := h
  cases e
  cases b
  · exact .inr (SqT.of hp)
  · exact .inl (SqL.of hp)
theorem SqK.to {b : Bool} {p : Addr} {xs : List V} (h : SqK b H (.ref p) xs) : H p = some (.tup xs) ∨ H p = some (.lst xs) := by
  obtain ⟨p', e, hp⟩ := h
  cases e
  cases b
  · exact .inl hp
  · exact .inr hp
theorem SqK.tupd {v : V} {xs : List V} (h : SqK false H v xs) : ∃ p, v = .ref p ∧ H p = some (.tup xs) := h
theorem SqK.lstd {v : V} {xs : List V} (h : SqK true H v xs) : ∃ p, v = .ref p ∧ H p = some (.lst xs) := h
theorem SqK.n {v : V} {xs : List V} {H' : Hp} (h : SqK false H v xs) (e : SameN H H') : SqK false H' v xs := by
  obtain ⟨p, a, c⟩ := h
  exact ⟨p, a, e _ _ c (fun _ z => nomatch z)⟩
theorem isL {b : Bool} {v : V} {xs : List V} {Q : VK} (sq : SqK b H v xs) (k : ∀ H', Same H H' → Q (.bl true) H') : (∃ i, [v] = [V.int i] ∧ ∀ H', Same H H' → Q (.bl false) H') ∨ (∃ p xs, [v] = [V.ref p] ∧ (H p = some (.tup xs) ∨ H p = some (.lst xs)) ∧ ∀ H', Same H H' → Q (.bl true) H') := by
  obtain ⟨p, rfl, hp⟩ := id sq
  exact .inr ⟨_, _, rfl, sq.to, k⟩
theorem tupOf {b : Bool} {v : V} {xs : List V} {Q : VK} (sq : SqK b H v xs) (k : ∀ p H', Same H H' → H' p = some (.tup xs) → Q (.ref p) H') :
    ∃ p ys, [v] = [V.ref p] ∧ ((SqL K H p ys ∧ ∀ l, H l = none → Q (.ref l) (upd H l (.tup ys))) ∨ (SqT K H p ys ∧ Q (.ref p) H)) := by
  obtain ⟨p, rfl, hp⟩ := id sq
  cases b
  · exact ⟨p, xs, rfl, .inr ⟨SqT.of hp, k p H (Same.refl _) hp⟩⟩
  · exact ⟨p, xs, rfl, .inl ⟨SqL.of hp, fun l nl => k l _ (Same.of_new nl) upd_same⟩⟩
theorem lenOf {b : Bool} {v : V} {xs : List V} {Q : VK} (sq : SqK b H v xs) (k : Q (.int (xs.length : Int)) H) :
    ∃ p ys, [v] = [V.ref p] ∧ (SqL K H p ys ∨ SqT K H p ys) ∧ Q (.int (ys.length : Int)) H := by
  obtain ⟨p, rfl, hp⟩ := id sq
  exact ⟨p, xs, rfl, sq.or, k⟩
theorem atI_nat {α : Type} {xs : List α} {i : Nat} {x : α} (h : xs[i]? = some x) : atI xs (i : Int) = some x := by
  have hi := (List.getElem?_eq_some_iff.mp h).1
  unfold atI ixN
  rw [if_pos (by omega), if_pos (by omega)]
  simpa using h
theorem ixOf {b : Bool} {v : V} {xs : List V} {i : Nat} {x : V} {Q : VK} (sq : SqK b H v xs) (hx : xs[i]? = some x) (k : Q x H) : rIx K v (.int (i : Int)) H Q := by
  obtain ⟨p, rfl, hp⟩ := id sq
  cases b
  · exact .inr (.inl ⟨p, xs, i, x, rfl, rfl, SqT.of hp, atI_nat hx, k⟩)
  · exact .inl ⟨p, xs, i, x, rfl, rfl, SqL.of hp, atI_nat hx, k⟩
/-! ### own classes -/
/-- an own class, plainly -/
structure OkC (K : PySem.W.Frag) (C : Addr) : Prop where
  cls : Cls K C
  ha : PySem.W.findIn K (.ref C) "__class__" = some (some (.builtin "object.__class__"))
  hn : PySem.W.specialIn K (.builtin "object.__class__") "__get__" = some (some (.builtin "getset_descriptor.__get__"))
  ht : PySem.W.takesIn K (.builtin "object.__class__") = some true
  hm : PySem.W.mroIn K C (.type "object") = some true
theorem OkC.ty {C a dx : Addr} {fs : List (Str × V)} (c : OkC K C) (h : H a = some (.ins C dx fs)) : TyX K H (.ref a) (.ref C) := .base (.ins h c.cls c.ha c.hn c.ht c.hm)
theorem isiOwn {C D a dx : Addr} {fs : List (Str × V)} {Q : VK} (c : OkC K C) (h : H a = some (.ins C dx fs)) (e : PySem.W.kitOne K (.ref C) (.ref D) = some true) (k : Q (.bl true) H) : rIsi K [.ref a, .ref D] H Q :=
  ⟨_, _, _, _, true, rfl, .own D, c.ty h, e, k⟩
end
section
variable {K : PySem.W.Frag} {mg : Str → Option Value} {base : Heap}
theorem Wd.ok0 (T : Wd K mg base) {x : Str} (hx : x ∈ insNames) : insOk K x = true := by
  have h := T.more
  unfold exB at h
  exact List.all_eq_true.mp (Bool.and_eq_true_iff.mp h).1 x hx
theorem Wd.isa (T : Wd K mg base) {p : Str × Str} (hp : p ∈ isaList) : PySem.W.kitOne K (.ref (He.ga K p.1)) (.ref (He.ga K p.2)) = some true := by
  have h := T.more
  unfold exB at h
  exact of_decide_eq_true (List.all_eq_true.mp (Bool.and_eq_true_iff.mp (Bool.and_eq_true_iff.mp h).2).1 p hp)
theorem okC_of {x : Str} (c : Cls K (He.ga K x)) (h : insOk K x = true) : OkC K (He.ga K x) := by
  unfold insOk at h
  obtain ⟨h1, h⟩ := Bool.and_eq_true_iff.mp h
  obtain ⟨h2, h⟩ := Bool.and_eq_true_iff.mp h
  obtain ⟨h3, h4⟩ := Bool.and_eq_true_iff.mp h
  exact ⟨c, of_decide_eq_true h1, of_decide_eq_true h2, of_decide_eq_true h3, of_decide_eq_true h4⟩
theorem Wd.o_Corner (T : Wd K mg base) : OkC K (He.ga K "Corner") := okC_of T.c_Corner (T.ok0 (by decide +kernel))
theorem Wd.o_Machine (T : Wd K mg base) : OkC K (He.ga K "Machine") := okC_of T.c_Machine (T.ok0 (by decide +kernel))
end
/-- a class of promises -/
inductive PKind | hold | mix | times | sum | greatest | thn | walk
def PKind.nm : PKind → Str
  | .hold => "Hold" | .mix => "Mix" | .times => "Times" | .sum => "Sum" | .greatest => "Greatest" | .thn => "Then" | .walk => "BestWalk"
def PKind.kd : PKind → Str
  | .hold => "hold" | .mix => "mix" | .times => "times" | .sum => "sum" | .greatest => "greatest" | .thn => "then" | .walk => "walk"
def PKind.own : PKind → List Str
  | .hold => ["good"] | .mix => ["shares"] | .times => ["number", "part"] | .sum => ["parts"] | .greatest => ["parts"] | .thn => ["days", "first", "last"] | .walk => ["machine", "weights"]
structure PrC (K : PySem.W.Frag) (k : PKind) : Prop where
  ok : OkC K (He.ga K k.nm)
  isa : PySem.W.kitOne K (.ref (He.ga K k.nm)) (.ref (He.ga K "Promise")) = some true
  na : ∀ f ∈ (["kind", "told", "goods", "inner", "many", "levels"] : List Str) ++ k.own, NoAttr K (He.ga K k.nm) f
section
variable {K : PySem.W.Frag} {mg : Str → Option Value} {base : Heap}
theorem Wd.pc (T : Wd K mg base) (k : PKind) : PrC K k := by
  have l6 : ∀ {P : Str → Prop} {a b c d e f : Str} {r : List Str}, P a → P b → P c → P d → P e → P f → (∀ x ∈ r, P x) → ∀ x ∈ [a, b, c, d, e, f] ++ r, P x := by
    intro P a b c d e f r h1 h2 h3 h4 h5 h6 h x hx
    simp only [List.cons_append, List.nil_append, List.mem_cons] at hx
    rcases hx with rfl | rfl | rfl | rfl | rfl | rfl | hx
    · exact h1
    · exact h2
    · exact h3
    · exact h4
    · exact h5
    · exact h6
    · exact h x hx
  have l1 : ∀ {P : Str → Prop} {a : Str}, P a → ∀ x ∈ [a], P x := fun h x hx => by rw [List.mem_singleton.mp hx]; exact h
  have l2 : ∀ {P : Str → Prop} {a b : Str}, P a → P b → ∀ x ∈ [a, b], P x := fun h h2 x hx => by
    rcases List.mem_cons.mp hx with rfl | hx
    · exact h
    · rw [List.mem_singleton.mp hx]; exact h2
  have l3 : ∀ {P : Str → Prop} {a b c : Str}, P a → P b → P c → ∀ x ∈ [a, b, c], P x := fun h h2 h3 x hx => by
    rcases List.mem_cons.mp hx with rfl | hx
    · exact h
    · rcases List.mem_cons.mp hx with rfl | hx
      · exact h2
      · rw [List.mem_singleton.mp hx]; exact h3
  cases k
  · exact ⟨okC_of T.c_Hold (T.ok0 (by decide +kernel)), T.isa (p := ("Hold", "Promise")) (by decide +kernel), l6 T.n_Hold_kind T.n_Hold_told T.n_Hold_goods T.n_Hold_inner T.n_Hold_many T.n_Hold_levels (l1 T.n_Hold_good)⟩
  · exact ⟨okC_of T.c_Mix (T.ok0 (by decide +kernel)), T.isa (p := ("Mix", "Promise")) (by decide +kernel), l6 T.n_Mix_kind T.n_Mix_told T.n_Mix_goods T.n_Mix_inner T.n_Mix_many T.n_Mix_levels (l1 T.n_Mix_shares)⟩
  · exact ⟨okC_of T.c_Times (T.ok0 (by decide +kernel)), T.isa (p := ("Times", "Promise")) (by decide +kernel), l6 T.n_Times_kind T.n_Times_told T.n_Times_goods T.n_Times_inner T.n_Times_many T.n_Times_levels (l2 T.n_Times_number T.n_Times_part)⟩
  · exact ⟨okC_of T.c_Sum (T.ok0 (by decide +kernel)), T.isa (p := ("Sum", "Promise")) (by decide +kernel), l6 T.n_Sum_kind T.n_Sum_told T.n_Sum_goods T.n_Sum_inner T.n_Sum_many T.n_Sum_levels (l1 T.n_Sum_parts)⟩
  · exact ⟨okC_of T.c_Greatest (T.ok0 (by decide +kernel)), T.isa (p := ("Greatest", "Promise")) (by decide +kernel), l6 T.n_Greatest_kind T.n_Greatest_told T.n_Greatest_goods T.n_Greatest_inner T.n_Greatest_many T.n_Greatest_levels (l1 T.n_Greatest_parts)⟩
  · exact ⟨okC_of T.c_Then (T.ok0 (by decide +kernel)), T.isa (p := ("Then", "Promise")) (by decide +kernel), l6 T.n_Then_kind T.n_Then_told T.n_Then_goods T.n_Then_inner T.n_Then_many T.n_Then_levels (l3 T.n_Then_days T.n_Then_first T.n_Then_last)⟩
  · exact ⟨okC_of T.c_BestWalk (T.ok0 (by decide +kernel)), T.isa (p := ("BestWalk", "Promise")) (by decide +kernel), l6 T.n_BestWalk_kind T.n_BestWalk_told T.n_BestWalk_goods T.n_BestWalk_inner T.n_BestWalk_many T.n_BestWalk_levels (l2 T.n_BestWalk_machine T.n_BestWalk_weights)⟩
end
end Hp
namespace Hp
set_option Elab.async false
set_option linter.all false
set_option maxRecDepth 100000
set_option maxHeartbeats 4000000
open PySem PySem.Spec PyProof.Rows L2
/-- at v: an instance of the class at C with these attributes -/
def InsAt (H : Hp) (v : V) (C : Addr) (fs : List (Str × V)) : Prop := ∃ a dx, v = .ref a ∧ H a = some (.ins C dx fs)
theorem InsAt.n {H H' : Hp} {v : V} {C : Addr} {fs : List (Str × V)} (h : InsAt H v C fs) (e : SameN H H') : InsAt H' v C fs := by
  obtain ⟨a, dx, rfl, h⟩ := h
  exact ⟨a, dx, rfl, e _ _ h (fun _ z => nomatch z)⟩
theorem fldOf {K : PySem.W.Frag} {H : Hp} {v x : V} {C : Addr} {fs : List (Str × V)} {f : Str} {Q : VK} (h : InsAt H v C fs) (c : Cls K C) (n : NoAttr K C f) (l : fs.lookup f = some x) (k : Q x H) :
    ∃ a C dx fs u, v = .ref a ∧ H a = some (.ins C dx fs) ∧ Cls K C ∧ NoAttr K C f ∧ fs.lookup f = some u ∧ Q u H := by
  obtain ⟨a, dx, rfl, h⟩ := h
  exact ⟨a, C, dx, fs, x, rfl, h, c, n, l, k⟩
theorem lt200 {n : Nat} (h : n < 2 ^ 200) : n.log2 < 200 := log2_lt_pow h (by decide)
theorem small_mul {i j : Int} (hi : i.natAbs < 2 ^ 200) (hj : j.natAbs < 2 ^ 200) : CMulW i j := cmul (lt200 hi) (lt200 hj) (by decide)
section
variable {P : Program} {w : World} {K : PySem.W.Frag} {mg : Str → Option Value} {base : Heap}
/-- a number's halves, as is_sum_1 takes them -/
def sp_is_sum_1  : Sp :=  fun vs H Q _ => ∃ b v xs qs, vs = [v] ∧ SqK b H v xs ∧ Nums H xs qs ∧ qs.length ≤ 5 ∧ (∀ q ∈ qs, q.num.natAbs < 2 ^ 20 ∧ q.den < 2 ^ 20) ∧ rsum qs = 1 ∧ ∀ H', Same H H' → Q (.bl true) H'
theorem sc_is_sum_1 : FnScope ["row", "above", "under", "each", "one", "other"] ["row"] (defScope s_is_sum_1) := ⟨rfl, rfl, rfl, by decide +kernel, rfl, by decide +kernel, by decide +kernel⟩
theorem c_is_sum_1 (T : Wd K mg base) : Cal P w K mg base 2 "is_sum_1" sp_is_sum_1 [] := by
  obtain ⟨fd, F⟩ := T.d_is_sum_1
  refine mkCal (k := 2 - 1) F T.g_is_sum_1 sc_is_sum_1 (F.bindsN fun _ _ _ _ _ _ us hl => match us, hl with | [_], _ => rfl) (fun vs H Q E h => ?_) (fun cdv A outer s H vs Q E hr h => ?_)
  · rcases h with ⟨b, v, xs, qs, rfl, sq, hn, hl, hs, h1, k⟩ <;> rfl
  · rcases h with ⟨b, v, xs, qs, rfl, sq, hn, hl, hs, h1, k⟩
    refine ⟨_, (pss_cons (ps_asg (pe_tup (pa_cons pe_int (pa_cons pe_int pa_nil))) (pg_tup rfl (pgs_cons (pg_name (i := 1) sc_is_sum_1.nd rfl (Or.inl rfl)) (pgs_cons (pg_name (i := 2) sc_is_sum_1.nd rfl (Or.inl rfl)) pgs_nil))))
  (pss_cons (ps_for PassesOwn.never rfl (pi_seq (pv 0)) (pg_name (i := 3) sc_is_sum_1.nd rfl (Or.inl rfl))
  (pss_cons (ps_asg (pe_ifExp (pt_val (pe_c (c_is_list T) hr (by decide) rfl (pa_cons (pv 3) pa_nil))) (pe_tup (pa_cons (pe_ix ix_seq (pv 3) pe_int (fun _ _ => rfl)) (pa_cons (pe_ix ix_seq (pv 3) pe_int (fun _ _ => rfl)) pa_nil))) (pe_tup (pa_cons (pv 3) (pa_cons pe_int pa_nil)))) (pg_tup rfl (pgs_cons (pg_name (i := 4) sc_is_sum_1.nd rfl (Or.inl rfl)) (pgs_cons (pg_name (i := 5) sc_is_sum_1.nd rfl (Or.inl rfl)) pgs_nil))))
  (pss_one (ps_par (i := 1) (j := 2) rfl sc_is_sum_1.nd rfl rfl (by decide) rfl rfl (pa_cons (pe_op op_add (pe_op op_mulW (pv 1) (pv 5)) (pe_op op_mulW (pv 4) (pv 2))) (pa_cons (pe_op op_mulW (pv 2) (pv 5)) pa_nil)) (by rfl)))))
  (pss_one (ps_ret (pe_cmpR op_eq (pv 1) (pv 2) (nomark _)))))), ?_⟩
    refine ⟨(by show 2 ≤ sizeLine; decide), fun t nt => ?_⟩
    refine ⟨t, _, rfl, SqT.of upd_same, rfl, _, _, rfl, _, _, rfl, rfl, ?_⟩
    refine for_seq (gives_var rfl) (sq.same (Same.of_new nt)) (fun i σ' H' => ∃ (a u : Int) (x y z : Option V), σ' = [some v, some (.int a), some (.int u), x, y, z] ∧ Same H H' ∧ 0 < u ∧ u.natAbs ≤ (2 ^ 20) ^ i ∧ a.natAbs ≤ i * (2 ^ 20) ^ i ∧ (a : Rat) = rsum (qs.take i) * (u : Rat)) ⟨0, 1, _, _, _, rfl, Same.of_new nt, by decide, by decide, by decide, by simp [rsum, Rat.zero_mul]⟩ (fun i σ' H' _ ⟨_, _, _, _, _, _, s, _⟩ => sq.same s) ?_ ?_
    · rintro i x σ' H' hx ⟨a, u, y1, y2, y3, rfl, s1, hu, hub, hab, hau⟩
      obtain ⟨q, hq, hxq⟩ := paired_get hn hx
      have hi : i < 5 := by
        have := (List.getElem?_eq_some_iff.mp hq).1
        omega
      obtain ⟨z1, z2⟩ := hs q (mem_get hq)
      have big : ∀ j, j ≤ 5 → (2 ^ 20) ^ j ≤ 2 ^ 100 := fun j hj => by rw [← Nat.pow_mul]; exact Nat.pow_le_pow_right (by decide) (by omega)
      have p1 := big i (by omega)
      have p2 := big (i + 1) (by omega)
      have ub : u.natAbs < 2 ^ 200 := Nat.lt_of_le_of_lt (Nat.le_trans hub p1) (by decide)
      have ab : a.natAbs < 2 ^ 200 := by
        refine Nat.lt_of_le_of_lt hab ?_
        refine Nat.lt_of_le_of_lt (Nat.mul_le_mul (by omega : i ≤ 5) p1) (by decide)
      have nb : q.num.natAbs < 2 ^ 200 := Nat.lt_trans z1 (by decide)
      have db : (q.den : Int).natAbs < 2 ^ 200 := Nat.lt_trans (by simpa using z2) (by decide)
      have dpos : 0 < q.den := q.den_pos
      have fin : ∀ H2, Same H H2 → ∃ (a' u' : Int) (x' y z : Option V), ([some v, some (.int (a * (q.den : Int) + q.num * u)), some (.int (u * (q.den : Int))), some x, some (.int q.num), some (.int (q.den : Int))] : St) = [some v, some (.int a'), some (.int u'), x', y, z] ∧ Same H H2 ∧ 0 < u' ∧ u'.natAbs ≤ (2 ^ 20) ^ (i + 1) ∧ a'.natAbs ≤ (i + 1) * (2 ^ 20) ^ (i + 1) ∧ (a' : Rat) = rsum (qs.take (i + 1)) * (u' : Rat) := by
        intro H2 s2
        refine ⟨_, _, _, _, _, rfl, s2, Int.mul_pos hu (by omega), ?_, ?_, ?_⟩
        · rw [Int.natAbs_mul, Nat.pow_succ]
          exact Nat.mul_le_mul hub (by simpa using Nat.le_of_lt z2)
        · refine Nat.le_trans (Int.natAbs_add_le _ _) ?_
          rw [Int.natAbs_mul, Int.natAbs_mul, Nat.succ_mul, Nat.pow_succ]
          refine Nat.add_le_add ?_ ?_
          · rw [← Nat.mul_assoc]
            exact Nat.mul_le_mul hab (by simpa using Nat.le_of_lt z2)
          · rw [Nat.mul_comm]
            exact Nat.mul_le_mul hub (Nat.le_of_lt z1)
        · rw [rsum_take hq]
          exact acc_step hau (num_eq q)
      rcases hxq with ⟨e1, rfl⟩ | ⟨e1, p, rfl, hp⟩
      · have e : (q.den : Int) = 1 := by omega
        rw [e] at fin db
        refine ⟨_, rfl, .inl ⟨_, rfl, fun H2 s2 => ⟨_, rfl, iteF ?_⟩⟩⟩
        refine ⟨_, rfl, (by show 2 ≤ sizeLine; decide), fun t2 nt2 => ?_⟩
        refine ⟨t2, _, rfl, SqT.of upd_same, rfl, _, _, rfl, _, _, rfl, rfl, ?_⟩
        exact ⟨_, rfl, _, rfl, _, _, rfl, rfl, small_mul ab db, _, rfl, _, rfl, _, _, rfl, rfl, small_mul nb ub, _, _, rfl, rfl, _, rfl, _, rfl, _, _, rfl, rfl, small_mul ub db, _, _, rfl, fin _ ((s1.trans s2).trans (Same.of_new nt2))⟩
      · refine ⟨_, rfl, .inr ⟨_, _, rfl, .inl (s1 _ _ hp), fun H2 s2 => ⟨_, rfl, iteT ?_⟩⟩⟩
        have hp2 := s2 _ _ (s1 _ _ hp)
        refine ⟨_, rfl, ixOf (i := 0) (SqK.tup hp2) rfl ⟨_, rfl, ixOf (i := 1) (SqK.tup hp2) rfl ⟨(by show 2 ≤ sizeLine; decide), fun t2 nt2 => ?_⟩⟩⟩
        refine ⟨t2, _, rfl, SqT.of upd_same, rfl, _, _, rfl, _, _, rfl, rfl, ?_⟩
        exact ⟨_, rfl, _, rfl, _, _, rfl, rfl, small_mul ab db, _, rfl, _, rfl, _, _, rfl, rfl, small_mul nb ub, _, _, rfl, rfl, _, rfl, _, rfl, _, _, rfl, rfl, small_mul ub db, _, _, rfl, fin _ ((s1.trans s2).trans (Same.of_new nt2))⟩
    · rintro σ' H' ⟨a, u, y1, y2, y3, rfl, s1, hu, hub, hab, hau⟩
      rw [hn.length, take_all, h1, Rat.one_mul] at hau
      have e : a = u := Rat.intCast_inj.mp hau
      subst e
      refine ⟨_, rfl, _, rfl, rfl, ?_⟩
      have e : decide (V.int a = V.int a) = true := decide_eq_true rfl
      dsimp only
      rw [e]
      exact k _ s1
def sp_is_mix_of  : Sp :=  fun vs H Q _ => ∃ b v xs qs, vs = [v, .int (xs.length : Int)] ∧ SqK b H v xs ∧ Nums H xs qs ∧ (∀ q ∈ qs, 0 ≤ q) ∧ qs.length ≤ 5 ∧ (∀ q ∈ qs, q.num.natAbs < 2 ^ 20 ∧ q.den < 2 ^ 20) ∧ rsum qs = 1 ∧ ∀ H', Same H H' → Q (.bl true) H'
theorem sc_is_mix_of : FnScope ["value", "goods"] ["value", "goods"] (defScope s_is_mix_of) := ⟨rfl, rfl, rfl, by decide +kernel, rfl, by decide +kernel, by decide +kernel⟩
theorem c_is_mix_of (T : Wd K mg base) : Cal P w K mg base 6 "is_mix_of" sp_is_mix_of [] := by
  obtain ⟨fd, F⟩ := T.d_is_mix_of
  refine mkCal (k := 6 - 1) F T.g_is_mix_of sc_is_mix_of (F.bindsN fun _ _ _ _ _ _ us hl => match us, hl with | [_, _], _ => rfl) (fun vs H Q E h => ?_) (fun cdv A outer s H vs Q E hr h => ?_)
  · rcases h with ⟨b, v, xs, qs, rfl, sq, hn, h0, hl, hs, h1, k⟩ <;> rfl
  · rcases h with ⟨b, v, xs, qs, rfl, sq, hn, h0, hl, hs, h1, k⟩
    refine ⟨_, (pss_one (ps_ret (pe_and (pe_c (c_is_row T) hr (by decide) rfl (pa_cons (pv 0) (pa_cons (pv 1) pa_nil))) (pe_one (pe_c (c_is_sum_1 T) hr (by decide) rfl (pa_cons (pv 0) pa_nil)))))), ?_⟩
    refine ⟨_, rfl, _, rfl, b, v, xs, qs, rfl, sq, hn, h0, by rw [hn.length]; omega, fun H1 s1 => ⟨_, rfl, iteT ?_⟩⟩
    exact ⟨_, rfl, b, v, xs, qs, rfl, sq.same s1, hn.mono s1.n, hl, hs, h1, fun H2 s2 => k _ (s1.trans s2)⟩
def sp_need_word  : Sp :=  fun vs H Q _ => ∃ (b : Bool) (v : V) (ns : List Int) (g : Int) (z : Str), vs = [v, .int g, .str z] ∧ SqK b H v (ns.map V.int) ∧ (∀ n ∈ ns, 0 ≤ n ∧ n < g) ∧ ns.length ≤ 100000 ∧ ∀ p H', Same H H' → H' p = some (.tup (ns.map V.int)) → Q (.ref p) H'
theorem sc_need_word : FnScope ["value", "goods", "part"] ["value", "goods", "part"] (defScope s_need_word) := ⟨rfl, rfl, rfl, by decide +kernel, rfl, by decide +kernel, by decide +kernel⟩
theorem c_need_word (T : Wd K mg base) : Cal P w K mg base 4 "need_word" sp_need_word [.str "word"] := by
  obtain ⟨fd, F⟩ := T.d_need_word
  refine mkCalD (k := 4 - 1) (j := 0) F T.g_need_word sc_need_word (F.binds1 2 0 (by intro z; cases z) rfl fun _ _ _ _ _ _ _ us its h1 h2 => match us, its, h1, h2 with | [_, _], [_], _, _ => ⟨_, rfl, rfl⟩) (fun vs H Q E h => ?_) (fun cdv A outer s H vs Q E hr h => ?_)
  · rcases h with ⟨b, v, ns, g, z, rfl, sq, hr2, hl, k⟩ <;> rfl
  · rcases h with ⟨b, v, ns, g, z, rfl, sq, hr2, hl, k⟩
    refine ⟨_, (pss_cons (ps_if (pt_not (pt_val (pe_c (c_is_word_of T) hr (by decide) rfl (pa_cons (pv 0) (pa_cons (pv 1) pa_nil))))) pss_never pss_nil)
  (pss_one (ps_ret (pe_callTy call_tuple_of (by rfl) T.f_tuple (by decide +kernel) (pa_cons (pv 0) pa_nil))))), ?_⟩
    refine ⟨_, rfl, _, rfl, b, v, ns, g, rfl, sq, hr2, hl, fun H1 s1 => ⟨_, rfl, iteF ?_⟩⟩
    exact ⟨_, rfl, tupOf (sq.same s1) fun p H' s2 hp => k p H' (s1.trans s2) hp⟩
/-- a row less another one times a number -/
def rless (a b : List Rat) (c : Rat) : List Rat := (a.zip b).map fun p => p.1 - c * p.2
theorem rless_get {a b : List Rat} {c : Rat} {i : Nat} {x y : Rat} (h1 : a[i]? = some x) (h2 : b[i]? = some y) : (rless a b c)[i]? = some (x - c * y) := by
  simp only [rless, List.getElem?_map, (List.getElem?_zip_eq_some (l₁ := a) (l₂ := b) (z := (x, y))).mpr ⟨h1, h2⟩, Option.map_some]
theorem rless_len (a b : List Rat) (c : Rat) : (rless a b c).length = min a.length b.length := by simp [rless]
def sp_less_times  : Sp :=  fun vs H Q _ => ∃ b d v u z xs ys ps qs c, vs = [v, u, z] ∧ SqK b H v xs ∧ SqK d H u ys ∧ Nums H xs ps ∧ Nums H ys qs ∧ Num H z c ∧ xs.length ≤ 100000 ∧ (∀ q ∈ ps, Sz q) ∧ (∀ q ∈ qs, Sz q ∧ Sz (c * q)) ∧ Sz c ∧ ∀ p zs H', Same H H' → H' p = some (.lst zs) → Nums H' zs (rless ps qs c) → Q (.ref p) H'
theorem sc_less_times : FnScope ["row", "other", "number", "mine", "its"] ["row", "other", "number"] (defScope s_less_times) := ⟨rfl, rfl, rfl, by decide +kernel, rfl, by decide +kernel, by decide +kernel⟩
theorem c_less_times (T : Wd K mg base) : Cal P w K mg base 5 "less_times" sp_less_times [] := by
  obtain ⟨fd, F⟩ := T.d_less_times
  refine mkCal (k := 5 - 1) F T.g_less_times sc_less_times (F.bindsN fun _ _ _ _ _ _ us hl => match us, hl with | [_, _, _], _ => rfl) (fun vs H Q E h => ?_) (fun cdv A outer s H vs Q E hr h => ?_)
  · rcases h with ⟨b, d, v, u, z, xs, ys, ps, qs, c, rfl, sx, sy, hx, hy, hz, hl, zp, zq, zc, k⟩ <;> rfl
  · rcases h with ⟨b, d, v, u, z, xs, ys, ps, qs, c, rfl, sx, sy, hx, hy, hz, hl, zp, zq, zc, k⟩
    refine ⟨_, (pss_one (ps_ret (pe_lc (own := [("mine", 3), ("its", 4)]) rfl sc_less_times.nd (pi_zipS (by rfl) T.f_zip (pa_cons (pv 0) (pa_cons (pv 1) pa_nil))) (blkOk_by (own := [("mine", 3), ("its", 4)]) (N := ["row", "other", "number", "mine", "its"]) (sc := defScope s_less_times) (by decide +kernel)) (fun _ _ _ _ _ => by exact (by refine pg_pair (K := K) (i := 3) (j := 4) ?_ ?_ ?_ ?_ ?_ ?_ ?_ <;> first | exact sc_less_times.nd | rfl)) (fun _ _ _ _ _ => by exact pts_nil) (fun _ _ _ _ _ => by exact (pe_c (c_less_by T) hr (by decide) rfl (pa_cons (pv 3) (pa_cons (pe_c (c_product T) hr (by decide) rfl (pa_cons (pv 2) (pa_cons (pv 4) pa_nil))) pa_nil))))))), ?_⟩
    refine u_ret ?_
    refine lc_zip (H1 := H) ?_ ?_ sx sy hl (fun D i H' z => ∀ p q, ps[i]? = some p → qs[i]? = some q → Num H' z (p - c * q)) (fun D i H1 H2 z e h p q h1 h2 => (h p q h1 h2).mono e.n) ?_ ?_ (fun _ _ => rfl)
    · exact gives_var rfl
    · exact gives_var rfl
    · intro D i x y H' R h1 h2 hD s1 hDn hR
      obtain ⟨p, hp, hxp⟩ := paired_get hx h1
      obtain ⟨q, hq, hyq⟩ := paired_get hy h2
      obtain ⟨z1, z2⟩ := zq q (mem_get hq)
      refine ⟨_, rfl, _, rfl, _, rfl, z, y, c, q, rfl, hz.mono s1.n, hyq.mono s1.n, zc, z1, fun m H4 s4 hm => ?_⟩
      refine ⟨_, _, _, _, rfl, (hxp.mono s1.n).mono s4.n, hm, zp p (mem_get hp), z2, fun m2 H5 s5 hm2 => hR m2 H5 (s4.trans s5) fun p' q' h3 h4 => ?_⟩
      rw [hp] at h3; rw [hq] at h4; cases h3; cases h4; exact hm2
    · intro D H' zs hD s1 hDz hl2 hF
      refine k D zs H' s1 hDz (paired_of (by rw [rless_len, hl2, hx.length, hy.length]) fun i z r hz hr => ?_)
      have hi : i < min ps.length qs.length := by
        have := (List.getElem?_eq_some_iff.mp hr).1
        rw [rless_len] at this; exact this
      have e1 : ps[i]? = some (ps[i]'(by omega)) := by simp
      have e2 : qs[i]? = some (qs[i]'(by omega)) := by simp
      rw [rless_get e1 e2] at hr; cases hr
      exact hF i z hz _ _ e1 e2
end
end Hp
/-! Plain mathematics: bounds by a common denominator. -/
namespace Hp
set_option autoImplicit false
/-- q is k / D with |k| ≤ N -/
def Bd (D N : Nat) (q : Rat) : Prop := ∃ k : Int, q * ((D : Int) : Rat) = (k : Rat) ∧ k.natAbs ≤ N
theorem Bd.mono {D N N' : Nat} {q : Rat} (h : Bd D N q) (e : N ≤ N') : Bd D N' q := by
  obtain ⟨k, a, b⟩ := h
  exact ⟨k, a, Nat.le_trans b e⟩
theorem Bd.scale {D N N' : Nat} {q : Rat} (c : Nat) (h : Bd D N q) (e : N * c ≤ N') : Bd (D * c) N' q := by
  obtain ⟨k, a, b⟩ := h
  refine ⟨k * c, ?_, ?_⟩
  · rw [Rat.intCast_mul, ← a, Int.natCast_mul, Rat.intCast_mul, Rat.mul_assoc]
  · rw [Int.natAbs_mul]
    exact Nat.le_trans (Nat.mul_le_mul b (by simp)) e
theorem Bd.to {D N D' N' : Nat} {q : Rat} (h : Bd D N q) (c : Nat) (hd : D' = D * c) (e : N * c ≤ N') : Bd D' N' q := by
  subst hd; exact h.scale c e
theorem Bd.add {D N M : Nat} {p q : Rat} (h : Bd D N p) (g : Bd D M q) : Bd D (N + M) (p + q) := by
  obtain ⟨k, a, b⟩ := h
  obtain ⟨l, c, d⟩ := g
  refine ⟨k + l, ?_, Nat.le_trans (Int.natAbs_add_le _ _) (Nat.add_le_add b d)⟩
  rw [Rat.intCast_add, ← a, ← c, Rat.add_mul]
theorem Bd.neg {D N : Nat} {p : Rat} (h : Bd D N p) : Bd D N (-p) := by
  obtain ⟨k, a, b⟩ := h
  exact ⟨-k, by rw [Rat.intCast_neg, ← a, Rat.neg_mul], by rwa [Int.natAbs_neg]⟩
theorem Bd.mul {D E N M : Nat} {p q : Rat} (h : Bd D N p) (g : Bd E M q) : Bd (D * E) (N * M) (p * q) := by
  obtain ⟨k, a, b⟩ := h
  obtain ⟨l, c, d⟩ := g
  refine ⟨k * l, ?_, by rw [Int.natAbs_mul]; exact Nat.mul_le_mul b d⟩
  rw [Rat.intCast_mul, ← a, ← c, Int.natCast_mul, Rat.intCast_mul]
  generalize ((D : Int) : Rat) = x
  generalize ((E : Int) : Rat) = y
  grind
theorem Bd.max {D N : Nat} {p q : Rat} (h : Bd D N p) (g : Bd D N q) : Bd D N (rmax p q) := by
  unfold rmax
  split
  · exact g
  · exact h
theorem Bd.zero (D N : Nat) : Bd D N 0 := ⟨0, by simp, by simp⟩
theorem Bd.int (n : Int) : Bd 1 n.natAbs (n : Rat) := ⟨n, by simp, Nat.le_refl _⟩
theorem Bd.one {D N : Nat} (h : D ≤ N) : Bd D N 1 := ⟨D, by rw [Rat.one_mul], by simpa using h⟩
theorem Bd.sz {D N : Nat} {q : Rat} (h : Bd D N q) (h0 : 0 < D) (hD : D.log2 < 4000) (hN : N.log2 < 400000) : Sz q := by
  obtain ⟨k, a, b⟩ := h
  have d0 : ((D : Int) : Rat) ≠ 0 := by
    intro z
    have := Rat.intCast_inj.mp (show ((D : Int) : Rat) = ((0 : Int) : Rat) from z)
    omega
  have e : q = Rat.divInt k D := by
    rw [Rat.divInt_eq_div, ← a]
    exact (Rat.mul_div_cancel d0).symm
  have dz : (D : Int) ≠ 0 := by omega
  constructor
  · have h1 := low_num (a := k) dz
    rw [e, ← h1]
    refine Nat.lt_of_le_of_lt (log2_le_of_le (Nat.le_trans ?_ b)) hN
    rw [Int.fdiv_eq_ediv_of_dvd (lpart_dvd k D).1]
    obtain ⟨c, hc⟩ := (lpart_dvd k D).1
    have ne := lpart_ne (a := k) dz
    have h2 : k / lpart k D = c := Int.ediv_eq_of_eq_mul_right ne hc
    rw [h2]
    have h3 : k.natAbs = (lpart k D).natAbs * c.natAbs := by rw [← Int.natAbs_mul, ← hc]
    rw [h3]
    exact Nat.le_mul_of_pos_left _ (by omega)
  · have h1 := low_den (a := k) dz
    rw [e]
    refine Nat.lt_of_le_of_lt (log2_le_of_le ?_) hD
    have h2 : (D : Int).fdiv (lpart k D) = ((Rat.divInt k D).den : Int) := h1
    rw [Int.fdiv_eq_ediv_of_dvd (lpart_dvd k D).2] at h2
    obtain ⟨c, hc⟩ := (lpart_dvd k D).2
    have ne := lpart_ne (a := k) dz
    rw [Int.ediv_eq_of_eq_mul_right ne hc] at h2
    have h3 : (Rat.divInt k D).den = c.natAbs := by omega
    have h4 : D = (lpart k D).natAbs * c.natAbs := by
      rw [← Int.natAbs_mul, ← hc]; simp
    rw [h3]
    have : 0 < (lpart k D).natAbs := by omega
    rw [h4]
    exact Nat.le_mul_of_pos_left _ this
theorem Bd.rsum {D N : Nat} {l : List Rat} (h : ∀ q ∈ l, Bd D N q) : Bd D (l.length * N) (rsum l) := by
  induction l with
  | nil => exact Bd.zero _ _
  | cons a l ih =>
    have := (h a (by simp)).add (ih fun q hq => h q (by simp [hq]))
    refine this.mono ?_
    rw [List.length_cons, Nat.succ_mul, Nat.add_comm]
    exact Nat.le_refl _
theorem Bd.rprod {D N : Nat} {l : List Rat} (h : ∀ q ∈ l, Bd D N q) : Bd (D ^ l.length) (N ^ l.length) (rprod l) := by
  induction l with
  | nil => exact Bd.one (by simp)
  | cons a l ih =>
    have := (h a (by simp)).mul (ih fun q hq => h q (by simp [hq]))
    rw [List.length_cons, Nat.pow_succ, Nat.pow_succ, Nat.mul_comm _ D, Nat.mul_comm _ N]
    exact this
end Hp
namespace Hp
set_option Elab.async false
set_option linter.all false
set_option maxRecDepth 100000
set_option maxHeartbeats 4000000
open PySem PySem.Spec PyProof.Rows L2
section
variable {K : PySem.W.Frag} {tl tl2 : TE} {σ : St} {H H1 H2 : Hp} {v v2 : V} {xs ys : List V} {b c : Bool} {D : Ends}
theorem for_rng1 {k : Nat} {tb : TS} {n : Nat} (he : Gives tl σ H (.int n) H1) (hn : n ≤ 100000) (Pv : Nat → St → Hp → Prop) (h0 : Pv 0 σ H1)
    (hs : ∀ i σ' H', i < n → Pv i σ' H' → tb { D with nx := Pv (i + 1), ct := Pv (i + 1), bk := D.nx } (σ'.set k (some (.int i))) H') (hd : ∀ σ' H', Pv n σ' H' → D.nx σ' H') : tFor (iRng1 (tCons tl tNil)) (gName k) tb D σ H := by
  refine he _ ⟨n, rfl, by omega, by omega, ?_⟩
  rw [Int.toNat_natCast]
  refine for_it walk_range Pv h0 (fun _ _ _ _ _ => trivial) (fun i x σ' H' H'' hi q y => ?_) hd
  obtain ⟨rfl, hx⟩ := y
  have hx' : x = .int (i : Int) := hx.trans (by show V.int (0 + (i : Int)) = _; rw [Int.zero_add])
  subst hx'
  exact hs i σ' _ hi q
/-! ### comprehensions of any kind -/
theorem lcg_core {J : It} {n : Nat} {G : Hp → Prop} {Y : Nat → Hp → V → Hp → Prop} (wk : Walk J n G Y) {g : TG} {tt : TT} {te : TE} {vs : List Nat} {D0 : Addr} {Qd : Hp → Prop} (Pv : Nat → Hp → List V → Prop) (hn : n ≤ 100000)
    (hG : ∀ i H' acc, Pv i H' acc → G H') (h0 : Pv 0 (upd H1 D0 (.lst [])) [])
    (hstep : ∀ i x H' H'' acc (R : VK) (Z : Hp → Prop), i < n → acc.length ≤ i → H' D0 = some (.lst acc) → Pv i H' acc → Y i H' x H'' → (∀ y H4, H4 D0 = some (.lst acc) → Pv (i + 1) (upd H4 D0 (.lst (acc ++ [y]))) (acc ++ [y]) → R y H4) → (∀ H3, H3 D0 = some (.lst acc) → Pv (i + 1) H3 acc → Z H3) →
      g x (wipe σ vs) H'' fun σ2 H2 => wipe σ2 vs = wipe σ vs ∧ tt σ2 H2 fun b H3 => if b = true then te σ2 H3 R else Z H3)
    (hd : ∀ H' acc, H' D0 = some (.lst acc) → Pv n H' acc → Qd H') : LcW J g tt te vs σ D0 Qd (upd H1 D0 (.lst [])) := by
  refine lc_it wk (Pv := fun i H' => ∃ acc, H' D0 = some (.lst acc) ∧ acc.length ≤ i ∧ Pv i H' acc) ⟨[], upd_same, by simp, h0⟩ (fun i H' _ ⟨acc, _, _, p⟩ => hG i H' acc p) ?_ ?_
  · rintro i x H' H'' hi ⟨acc, ha, hl, hP⟩ hY
    refine hstep i x H' H'' acc _ _ hi hl ha hP hY (fun y H4 h4 p4 => ?_) (fun H3 h3 p3 => ⟨acc, h3, by omega, p3⟩)
    exact ⟨acc, h4, Nat.lt_of_lt_of_le (by omega : acc.length < 100001) (by decide), acc ++ [y], upd_same, by simp; omega, p4⟩
  · rintro H' ⟨acc, ha, hl, hP⟩
    exact hd H' acc ha hP
theorem lcg_seq {k : Nat} {tt : TT} {te : TE} {vs : List Nat} {Q : VK} (he : Gives tl σ H v H1) (sq : SqK b H1 v xs) (hn : xs.length ≤ 100000) (Pv : Addr → Nat → Hp → List V → Prop) (hG : ∀ D i H' acc, Pv D i H' acc → SqK b H' v xs) (h0 : ∀ D, H1 D = none → Pv D 0 (upd H1 D (.lst [])) [])
    (hstep : ∀ D i x H' acc (R : VK) (Z : Hp → Prop), xs[i]? = some x → H1 D = none → acc.length ≤ i → H' D = some (.lst acc) → Pv D i H' acc → (∀ y H4, H4 D = some (.lst acc) → Pv D (i + 1) (upd H4 D (.lst (acc ++ [y]))) (acc ++ [y]) → R y H4) → (∀ H3, H3 D = some (.lst acc) → Pv D (i + 1) H3 acc → Z H3) →
      tt ((wipe σ vs).set k (some x)) H' fun b H3 => if b = true then te ((wipe σ vs).set k (some x)) H3 R else Z H3)
    (hd : ∀ D H' acc, H1 D = none → H' D = some (.lst acc) → Pv D xs.length H' acc → Q (.ref D) H')
    (hw : ∀ x, wipe ((wipe σ vs).set k (some x)) vs = wipe σ vs) : tLc (iSeq K tl) (gName k) tt te vs σ H Q := by
  obtain ⟨p, rfl, hp⟩ := sq
  cases b
  · refine .inr (he _ ⟨p, rfl, ⟨xs, SqT.of hp⟩, fun D hD => ?_⟩)
    exact lcg_core walk_tup (Pv D) hn (fun i H' acc q => by obtain ⟨p', e, h⟩ := hG D i H' acc q; cases e; exact SqT.of h) (h0 D hD) (fun i x H' H'' acc R Z hi hl ha hP hY hR hZ => by
      obtain ⟨rfl, hx⟩ := hY
      exact ⟨hw x, hstep D i x _ acc R Z hx hD hl ha hP hR hZ⟩) fun H' acc => hd D H' acc hD
  · refine .inl (he _ ⟨p, rfl, ⟨xs, SqL.of hp⟩, fun D hD => ?_⟩)
    exact lcg_core walk_list (Pv D) hn (fun i H' acc q => by obtain ⟨p', e, h⟩ := hG D i H' acc q; cases e; exact SqL.of h) (h0 D hD) (fun i x H' H'' acc R Z hi hl ha hP hY hR hZ => by
      obtain ⟨rfl, hx⟩ := hY
      exact ⟨hw x, hstep D i x _ acc R Z hx hD hl ha hP hR hZ⟩) fun H' acc => hd D H' acc hD
/-- over a sequence that is made there -/
theorem lcg_seqG {k : Nat} {tt : TT} {te : TE} {vs : List Nat} {Q : VK} (Good : V → Hp → List V → Prop) (he : ∀ R : VK, (∀ v H1 xs, Good v H1 xs → R v H1) → tl σ H R) (sq : ∀ v H1 xs, Good v H1 xs → SqK b H1 v xs ∧ xs.length ≤ 100000)
    (Pv : V → Hp → List V → Addr → Nat → Hp → List V → Prop) (hG : ∀ v H1 xs D i H' acc, Pv v H1 xs D i H' acc → SqK b H' v xs) (h0 : ∀ v H1 xs D, Good v H1 xs → H1 D = none → Pv v H1 xs D 0 (upd H1 D (.lst [])) [])
    (hstep : ∀ v H1 xs D i x H' acc (R : VK) (Z : Hp → Prop), Good v H1 xs → xs[i]? = some x → H1 D = none → acc.length ≤ i → H' D = some (.lst acc) → Pv v H1 xs D i H' acc → (∀ y H4, H4 D = some (.lst acc) → Pv v H1 xs D (i + 1) (upd H4 D (.lst (acc ++ [y]))) (acc ++ [y]) → R y H4) → (∀ H3, H3 D = some (.lst acc) → Pv v H1 xs D (i + 1) H3 acc → Z H3) →
      tt ((wipe σ vs).set k (some x)) H' fun b H3 => if b = true then te ((wipe σ vs).set k (some x)) H3 R else Z H3)
    (hd : ∀ v H1 xs D H' acc, Good v H1 xs → H1 D = none → H' D = some (.lst acc) → Pv v H1 xs D xs.length H' acc → Q (.ref D) H')
    (hw : ∀ x, wipe ((wipe σ vs).set k (some x)) vs = wipe σ vs) : tLc (iSeq K tl) (gName k) tt te vs σ H Q := by
  cases b
  · refine .inr (he _ fun v H1 xs hv => ?_)
    obtain ⟨⟨p, rfl, hp⟩, hn⟩ := sq v H1 xs hv
    refine ⟨p, rfl, ⟨xs, SqT.of hp⟩, fun D hD => ?_⟩
    exact lcg_core walk_tup (Pv _ H1 xs D) hn (fun i H' acc q => by obtain ⟨p', e, h⟩ := hG _ H1 xs D i H' acc q; cases e; exact SqT.of h) (h0 _ H1 xs D hv hD) (fun i x H' H'' acc R Z hi hl ha hP hY hR hZ => by
      obtain ⟨rfl, hx⟩ := hY
      exact ⟨hw x, hstep _ H1 xs D i x _ acc R Z hv hx hD hl ha hP hR hZ⟩) fun H' acc => hd _ H1 xs D H' acc hv hD
  · refine .inl (he _ fun v H1 xs hv => ?_)
    obtain ⟨⟨p, rfl, hp⟩, hn⟩ := sq v H1 xs hv
    refine ⟨p, rfl, ⟨xs, SqL.of hp⟩, fun D hD => ?_⟩
    exact lcg_core walk_list (Pv _ H1 xs D) hn (fun i H' acc q => by obtain ⟨p', e, h⟩ := hG _ H1 xs D i H' acc q; cases e; exact SqL.of h) (h0 _ H1 xs D hv hD) (fun i x H' H'' acc R Z hi hl ha hP hY hR hZ => by
      obtain ⟨rfl, hx⟩ := hY
      exact ⟨hw x, hstep _ H1 xs D i x _ acc R Z hv hx hD hl ha hP hR hZ⟩) fun H' acc => hd _ H1 xs D H' acc hv hD
theorem lcg_rng1 {k : Nat} {tt : TT} {te : TE} {vs : List Nat} {Q : VK} {n : Nat} (he : Gives tl σ H (.int n) H1) (hn : n ≤ 100000) (Pv : Addr → Nat → Hp → List V → Prop) (h0 : ∀ D, H1 D = none → Pv D 0 (upd H1 D (.lst [])) [])
    (hstep : ∀ D i H' acc (R : VK) (Z : Hp → Prop), i < n → H1 D = none → acc.length ≤ i → H' D = some (.lst acc) → Pv D i H' acc → (∀ y H4, H4 D = some (.lst acc) → Pv D (i + 1) (upd H4 D (.lst (acc ++ [y]))) (acc ++ [y]) → R y H4) → (∀ H3, H3 D = some (.lst acc) → Pv D (i + 1) H3 acc → Z H3) →
      tt ((wipe σ vs).set k (some (.int i))) H' fun b H3 => if b = true then te ((wipe σ vs).set k (some (.int i))) H3 R else Z H3)
    (hd : ∀ D H' acc, H1 D = none → H' D = some (.lst acc) → Pv D n H' acc → Q (.ref D) H')
    (hw : ∀ x, wipe ((wipe σ vs).set k (some x)) vs = wipe σ vs) : tLc (iRng1 (tCons tl tNil)) (gName k) tt te vs σ H Q := by
  refine he _ ⟨n, rfl, by omega, by omega, fun D hD => ?_⟩
  rw [Int.toNat_natCast]
  refine lcg_core walk_range (Pv D) hn (fun _ _ _ _ => trivial) (h0 D hD) (fun i x H' H'' acc R Z hi hl ha hP hY hR hZ => ?_) fun H' acc => hd D H' acc hD
  obtain ⟨rfl, hx⟩ := hY
  have hx' : x = .int (i : Int) := hx.trans (by show V.int (0 + (i : Int)) = _; rw [Int.zero_add])
  subst hx'
  exact ⟨hw _, hstep D i _ acc R Z hi hD hl ha hP hR hZ⟩
theorem lcg_rng2 {k : Nat} {tt : TT} {te : TE} {vs : List Nat} {Q : VK} {l n : Nat} (he : Gives tl σ H (.int l) H1) (he2 : Gives tl2 σ H1 (.int n) H2) (hl : l ≤ n) (hn : n ≤ 100000) (Pv : Addr → Nat → Hp → List V → Prop) (h0 : ∀ D, H2 D = none → Pv D 0 (upd H2 D (.lst [])) [])
    (hstep : ∀ D i H' acc (R : VK) (Z : Hp → Prop), i < n - l → H2 D = none → acc.length ≤ i → H' D = some (.lst acc) → Pv D i H' acc → (∀ y H4, H4 D = some (.lst acc) → Pv D (i + 1) (upd H4 D (.lst (acc ++ [y]))) (acc ++ [y]) → R y H4) → (∀ H3, H3 D = some (.lst acc) → Pv D (i + 1) H3 acc → Z H3) →
      tt ((wipe σ vs).set k (some (.int ((l + i : Nat) : Int)))) H' fun b H3 => if b = true then te ((wipe σ vs).set k (some (.int ((l + i : Nat) : Int)))) H3 R else Z H3)
    (hd : ∀ D H' acc, H2 D = none → H' D = some (.lst acc) → Pv D (n - l) H' acc → Q (.ref D) H')
    (hw : ∀ x, wipe ((wipe σ vs).set k (some x)) vs = wipe σ vs) : tLc (iRng2 (tCons tl (tCons tl2 tNil))) (gName k) tt te vs σ H Q := by
  refine he _ (he2 _ ⟨l, n, rfl, by omega, fun D hD => ?_⟩)
  rw [show ((n : Int) - (l : Int)).toNat = n - l by omega]
  refine lcg_core walk_range (Pv D) (by omega) (fun _ _ _ _ => trivial) (h0 D hD) (fun i x H' H'' acc R Z hi hl ha hP hY hR hZ => ?_) fun H' acc => hd D H' acc hD
  obtain ⟨rfl, hx⟩ := hY
  have hx' : x = .int ((l + i : Nat) : Int) := hx.trans (by show V.int ((l : Int) + (i : Int)) = _; rw [Int.natCast_add])
  subst hx'
  exact ⟨hw _, hstep D i _ acc R Z hi hD hl ha hP hR hZ⟩
theorem lcg_enum {k l : Nat} {tt : TT} {te : TE} {vs : List Nat} {Q : VK} (he : Gives tl σ H v H1) (sq : SqK b H1 v xs) (hn : xs.length ≤ 100000) (Pv : Addr → Nat → Hp → List V → Prop) (hG : ∀ D i H' acc, Pv D i H' acc → SqK b H' v xs) (h0 : ∀ D, H1 D = none → Pv D 0 (upd H1 D (.lst [])) [])
    (hstep : ∀ D i x T H' acc (R : VK) (Z : Hp → Prop), xs[i]? = some x → H1 D = none → acc.length ≤ i → H' D = some (.lst acc) → H' T = none → Pv D i H' acc → (∀ y H4, H4 D = some (.lst acc) → Pv D (i + 1) (upd H4 D (.lst (acc ++ [y]))) (acc ++ [y]) → R y H4) → (∀ H3, H3 D = some (.lst acc) → Pv D (i + 1) H3 acc → Z H3) →
      tt (((wipe σ vs).set k (some (.int i))).set l (some x)) (upd H' T (.tup [.int i, x])) fun b H3 => if b = true then te (((wipe σ vs).set k (some (.int i))).set l (some x)) H3 R else Z H3)
    (hd : ∀ D H' acc, H1 D = none → H' D = some (.lst acc) → Pv D xs.length H' acc → Q (.ref D) H')
    (hw : ∀ x y, wipe (((wipe σ vs).set k (some x)).set l (some y)) vs = wipe σ vs) : tLc (iEnumB K (tCons tl tNil)) (gPair K k l) tt te vs σ H Q := by
  obtain ⟨p, rfl, hp⟩ := sq
  refine he _ ⟨b, p, xs, rfl, SqB.of hp, fun D hD => ?_⟩
  refine lcg_core walk_enumB (Pv D) hn (fun i H' acc q => by obtain ⟨p', e, h⟩ := hG D i H' acc q; cases e; exact SqB.of h) (h0 D hD) (fun i x H' H'' acc R Z hi hl ha hP hY hR hZ => ?_) fun H' acc => hd D H' acc hD
  obtain ⟨T, x1, y1, rfl, hT, rfl, e1, e2⟩ := hY
  cases e1
  exact gPair_new upd_same ⟨hw _ _, hstep D i y1 T H' acc R Z e2 hD hl ha hT hP hR hZ⟩
/-- two names of a pair that stands in the list -/
theorem lcg_pairs {k l : Nat} {tt : TT} {te : TE} {vs : List Nat} {Q : VK} (he : Gives tl σ H v H1) (sq : SqK b H1 v xs) (hn : xs.length ≤ 100000) (Pv : Addr → Nat → Hp → List V → Prop) (hG : ∀ D i H' acc, Pv D i H' acc → SqK b H' v xs) (h0 : ∀ D, H1 D = none → Pv D 0 (upd H1 D (.lst [])) [])
    (hstep : ∀ D i x H' acc (R : VK) (Z : Hp → Prop), xs[i]? = some x → H1 D = none → acc.length ≤ i → H' D = some (.lst acc) → Pv D i H' acc → (∀ y H4, H4 D = some (.lst acc) → Pv D (i + 1) (upd H4 D (.lst (acc ++ [y]))) (acc ++ [y]) → R y H4) → (∀ H3, H3 D = some (.lst acc) → Pv D (i + 1) H3 acc → Z H3) →
      ∃ y z, SqK false H' x [y, z] ∧ tt (((wipe σ vs).set k (some y)).set l (some z)) H' fun b H3 => if b = true then te (((wipe σ vs).set k (some y)).set l (some z)) H3 R else Z H3)
    (hd : ∀ D H' acc, H1 D = none → H' D = some (.lst acc) → Pv D xs.length H' acc → Q (.ref D) H')
    (hw : ∀ x y, wipe (((wipe σ vs).set k (some x)).set l (some y)) vs = wipe σ vs) : tLc (iSeq K tl) (gPair K k l) tt te vs σ H Q := by
  obtain ⟨p, rfl, hp⟩ := sq
  cases b
  · refine .inr (he _ ⟨p, rfl, ⟨xs, SqT.of hp⟩, fun D hD => ?_⟩)
    exact lcg_core walk_tup (Pv D) hn (fun i H' acc q => by obtain ⟨p', e, h⟩ := hG D i H' acc q; cases e; exact SqT.of h) (h0 D hD) (fun i x H' H'' acc R Z hi hl ha hP hY hR hZ => by
      obtain ⟨rfl, hx⟩ := hY
      obtain ⟨y, z, ⟨T, rfl, hT⟩, q⟩ := hstep D i x _ acc R Z hx hD hl ha hP hR hZ
      exact gPair_new hT ⟨hw _ _, q⟩) fun H' acc => hd D H' acc hD
  · refine .inl (he _ ⟨p, rfl, ⟨xs, SqL.of hp⟩, fun D hD => ?_⟩)
    exact lcg_core walk_list (Pv D) hn (fun i H' acc q => by obtain ⟨p', e, h⟩ := hG D i H' acc q; cases e; exact SqL.of h) (h0 D hD) (fun i x H' H'' acc R Z hi hl ha hP hY hR hZ => by
      obtain ⟨rfl, hx⟩ := hY
      obtain ⟨y, z, ⟨T, rfl, hT⟩, q⟩ := hstep D i x _ acc R Z hx hD hl ha hP hR hZ
      exact gPair_new hT ⟨hw _ _, q⟩) fun H' acc => hd D H' acc hD
theorem for_pairs {i j : Nat} {tb : TS} (he : Gives tl σ H v H1) (sq : SqK b H1 v xs) (Pv : Nat → St → Hp → Prop) (h0 : Pv 0 σ H1) (hl : ∀ i σ' H', i ≤ xs.length → Pv i σ' H' → SqK b H' v xs)
    (hs : ∀ k x σ' H', xs[k]? = some x → Pv k σ' H' → ∃ y z, SqK false H' x [y, z] ∧ tb { D with nx := Pv (k + 1), ct := Pv (k + 1), bk := D.nx } ((σ'.set i (some y)).set j (some z)) H') (hd : ∀ σ' H', Pv xs.length σ' H' → D.nx σ' H') : tFor (iSeq K tl) (gPair K i j) tb D σ H := by
  refine for_seq he sq Pv h0 hl (fun k x σ' H' hx q => ?_) hd
  obtain ⟨y, z, ⟨T, rfl, hT⟩, q⟩ := hs k x σ' H' hx q
  exact gPair_new hT q
/-! ### two clauses -/
theorem yesG {σ : St} {H : Hp} {A Z : Hp → Prop} (h : A H) : tYes σ H fun b H3 => if b = true then A H3 else Z H3 := by
  show (if true = true then A H else Z H)
  rw [if_pos rfl]
  exact h
/-- sequences walked within sequences; nothing is left out -/
theorem lc2_seq {g g1 : TG} {te : TE} {vs vs1 : List Nat} {Q : VK} (he : Gives tl σ H v H1) (sq : SqK b H1 v xs) (Pv : Addr → Nat → Hp → List V → Prop) (Pi : Addr → Nat → Nat → Hp → List V → Prop)
    (hG : ∀ D i H' acc, Pv D i H' acc → SqK b H' v xs) (h0 : ∀ D, H1 D = none → Pv D 0 (upd H1 D (.lst [])) []) (hL : ∀ D i j H' acc, Pi D i j H' acc → acc.length ≤ 100000)
    (hstep : ∀ D i x H' acc, xs[i]? = some x → H1 D = none → H' D = some (.lst acc) → Pv D i H' acc → ∃ σ2, wipe σ2 vs = wipe σ vs ∧ (∀ Q : St → Hp → Prop, Q σ2 H' → g x (wipe σ vs) H' Q) ∧ ∃ v2 c ys, Gives tl2 σ2 H' v2 H' ∧ SqK c H' v2 ys ∧ Pi D i 0 H' acc ∧
      (∀ j H'' acc', Pi D i j H'' acc' → SqK c H'' v2 ys) ∧ (∀ j y H'' acc' (R : VK), ys[j]? = some y → H'' D = some (.lst acc') → Pi D i j H'' acc' → (∀ z H4, H4 D = some (.lst acc') → Pi D i (j + 1) (upd H4 D (.lst (acc' ++ [z]))) (acc' ++ [z]) → R z H4) →
        ∃ σ3, wipe σ3 vs1 = wipe σ2 vs1 ∧ (∀ Q : St → Hp → Prop, Q σ3 H'' → g1 y (wipe σ2 vs1) H'' Q) ∧ te σ3 H'' R) ∧ ∀ H'' acc', H'' D = some (.lst acc') → Pi D i ys.length H'' acc' → Pv D (i + 1) H'' acc')
    (hd : ∀ D H' acc, H1 D = none → H' D = some (.lst acc) → Pv D xs.length H' acc → Q (.ref D) H') : tLc2 (iSeq K tl) g tYes (iSeq K tl2) g1 tYes te vs vs1 σ H Q := by
  have inner : ∀ {J1 : It} {n : Nat} {G : Hp → Prop} {Y : Nat → Hp → V → Hp → Prop} (wk : Walk J1 n G Y) (D : Addr) (i : Nat) (ys : List V) (hn : n = ys.length) (σ2 : St) (H4 : Hp) (acc : List V) (Nx : Hp → Prop), (∀ j H' x H'', Y j H' x H'' → H'' = H' ∧ ys[j]? = some x) → H4 D = some (.lst acc) → Pi D i 0 H4 acc → (∀ j H'' acc', Pi D i j H'' acc' → G H'') →
      (∀ j y H'' acc' (R : VK), ys[j]? = some y → H'' D = some (.lst acc') → Pi D i j H'' acc' → (∀ z H4, H4 D = some (.lst acc') → Pi D i (j + 1) (upd H4 D (.lst (acc' ++ [z]))) (acc' ++ [z]) → R z H4) →
        ∃ σ3, wipe σ3 vs1 = wipe σ2 vs1 ∧ (∀ Q : St → Hp → Prop, Q σ3 H'' → g1 y (wipe σ2 vs1) H'' Q) ∧ te σ3 H'' R) → (∀ H'' acc', H'' D = some (.lst acc') → Pi D i ys.length H'' acc' → Nx H'') →
      ∃ W1 : Nat → Nat → Hp → Prop, (∃ m, W1 0 m H4) ∧ ∀ j k H, W1 j k H →
      (J1.stop j H ∧ Nx H) ∨ (J1.go j H ∧ ∃ Nx1 : Hp → Prop, (∀ H', Nx1 H' → ∃ k', k' < k ∧ W1 (j + 1) k' H') ∧ ∀ x H', J1.yld j H x H' → g1 x (wipe σ2 vs1) H' fun σ3 H5 => wipe σ3 vs1 = wipe σ2 vs1 ∧ tYes σ3 H5 fun b H6 =>
        if b = true then te σ3 H6 fun y H7 => ∃ acc, H7 D = some (.lst acc) ∧ acc.length < sizeLine ∧ Nx1 (upd H7 D (.lst (acc ++ [y]))) else Nx1 H6) := by
    intro J1 n G Y wk D i ys hn σ2 H4 acc Nx hY h4 p0 hG2 hs2 hd2
    subst hn
    refine ⟨fun j k H => k = ys.length - j ∧ j ≤ ys.length ∧ ∃ acc, H D = some (.lst acc) ∧ Pi D i j H acc, ⟨_, rfl, Nat.zero_le _, acc, h4, p0⟩, ?_⟩
    rintro j k H ⟨rfl, hj, acc', ha, hp⟩
    have q := hG2 j H acc' hp
    by_cases hlt : j < ys.length
    · refine .inr ⟨wk.goes j H hlt q, fun H' => ∃ acc, H' D = some (.lst acc) ∧ Pi D i (j + 1) H' acc, fun H' p' => ⟨ys.length - (j + 1), by omega, rfl, hlt, p'⟩, fun x H' y => ?_⟩
      obtain ⟨rfl, hx⟩ := hY j H x H' (wk.yields j H x H' hlt q y)
      obtain ⟨σ3, e3, g3, t3⟩ := hs2 j x _ acc' (fun y H7 => ∃ acc, H7 D = some (.lst acc) ∧ acc.length < sizeLine ∧ ∃ acc_1, (upd H7 D (.lst (acc ++ [y]))) D = some (.lst acc_1) ∧ Pi D i (j + 1) (upd H7 D (.lst (acc ++ [y]))) acc_1) hx ha hp
        (fun z H4 h4 p4 => ⟨acc', h4, Nat.lt_of_lt_of_le (by have := hL _ _ _ _ _ hp; omega : acc'.length < 100001) (by decide), _, upd_same, p4⟩)
      exact g3 _ ⟨e3, yes t3⟩
    · have e : j = ys.length := by omega
      subst e
      exact .inl ⟨wk.stops H q, hd2 H acc' ha hp⟩
  have turn : ∀ D i x H' acc (Nx : Hp → Prop), xs[i]? = some x → H1 D = none → H' D = some (.lst acc) → Pv D i H' acc → (∀ H'' acc', H'' D = some (.lst acc') → Pv D (i + 1) H'' acc' → Nx H'') →
      g x (wipe σ vs) H' fun σ2 H2 => wipe σ2 vs = wipe σ vs ∧ tYes σ2 H2 fun b H3 =>
    if b = true then iSeq K tl2 σ2 H3 fun J1 H4 => ∃ W1 : Nat → Nat → Hp → Prop, (∃ m, W1 0 m H4) ∧ ∀ j k H, W1 j k H →
      (J1.stop j H ∧ Nx H) ∨ (J1.go j H ∧ ∃ Nx1 : Hp → Prop, (∀ H', Nx1 H' → ∃ k', k' < k ∧ W1 (j + 1) k' H') ∧ ∀ x H', J1.yld j H x H' → g1 x (wipe σ2 vs1) H' fun σ3 H5 => wipe σ3 vs1 = wipe σ2 vs1 ∧ tYes σ3 H5 fun b H6 =>
        if b = true then te σ3 H6 fun y H7 => ∃ acc, H7 D = some (.lst acc) ∧ acc.length < sizeLine ∧ Nx1 (upd H7 D (.lst (acc ++ [y]))) else Nx1 H6)
    else Nx H3 := by
    intro D i x H' acc Nx hx hD ha hP hN
    obtain ⟨σ2, e2, g2, v2, c, ys, gv, sq2, p0, hG2, hs2, hd2⟩ := hstep D i x H' acc hx hD ha hP
    refine g2 _ ⟨e2, yesG ?_⟩
    obtain ⟨p2, rfl, hp2⟩ := sq2
    cases c
    · refine .inr (gv _ ⟨p2, rfl, ⟨ys, SqT.of hp2⟩, ?_⟩)
      exact inner walk_tup D i ys rfl σ2 H' acc Nx (fun j H' x H'' y => y) ha p0 (fun j H'' acc' q => by obtain ⟨p', e, h⟩ := hG2 j H'' acc' q; cases e; exact SqT.of h) hs2 fun H'' acc' h1 h2 => hN H'' acc' h1 (hd2 H'' acc' h1 h2)
    · refine .inl (gv _ ⟨p2, rfl, ⟨ys, SqL.of hp2⟩, ?_⟩)
      exact inner walk_list D i ys rfl σ2 H' acc Nx (fun j H' x H'' y => y) ha p0 (fun j H'' acc' q => by obtain ⟨p', e, h⟩ := hG2 j H'' acc' q; cases e; exact SqL.of h) hs2 fun H'' acc' h1 h2 => hN H'' acc' h1 (hd2 H'' acc' h1 h2)
  have outer : ∀ {J : It} {G : Hp → Prop} {Y : Nat → Hp → V → Hp → Prop} (wk : Walk J xs.length G Y) (D : Addr) (hD : H1 D = none), (∀ j H' x H'', Y j H' x H'' → H'' = H' ∧ xs[j]? = some x) → (∀ i H'' acc', Pv D i H'' acc' → G H'') →
      ∃ W : Nat → Nat → Hp → Prop, (∃ m, W 0 m (upd H1 D (.lst []))) ∧ ∀ i m H, W i m H →
  (J.stop i H ∧ Q (.ref D) H) ∨ (J.go i H ∧ ∃ Nx : Hp → Prop, (∀ H', Nx H' → ∃ m', m' < m ∧ W (i + 1) m' H') ∧ ∀ x H', J.yld i H x H' → g x (wipe σ vs) H' fun σ2 H2 => wipe σ2 vs = wipe σ vs ∧ tYes σ2 H2 fun b H3 =>
    if b = true then iSeq K tl2 σ2 H3 fun J1 H4 => ∃ W1 : Nat → Nat → Hp → Prop, (∃ m, W1 0 m H4) ∧ ∀ j k H, W1 j k H →
      (J1.stop j H ∧ Nx H) ∨ (J1.go j H ∧ ∃ Nx1 : Hp → Prop, (∀ H', Nx1 H' → ∃ k', k' < k ∧ W1 (j + 1) k' H') ∧ ∀ x H', J1.yld j H x H' → g1 x (wipe σ2 vs1) H' fun σ3 H5 => wipe σ3 vs1 = wipe σ2 vs1 ∧ tYes σ3 H5 fun b H6 =>
        if b = true then te σ3 H6 fun y H7 => ∃ acc, H7 D = some (.lst acc) ∧ acc.length < sizeLine ∧ Nx1 (upd H7 D (.lst (acc ++ [y]))) else Nx1 H6)
    else Nx H3) := by
    intro J G Y wk D hD hY hG2
    refine ⟨fun i m H => m = xs.length - i ∧ i ≤ xs.length ∧ ∃ acc, H D = some (.lst acc) ∧ Pv D i H acc, ⟨_, rfl, Nat.zero_le _, [], upd_same, h0 D hD⟩, ?_⟩
    rintro i m H ⟨rfl, hi, acc, ha, hp⟩
    have q := hG2 i H acc hp
    by_cases hlt : i < xs.length
    · refine .inr ⟨wk.goes i H hlt q, fun H' => ∃ acc, H' D = some (.lst acc) ∧ Pv D (i + 1) H' acc, fun H' p' => ⟨xs.length - (i + 1), by omega, rfl, hlt, p'⟩, fun x H' y => ?_⟩
      obtain ⟨rfl, hx⟩ := hY i H x H' (wk.yields i H x H' hlt q y)
      exact turn D i x _ acc _ hx hD ha hp fun H'' acc' h1 h2 => ⟨acc', h1, h2⟩
    · have e : i = xs.length := by omega
      subst e
      exact .inl ⟨wk.stops H q, hd D H acc hD ha hp⟩
  obtain ⟨p, rfl, hp⟩ := sq
  cases b
  · refine .inr (he _ ⟨p, rfl, ⟨xs, SqT.of hp⟩, fun D hD => ?_⟩)
    exact outer walk_tup D hD (fun j H' x H'' y => y) fun i H'' acc' q => by obtain ⟨p', e, h⟩ := hG D i H'' acc' q; cases e; exact SqT.of h
  · refine .inl (he _ ⟨p, rfl, ⟨xs, SqL.of hp⟩, fun D hD => ?_⟩)
    exact outer walk_list D hD (fun j H' x H'' y => y) fun i H'' acc' q => by obtain ⟨p', e, h⟩ := hG D i H'' acc' q; cases e; exact SqL.of h
end
end Hp
/-! The rules with the written part told (for what stands in a comprehension). -/
namespace Hp
set_option Elab.async false
set_option linter.all false
set_option maxRecDepth 100000
set_option maxHeartbeats 4000000
open PySem PySem.Spec PyProof.Rows L2
section
variable {X : Cx} {K : PySem.W.Frag}
theorem ixK (h : X.K = K) : IxR X (rIx K) := by subst h; exact ix_seq
theorem lenK (h : X.K = K) : CallR X (.builtin "len") (fun xs H Q => ∃ p ys, xs = [.ref p] ∧ (SqL K H p ys ∨ SqT K H p ys) ∧ Q (.int ys.length) H) := by subst h; exact call_len_seq
theorem tupofK (h : X.K = K) : CallR X (.type "tuple") (fun xs H Q => ∃ p ys, xs = [.ref p] ∧ ((SqL K H p ys ∧ ∀ l, H l = none → Q (.ref l) (upd H l (.tup ys))) ∨ (SqT K H p ys ∧ Q (.ref p) H))) := by subst h; exact call_tuple_of
theorem listofK (h : X.K = K) : CallR X (.type "list") (fun xs H Q => ∃ p ys, xs = [.ref p] ∧ (SqL K H p ys ∨ SqT K H p ys) ∧ ∀ l, H l = none → Q (.ref l) (upd H l (.lst ys))) := by subst h; exact call_list_of
theorem fldK {e : Expr} {f : Str} {pos : Pos} {ta : TE} (h : X.K = K) (he : PE X e ta) (hb : attributeBase e f X.env (eval e X.env) = eval e X.env) : PE X (.Attribute e f pos) (tFld K ta f) := by subst h; exact pe_fld he hb
theorem slLK (h : X.K = K) : SlR X (rSlL K) := by subst h; exact sl_list
theorem slTK (h : X.K = K) : SlR X (rSlA K) := by subst h; exact sl_tupA
theorem catTK (h : X.K = K) : OpR X (binaryOp .Add) (rCatA K) := by subst h; exact op_catA
theorem isiK (h : X.K = K) : CallR X (.builtin "isinstance") (rIsi K) := by subst h; exact call_isi
theorem eqDK (h : X.K = K) (hu : X.A.units + 64 < cLine) : OpR X (compareOp .Eq) (rEqD K) := by subst h; exact op_eqD hu
theorem neDK (h : X.K = K) (hu : X.A.units + 64 < cLine) : OpR X (compareOp .NotEq) (rNeD K) := by subst h; exact op_neD hu
theorem sumK (h : X.K = K) (hc : X.calm = true) : CallR X (.builtin "sum") (rSum K) := by subst h; exact cr_sum hc
theorem allK (h : X.K = K) (hc : X.calm = true) : CallR X (.builtin "all") (rAll K) := by subst h; exact cr_all hc
theorem seqK {tg l : Expr} {tl : TE} (h : X.K = K) (hl : PE X l tl) : PI X tg l (iSeq K tl) := by subst h; exact pi_seq hl
theorem starK {e : Expr} {es : List Expr} {te : TE} {t : TA} {p : Pos} (h : X.K = K) (he : PE X e te) (hr : PA X es t) (hs : starEach (.Starred e p :: es) X.env = (true, eval e X.env) :: starEach es X.env := by rfl) : PA X (.Starred e p :: es) (StX.tStar K te t) := by subst h; exact StX.pa_star he hr hs
theorem inK (h : X.K = K) : OpR X (compareOp .In) (rIn K false) := by subst h; exact op_in_seq
/-- o.f = .., a target among others -/
def gFld (K : PySem.W.Frag) (to : TE) (f : Str) : TG := fun v σ H Q => to σ H fun x H2 => ∃ a C dx fs, x = .ref a ∧ H2 a = some (.ins C dx fs) ∧ Cls K C ∧ NoAttr K C f ∧ fs.length < 1000 ∧ Q σ (upd H2 a (.ins C dx (putF f v fs)))
theorem pg_fld {o : Expr} {f : Str} {to : TE} {pos : Pos} (ho : PE X o to)
    (ha : ∀ v, assign (.Attribute o f pos) X.env v = (do
      let ov ← holding [v] (eval o X.env)
      standAt pos.atName
      holding [v, ov] (setAttr ov f v)
      release [v, ov] []) := by intro _; rfl) : PG X (.Attribute o f pos) (gFld X.K to f) := by
  refine ⟨fun pins s σ H v u Q I r h => ?_⟩
  rw [ha]
  refine wpAny_bind (wpAny_holding (thn (ho.run pins s σ H _ I h) fun ov s1 ⟨x, H1, I1, r1, a, C, dx, fs, ex, ea, c, n, l, q1⟩ => ?_))
  subst ex
  obtain rfl : ov = Value.ref a := r1
  refine wpAny_bind (wpAny_standAt (wpAny_bind (wpAny_holding (setattr_ok I1 ea c n l r fun s3 I3 => ?_))))
  exact wpAny_release ⟨σ, _, I3, q1⟩
end
section
variable {σ : L2.St} {H : Hp} {Q : VK} {te : TE} {D : Ends} {K : PySem.W.Frag}
theorem u_fld {ta tv : TE} {f : Str} (h : tv σ H fun y H1 => ta σ H1 fun x H2 => ∃ a C dx fs, x = .ref a ∧ H2 a = some (.ins C dx fs) ∧ Cls K C ∧ NoAttr K C f ∧ fs.length < 1000 ∧ D.nx σ (L2.upd H2 a (.ins C dx (putF f y fs)))) : sFld K ta tv f D σ H := h
theorem u_gname {i : Nat} {v : V} {Q : L2.St → Hp → Prop} (h : Q (σ.set i (some v)) H) : gName i v σ H Q := h
theorem u_next {D : Ends} (h : D.nx σ H) : tNext D σ H := h
theorem u_op {r : R2} {ta tb : TE} (h : ta σ H fun x H1 => tb σ H1 fun y H2 => r x y H2 Q) : tOp r ta tb σ H Q := h
theorem u_opc {r : R2} {v : V} {tb : TE} (h : tb σ H fun y H2 => r v y H2 Q) : tOp r (tC v) tb σ H Q := h
theorem u_lst {ts : TA} (h : ts σ H fun xs H1 => xs.length ≤ sizeLine ∧ ∀ p, H1 p = none → Q (.ref p) (L2.upd H1 p (.lst xs))) : tLst ts σ H Q := h
theorem u_tup {ts : TA} (h : ts σ H fun xs H1 => xs.length ≤ sizeLine ∧ ∀ p, H1 p = none → Q (.ref p) (L2.upd H1 p (.tup xs))) : tTup ts σ H Q := h
theorem u_consC {v : V} {ts : TA} {Q : List V → Hp → Prop} (h : ts σ H fun xs H2 => Q (v :: xs) H2) : tCons (tC v) ts σ H Q := h
theorem u_cons {ts : TA} {Q : List V → Hp → Prop} (h : te σ H fun x H1 => ts σ H1 fun xs H2 => Q (x :: xs) H2) : tCons te ts σ H Q := h
theorem u_star {ts : TA} {Q : List V → Hp → Prop} (h : te σ H fun x H1 => ∃ p xs, x = V.ref p ∧ (SqT K H1 p xs ∨ SqL K H1 p xs) ∧ ts σ H1 fun ys H2 => Q (xs ++ ys) H2) : StX.tStar K te ts σ H Q := h
end
theorem putF_len (f : Str) (v : V) : ∀ fs : List (Str × V), (putF f v fs).length ≤ fs.length + 1
  | [] => by simp [putF]
  | (g, x) :: r => by
    unfold putF
    split
    · simp
    · have := putF_len f v r
      simp; omega
theorem getP (f : Str) (v : V) (fs : List (Str × V)) : (putF f v fs).lookup f = some v := by rw [lookup_putF, if_pos rfl]
theorem getN {f g : Str} (h : g ≠ f) (v : V) (fs : List (Str × V)) : (putF f v fs).lookup g = fs.lookup g := by rw [lookup_putF, if_neg h]
end Hp
namespace Hp
set_option Elab.async false
set_option linter.all false
set_option maxRecDepth 100000
set_option maxHeartbeats 4000000
open PySem PySem.Spec PyProof.Rows L2
/-- at v: a tuple of these numbers -/
def RowAt (H : Hp) (v : V) (qs : List Rat) : Prop := ∃ xs, SqK false H v xs ∧ Nums H xs qs
theorem RowAt.n {H H' : Hp} {v : V} {qs : List Rat} (h : RowAt H v qs) (e : SameN H H') : RowAt H' v qs := by
  obtain ⟨xs, a, b⟩ := h
  exact ⟨xs, a.n e, b.mono e⟩
/-- at v: an arrow -/
def ArAt (H : Hp) (v : V) (p : Nat × Nat) : Prop := SqK false H v [.int (p.1 : Int), .int (p.2 : Int)]
theorem ArAt.n {H H' : Hp} {v : V} {p : Nat × Nat} (h : ArAt H v p) (e : SameN H H') : ArAt H' v p := SqK.n h e
/-- xs are the rows m -/
abbrev RowsAt (H : Hp) (xs : List V) (m : List (List Rat)) : Prop := Paired (RowAt H) xs m
theorem RowsAt.n {H H' : Hp} {xs : List V} {m : List (List Rat)} (h : RowsAt H xs m) (e : SameN H H') : RowsAt H' xs m := Paired.mapP h fun _ _ q => q.n e
theorem ArsAt.n {H H' : Hp} {xs : List V} {m : List (Nat × Nat)} (h : Paired (ArAt H) xs m) (e : SameN H H') : Paired (ArAt H') xs m := Paired.mapP h fun _ _ q => q.n e
section
variable {P : Program} {w : World} {K : PySem.W.Frag} {mg : Str → Option Value} {base : Heap}
def sp_many_words  : Sp :=  fun vs H Q _ => ∃ (g d : Nat), vs = [.int (g : Int), .int (d : Int)] ∧ g ≤ 3 ∧ d ≤ 3 ∧ Q (.int ((g ^ d : Nat) : Int)) H
theorem sc_many_words : FnScope ["goods", "days", "found", "_"] ["goods", "days"] (defScope s_many_words) := ⟨rfl, rfl, rfl, by decide +kernel, rfl, by decide +kernel, by decide +kernel⟩
theorem c_many_words (T : Wd K mg base) : Cal P w K mg base 1 "many_words" sp_many_words [] := by
  obtain ⟨fd, F⟩ := T.d_many_words
  refine mkCal (k := 1 - 1) F T.g_many_words sc_many_words (F.bindsN fun _ _ _ _ _ _ us hl => match us, hl with | [_, _], _ => rfl) (fun vs H Q E h => ?_) (fun cdv A outer s H vs Q E hr h => ?_)
  · rcases h with ⟨g, d, rfl, hg, hd, k⟩ <;> rfl
  · rcases h with ⟨g, d, rfl, hg, hd, k⟩
    refine ⟨_, (pss_cons (ps_set (i := 2) sc_many_words.nd rfl (Or.inl rfl) pe_int)
  (pss_cons (ps_for PassesOwn.never rfl (pi_range1 rfl T.f_range (pa_cons (pv 1) pa_nil)) (pg_name (i := 3) sc_many_words.nd rfl (Or.inl rfl))
  (pss_one (ps_set (i := 2) sc_many_words.nd rfl (Or.inl rfl) (pe_callB (call_min2 rfl) (by rfl) T.f_min (by decide +kernel) (pa_cons (pe_op op_mulW (pv 2) (pv 0)) (pa_cons (pe_op op_add (pe_gc rfl T.most_words) pe_int) pa_nil))))))
  (pss_one (ps_ret (pv 2))))), ?_⟩
    refine for_rng1 (n := d) (gives_var rfl) (by omega) (fun i σ' H' => ∃ x, σ' = [some (.int (g : Int)), some (.int (d : Int)), some (.int ((g ^ i : Nat) : Int)), x] ∧ H' = H) ⟨_, rfl, rfl⟩ ?_ ?_
    · rintro i σ' H' hi ⟨x, rfl, rfl⟩
      have hb : g ^ i ≤ 27 := Nat.le_trans (Nat.pow_le_pow_left hg i) (Nat.le_trans (Nat.pow_le_pow_right (by decide) (by omega : i ≤ 3)) (by decide))
      refine ⟨_, rfl, _, rfl, _, _, rfl, rfl, small_mul (by simp; omega) (by simp; omega), _, _, rfl, rfl, _, _, rfl, ?_⟩
      have e : (if (4096 : Int) + 1 < ((g ^ i : Nat) : Int) * (g : Int) then (4096 : Int) + 1 else ((g ^ i : Nat) : Int) * (g : Int)) = ((g ^ (i + 1) : Nat) : Int) := by
        rw [Nat.pow_succ, if_neg]
        · simp
        · have : g ^ i * g ≤ 27 * 3 := Nat.mul_le_mul hb hg
          have h2 : ((g ^ i : Nat) : Int) * (g : Int) = ((g ^ i * g : Nat) : Int) := by simp
          omega
      dsimp only
      rw [e]
      exact ⟨_, rfl, rfl⟩
    · rintro σ' H' ⟨x, rfl, rfl⟩
      exact ⟨_, rfl, k⟩
def sp_need_few_words  : Sp :=  fun vs H Q _ => ∃ (g d : Nat), vs = [.int (g : Int), .int (d : Int)] ∧ g ≤ 3 ∧ d ≤ 3 ∧ Q .non H
theorem sc_need_few_words : FnScope ["goods", "days"] ["goods", "days"] (defScope s_need_few_words) := ⟨rfl, rfl, rfl, by decide +kernel, rfl, by decide +kernel, by decide +kernel⟩
theorem c_need_few_words (T : Wd K mg base) : Cal P w K mg base 3 "need_few_words" sp_need_few_words [] := by
  obtain ⟨fd, F⟩ := T.d_need_few_words
  refine mkCal (k := 3 - 1) F T.g_need_few_words sc_need_few_words (F.bindsN fun _ _ _ _ _ _ us hl => match us, hl with | [_, _], _ => rfl) (fun vs H Q E h => ?_) (fun cdv A outer s H vs Q E hr h => ?_)
  · rcases h with ⟨g, d, rfl, hg, hd, k⟩ <;> rfl
  · rcases h with ⟨g, d, rfl, hg, hd, k⟩
    refine ⟨_, (pss_one (ps_if (pt_cmpR op_gt (pe_c (c_many_words T) hr (by decide) rfl (pa_cons (pv 0) (pa_cons (pv 1) pa_nil))) (pe_gc rfl T.most_words) (nomark _)) pss_never pss_nil)), ?_⟩
    have hb : g ^ d ≤ 27 := Nat.le_trans (Nat.pow_le_pow_left hg d) (Nat.le_trans (Nat.pow_le_pow_right (by decide) hd) (by decide))
    refine ⟨_, rfl, _, rfl, g, d, rfl, hg, hd, _, _, rfl, rfl, _, rfl, itf (df (by omega)) k⟩
def sp_run_in  : Sp :=  fun vs H Q _ => ∃ b v u xs ys ps m, vs = [v, u] ∧ SqK false H v xs ∧ Nums H xs ps ∧ SqK b H u ys ∧ RowsAt H ys m ∧ ys.length ≤ 1000 ∧ xs.length ≤ 1000 ∧ (∀ q ∈ ps, Sz q) ∧ (∀ d ∈ m, (∀ q ∈ d, Sz q) ∧ SzSum (rmul ps d)) ∧ SzProd (m.map (rdot ps)) ∧ ∀ x H', Same H H' → Num H' x (rprod (m.map (rdot ps))) → Q x H'
theorem sc_run_in : FnScope ["shares", "market", "day"] ["shares", "market"] (defScope s_run_in) := ⟨rfl, rfl, rfl, by decide +kernel, rfl, by decide +kernel, by decide +kernel⟩
theorem c_run_in (T : Wd K mg base) : Cal P w K mg base 6 "run_in" sp_run_in [] := by
  obtain ⟨fd, F⟩ := T.d_run_in
  refine mkCal (k := 6 - 1) F T.g_run_in sc_run_in (F.bindsN fun _ _ _ _ _ _ us hl => match us, hl with | [_, _], _ => rfl) (fun vs H Q E h => ?_) (fun cdv A outer s H vs Q E hr h => ?_)
  · rcases h with ⟨b, v, u, xs, ys, ps, m, rfl, sx, hx, sy, hy, ly, lx, zp, zm, zt, k⟩ <;> rfl
  · rcases h with ⟨b, v, u, xs, ys, ps, m, rfl, sx, hx, sy, hy, ly, lx, zp, zm, zt, k⟩
    refine ⟨_, (pss_one (ps_ret (pe_c (c_multiplied T) hr (by decide) rfl (pa_cons (pe_lc (own := [("day", 2)]) rfl sc_run_in.nd (pi_seq (pv 1)) (blkOk_by (own := [("day", 2)]) (N := ["shares", "market", "day"]) (sc := defScope s_run_in) (by decide +kernel)) (fun _ _ _ _ _ => by exact (pg_name (i := 2) sc_run_in.nd rfl (by first | exact Or.inl rfl | exact Or.inr rfl))) (fun _ _ _ _ _ => by exact pts_nil) (fun _ _ _ _ _ => by exact (pe_c (c_summed T) hr (by decide) rfl (pa_cons (pv 0) (pa_cons (pv 2) pa_nil))))) pa_nil)))), ?_⟩
    refine u_ret (u_call1 ?_)
    refine lc_seq (H1 := H) ?_ sy (by omega) (fun D i H' z => ∀ d, m[i]? = some d → Num H' z (rdot ps d)) (fun D i H1 H2 z c h d hd => (h d hd).mono c.n) ?_ ?_ (fun _ => rfl)
    · exact gives_var rfl
    · intro D i x H' R hi hD s1 hDn hR
      obtain ⟨d, hd, zs, sz, hz⟩ := paired_get hy hi
      obtain ⟨z1, z2⟩ := zm d (mem_get hd)
      refine ⟨_, rfl, _, rfl, false, false, v, x, xs, zs, ps, d, rfl, sx.same s1, sz.n s1.n, hx.mono s1.n, hz.mono s1.n, by omega, zp, z1, z2, fun y H4 s4 hy4 => hR y H4 s4 fun d' hd' => ?_⟩
      rw [hd] at hd'; cases hd'; exact hy4
    · intro D H' zs hD s1 hDz hl2 hF
      refine ⟨true, _, zs, _, rfl, SqK.lst hDz, paired_of (by simp [hl2, hy.length]) fun i z r hz hr => ?_, zt, fun x H2 s2 hx2 => k x H2 (s1.trans s2) hx2⟩
      rw [List.getElem?_map] at hr
      obtain ⟨d, hd, rfl⟩ := Option.map_eq_some_iff.mp hr
      exact hF i z hz d hd
/-- a column -/
def colOf (m : List (List Rat)) (j : Nat) : List Rat := m.map fun r => r.getD j 0
def sp_lines_of  : Sp :=  fun vs H Q _ => ∃ (v : V) (xs : List V) (m : List (List Rat)), vs = [v] ∧ SqK true H v xs ∧ Paired (fun x r => ∃ zs, SqK true H x zs ∧ Nums H zs r) xs m ∧ (∀ r ∈ m, r.length = m.length) ∧ m.length ≤ 1000 ∧ ∀ p H' zs cs, Same H H' → H' p = some (.tup zs) → RowsAt H' zs cs → cs.length = m.length → (∀ j c, cs[j]? = some c → c = colOf m j) → Q (.ref p) H'
theorem sc_lines_of : FnScope ["square", "at", "row"] ["square"] (defScope s_lines_of) := ⟨rfl, rfl, rfl, by decide +kernel, rfl, by decide +kernel, by decide +kernel⟩
theorem c_lines_of (T : Wd K mg base) : Cal P w K mg base 1 "lines_of" sp_lines_of [] := by
  obtain ⟨fd, F⟩ := T.d_lines_of
  refine mkCal (k := 1 - 1) F T.g_lines_of sc_lines_of (F.bindsN fun _ _ _ _ _ _ us hl => match us, hl with | [_], _ => rfl) (fun vs H Q E h => ?_) (fun cdv A outer s H vs Q E hr h => ?_)
  · rcases h with ⟨v, xs, m, rfl, sx, hm, hl, hml, k⟩ <;> rfl
  · rcases h with ⟨v, xs, m, rfl, sx, hm, hl, hml, k⟩
    refine ⟨_, (pss_one (ps_ret (pe_callTy call_tuple_of (by rfl) T.f_tuple (by decide +kernel) (pa_cons (pe_lc (own := [("at", 1)]) rfl sc_lines_of.nd (pi_range1 rfl T.f_range (pa_cons (pe_callB call_len_seq (by rfl) T.f_len (by decide +kernel) (pa_cons (pv 0) pa_nil)) pa_nil)) (blkOk_by (own := [("at", 1)]) (N := ["square", "at", "row"]) (sc := defScope s_lines_of) (by decide +kernel)) (fun _ _ _ _ _ => by exact (pg_name (i := 1) sc_lines_of.nd rfl (by first | exact Or.inl rfl | exact Or.inr rfl))) (fun _ _ _ _ _ => by exact pts_nil) (fun _ _ _ _ _ => by exact (pe_callTy (tupofK (K := K) rfl) (by rfl) T.f_tuple (by decide +kernel) (pa_cons (pe_lc (own := [("row", 2)]) rfl sc_lines_of.nd (seqK (K := K) rfl (pv 0)) (blkOk_by (own := [("row", 2)]) (by kernel_rfl)) (fun _ _ _ _ _ => by exact (pg_name (i := 2) sc_lines_of.nd rfl (by first | exact Or.inl rfl | exact Or.inr rfl))) (fun _ _ _ _ _ => by exact pts_nil) (fun _ _ _ _ _ => by exact (pe_ix (ixK (K := K) rfl) (pv 2) (pv 1) (fun _ _ => rfl)))) pa_nil)))) pa_nil)))), ?_⟩
    refine u_ret (u_cb1 ?_)
    have hlen := hm.length
    refine lc_rng1 (H1 := H) (n := m.length) ?_ (by omega) (fun D j H' z => RowAt H' z (colOf m j)) (fun D i H1 H2 z c h => h.n c.n) ?_ ?_ (fun _ => rfl)
    · intro R r
      refine ⟨_, rfl, lenOf sx ?_⟩
      rw [hlen]; exact r
    · intro D j H' R hj hD s1 hDn hR
      refine u_cb1 ?_
      refine lc_seq (H1 := H') ?_ (sx.same s1) (by omega) (fun D i H' z => ∀ r, m[i]? = some r → Num H' z (r.getD j 0)) (fun D i H1 H2 z c h d hd => (h d hd).mono c.n) ?_ ?_ (fun _ => rfl)
      · exact gives_var rfl
      · intro D2 i x H2 R2 hi hD2 s2 hDn2 hR2
        obtain ⟨r, hr', zs, sz, hz⟩ := paired_get hm hi
        have hrl := hl r (mem_get hr')
        have hj' : j < zs.length := by rw [hz.length]; omega
        have hg : zs[j]? = some zs[j] := by simp
        obtain ⟨q, hq, hn⟩ := paired_get hz hg
        refine ⟨_, rfl, _, rfl, ixOf (i := j) ((sz.same s1).same s2) hg (hR2 _ _ (Same.refl _) fun r' hr2 => ?_)⟩
        rw [hr'] at hr2; cases hr2
        rw [List.getD_eq_getElem?_getD, hq]
        exact (hn.mono s1.n).mono s2.n
      · intro D2 H2 zs hD2 s2 hDz hl2 hF
        refine ⟨_, zs, rfl, .inl ⟨SqL.of hDz, fun t nt => hR _ _ (s2.trans (Same.of_new nt)) ⟨zs, SqK.tup upd_same, paired_of (by simp [hl2, hlen, colOf]) fun i z q hz hq => ?_⟩⟩⟩
        unfold colOf at hq
        rw [List.getElem?_map] at hq
        obtain ⟨r, hr', rfl⟩ := Option.map_eq_some_iff.mp hq
        exact (hF i z hz r hr').mono (Same.of_new nt).n
    · intro D H' zs hD s1 hDz hl2 hF
      refine ⟨_, zs, rfl, .inl ⟨SqL.of hDz, fun t nt => ?_⟩⟩
      refine k t _ zs ((List.range m.length).map (colOf m)) (s1.trans (Same.of_new nt)) upd_same (paired_of (by simp [hl2]) fun j z c hz hc => ?_) (by simp) fun j c hc => ?_
      · rw [List.getElem?_map] at hc
        obtain ⟨j', hj', rfl⟩ := Option.map_eq_some_iff.mp hc
        have e : j' = j := by
          have := List.getElem?_eq_some_iff.mp hj'
          simpa using this.2.symm
        subst e
        exact (hF _ z hz).n (Same.of_new nt).n
      · rw [List.getElem?_map] at hc
        obtain ⟨j', hj', rfl⟩ := Option.map_eq_some_iff.mp hc
        have e : j' = j := by
          have := List.getElem?_eq_some_iff.mp hj'
          simpa using this.2.symm
        subst e; rfl
/-- a mix -/
def MixOk (m : List Rat) : Prop := (∀ q ∈ m, 0 ≤ q) ∧ (∀ q ∈ m, q.num.natAbs < 2 ^ 20 ∧ q.den < 2 ^ 20) ∧ rsum m = 1
def sp_are_mixes  : Sp :=  fun vs H Q _ => ∃ b v xs ms g, vs = [v] ∧ SqK b H v xs ∧ RowsAt H xs ms ∧ ms ≠ [] ∧ ms.length ≤ 6 ∧ (∀ m ∈ ms, m.length = g ∧ MixOk m) ∧ 1 ≤ g ∧ g ≤ 5 ∧ ∀ H', Same H H' → Q (.bl true) H'
theorem sc_are_mixes : FnScope ["value", "goods", "each"] ["value"] (defScope s_are_mixes) := ⟨rfl, rfl, rfl, by decide +kernel, rfl, by decide +kernel, by decide +kernel⟩
theorem c_are_mixes (T : Wd K mg base) : Cal P w K mg base 7 "are_mixes" sp_are_mixes [] := by
  obtain ⟨fd, F⟩ := T.d_are_mixes
  refine mkCal (k := 7 - 1) F T.g_are_mixes sc_are_mixes (F.bindsN fun _ _ _ _ _ _ us hl => match us, hl with | [_], _ => rfl) (fun vs H Q E h => ?_) (fun cdv A outer s H vs Q E hr h => ?_)
  · rcases h with ⟨b, v, xs, ms, g, rfl, sx, hm, hne, hl, hok, hg1, hg5, k⟩ <;> rfl
  · rcases h with ⟨b, v, xs, ms, g, rfl, sx, hm, hne, hl, hok, hg1, hg5, k⟩
    refine ⟨_, (pss_cons (ps_if (PW.pt (pw_or (pt_not (pt_val (pe_c (c_is_list T) hr (by decide) rfl (pa_cons (pv 0) pa_nil)))) (pw_or (pt_not (pt_val (pe_c (c_is_within T) hr (by decide) rfl (pa_cons (pe_callB call_len_seq (by rfl) T.f_len (by decide +kernel) (pa_cons (pv 0) pa_nil)) (pa_cons pe_int (pa_cons (pe_gc rfl T.most_standings) pa_nil)))))) (pw_or1 (pt_not (pt_val (pe_c (c_is_list T) hr (by decide) rfl (pa_cons (pe_ix ix_seq (pv 0) pe_int (fun _ _ => rfl)) pa_nil)))))))) (pss_one (ps_ret pe_bl)) pss_nil)
  (pss_cons (ps_set (i := 1) sc_are_mixes.nd rfl (Or.inr rfl) (pe_callB call_len_seq (by rfl) T.f_len (by decide +kernel) (pa_cons (pe_ix ix_seq (pv 0) pe_int (fun _ _ => rfl)) pa_nil)))
  (pss_one (ps_ret (pe_and (pe_c (c_is_within T) hr (by decide) rfl (pa_cons (pv 1) (pa_cons pe_int (pa_cons (pe_gc rfl T.most_goods) pa_nil)))) (pe_one (pe_callB (cr_all rfl) (by rfl) T.f_all (by decide +kernel) (pa_cons (pe_lc (own := [("each", 2)]) rfl sc_are_mixes.nd (pi_seq (pv 0)) (blkOk_by (own := [("each", 2)]) (N := ["value", "goods", "each"]) (sc := defScope s_are_mixes) (by decide +kernel)) (fun _ _ _ _ _ => by exact (pg_name (i := 2) sc_are_mixes.nd rfl (by first | exact Or.inl rfl | exact Or.inr rfl))) (fun _ _ _ _ _ => by exact pts_nil) (fun _ _ _ _ _ => by exact (pe_c (c_is_mix_of T) hr (by decide) rfl (pa_cons (pv 2) (pa_cons (pv 1) pa_nil))))) pa_nil)))))))), ?_⟩
    have hlen := hm.length
    have h1 : 1 ≤ xs.length := by
      cases ms with
      | nil => exact absurd rfl hne
      | cons a l => rw [hlen]; simp
    have h0 : xs[0]? = some xs[0] := by simp
    obtain ⟨m0, hm0, zs0, sz0, hz0⟩ := paired_get hm h0
    obtain ⟨pv, rfl, _⟩ := id sx
    obtain ⟨pz, ez, hpz⟩ := id sz0
    refine ⟨_, rfl, .inr ⟨_, _, rfl, sx.to, fun H1 s1 => ⟨_, rfl, iteF ?_⟩⟩⟩
    refine ⟨_, rfl, _, _, rfl, (sx.same s1).or, _, some 1, some 6, rfl, _, rfl, itf (by simp [inR]; omega) ?_⟩
    rw [ez] at h0 sz0
    refine ⟨_, rfl, ixOf (i := 0) (sx.same s1) h0 (.inr ⟨_, _, rfl, (sz0.same s1).to, fun H2 s2 => ⟨_, rfl, iteF ?_⟩⟩)⟩
    refine ⟨_, rfl, ixOf (i := 0) ((sx.same s1).same s2) h0 ⟨_, _, rfl, ((sz0.same s1).same s2).or, ?_⟩⟩
    have e0 : zs0.length = g := by rw [hz0.length]; exact (hok m0 (mem_get hm0)).1
    rw [e0]
    refine ⟨_, rfl, _, some 1, some 5, rfl, _, rfl, itt (by simp [inR]; omega) ?_⟩
    refine u_cb1 ?_
    refine lc_seq (H1 := H2) ?_ ((sx.same s1).same s2) (by omega) (fun D i H' z => z = .bl true) (fun _ _ _ _ _ _ h => h) ?_ ?_ (fun _ => rfl)
    · exact gives_var rfl
    · intro D i x H' R hx hD s3 hDn hR
      obtain ⟨m, hm', zs, sz, hz⟩ := paired_get hm hx
      obtain ⟨e, o1, o2, o3⟩ := hok m (mem_get hm')
      have ss := (s1.trans s2).trans s3
      refine ⟨_, rfl, _, rfl, false, x, zs, m, by rw [hz.length, e]; rfl, sz.same ss, hz.mono ss.n, o1, by omega, o2, o3, fun H4 s4 => hR _ _ s4 rfl⟩
    · intro D H' zs hD s3 hDz hl2 hF
      refine ⟨_, _, rfl, SqL.of (by rw [← all_true hF]; exact hDz), ?_⟩
      rw [all_rep]
      exact k _ ((s1.trans s2).trans s3)
end
end Hp
namespace Hp
set_option Elab.async false
set_option linter.all false
set_option maxRecDepth 100000
set_option maxHeartbeats 4000000
open PySem PySem.Spec PyProof.Rows L2
theorem cut_drop (xs : List V) (k : Nat) : cutV xs (some (k : Int)) none = xs.drop k := by
  unfold cutV
  rw [HT.sIx_nat, HT.sIx_none]
  by_cases h : k ≤ xs.length
  · rw [Nat.min_eq_left h, List.take_of_length_le (by simp)]
  · rw [Nat.min_eq_right (by omega), List.drop_eq_nil_of_le (Nat.le_refl _), List.drop_eq_nil_of_le (by omega)]; simp
theorem cut_take (xs : List V) (k : Nat) : cutV xs none (some (k : Int)) = xs.take k := by
  unfold cutV
  rw [HT.sIx_nat, HT.sIx_none, List.drop_zero, Nat.sub_zero]
  by_cases h : k ≤ xs.length
  · rw [Nat.min_eq_left h]
  · rw [Nat.min_eq_right (by omega), List.take_of_length_le (Nat.le_refl _), List.take_of_length_le (by omega)]
section
variable {X : Cx} {K : PySem.W.Frag}
theorem sl_any : SlR X (fun x lo hi H Q => rSlL X.K x lo hi H Q ∨ rSlA X.K x lo hi H Q) := SlR.or sl_list sl_tupA
theorem slOf {b : Bool} {H : Hp} {v : V} {xs : List V} {lo hi : Option Int} {Q : VK} (sq : SqK b H v xs) (k : ∀ p H', Same H H' → SqK b H' (.ref p) (cutV xs lo hi) → Q (.ref p) H') : rSlL K v lo hi H Q ∨ rSlA K v lo hi H Q := by
  obtain ⟨p, rfl, hp⟩ := sq
  cases b
  · refine .inr ⟨p, xs, rfl, SqT.of hp, fun e => k p H (Same.refl _) ⟨p, rfl, ?_⟩, fun e q nq => k q _ (Same.of_new nq) (SqK.tup upd_same)⟩
    rw [hp]
    unfold cutV
    rw [e.1, e.2, List.drop_zero, Nat.sub_zero, List.take_length] <;> rfl
  · exact .inl ⟨p, xs, rfl, SqL.of hp, fun q nq => k q _ (Same.of_new nq) (SqK.lst upd_same)⟩
end
section
variable {K : PySem.W.Frag} {tl : TE} {σ : St} {H : Hp} {xs : List V} {b : Bool} {D : Ends}
/-- a sequence that is made there is walked -/
theorem for_seqG {g : TG} {tb : TS} (Good : V → Hp → Prop) (he : ∀ R : VK, (∀ v H1, Good v H1 → R v H1) → tl σ H R) (sq : ∀ v H1, Good v H1 → SqK b H1 v xs) (Pv : V → Nat → St → Hp → Prop) (h0 : ∀ v H1, Good v H1 → Pv v 0 σ H1) (hl : ∀ v i σ' H', i ≤ xs.length → Pv v i σ' H' → SqK b H' v xs)
    (hs : ∀ v i x σ' H', xs[i]? = some x → Pv v i σ' H' → g x σ' H' fun σ2 H2 => tb { D with nx := Pv v (i + 1), ct := Pv v (i + 1), bk := D.nx } σ2 H2) (hd : ∀ v σ' H', Pv v xs.length σ' H' → D.nx σ' H') : tFor (iSeq K tl) g tb D σ H := by
  cases b
  · refine .inr (he _ fun v H1 hv => ?_)
    obtain ⟨p, rfl, hp⟩ := sq v H1 hv
    refine ⟨p, rfl, ⟨xs, SqT.of hp⟩, for_it walk_tup (Pv (.ref p)) (h0 _ _ hv) (fun i σ' H' hi q => ?_) (fun i x σ' H' H'' _ q y => ?_) (hd _)⟩
    · obtain ⟨p', e, h⟩ := hl _ i σ' H' hi q
      cases e; exact SqT.of h
    · obtain ⟨rfl, hx⟩ := y
      exact hs _ i x σ' _ hx q
  · refine .inl (he _ fun v H1 hv => ?_)
    obtain ⟨p, rfl, hp⟩ := sq v H1 hv
    refine ⟨p, rfl, ⟨xs, SqL.of hp⟩, for_it walk_list (Pv (.ref p)) (h0 _ _ hv) (fun i σ' H' hi q => ?_) (fun i x σ' H' H'' _ q y => ?_) (hd _)⟩
    · obtain ⟨p', e, h⟩ := hl _ i σ' H' hi q
      cases e; exact SqL.of h
    · obtain ⟨rfl, hx⟩ := y
      exact hs _ i x σ' _ hx q
end
/-- the greatest of some numbers, one at least -/
def rmaxs : List Rat → Rat
  | [] => 0
  | a :: l => l.foldl rmax a
theorem foldl_take_snoc {α β : Type} (f : β → α → β) (b : β) {l : List α} {i : Nat} {x : α} (h : l[i]? = some x) : (l.take (i + 1)).foldl f b = f ((l.take i).foldl f b) x := by
  rw [take_snoc h, List.foldl_append]; rfl
/-- an attribute -/
abbrev fget (fs : List (Str × V)) (f : Str) : Option V := fs.lookup f
/-- a machine -/
def MacAt (K : PySem.W.Frag) (H : Hp) (v : V) (g : Nat) (ms : List (List Rat)) (as : List (Nat × Nat)) : Prop :=
  ∃ fs vm xm va xa, InsAt H v (He.ga K "Machine") fs ∧ fget fs "mixes" = some vm ∧ SqK false H vm xm ∧ RowsAt H xm ms ∧ fget fs "arrows" = some va ∧ SqK false H va xa ∧ Paired (ArAt H) xa as ∧ fget fs "many" = some (.int (ms.length : Int)) ∧ fget fs "goods" = some (.int (g : Int))
theorem MacAt.n {K : PySem.W.Frag} {H H' : Hp} {v : V} {g : Nat} {ms : List (List Rat)} {as : List (Nat × Nat)} (h : MacAt K H v g ms as) (e : SameN H H') : MacAt K H' v g ms as := by
  obtain ⟨fs, vm, xm, va, xa, h1, h2, h3, h4, h5, h6, h7, h8, h9⟩ := h
  exact ⟨fs, vm, xm, va, xa, h1.n e, h2, h3.n e, h4.n e, h5, h6.n e, ArsAt.n h7 e, h8, h9⟩
/-- what each standing has behind a day, ahead of the arrows -/
def gone (ms : List (List Rat)) (ws d : List Rat) : List Rat := (ws.zip ms).map fun p => p.1 * rdot p.2 d
def ledF (gn : List Rat) (l : List Rat) (p : Nat × Nat) : List Rat := l.set p.2 (rmax (l.getD p.2 0) (gn.getD p.1 0))
def led (ms : List (List Rat)) (as : List (Nat × Nat)) (ws d : List Rat) : List Rat := as.foldl (ledF (gone ms ws d)) (List.replicate ws.length 0)
theorem gone_len (ms : List (List Rat)) (ws d : List Rat) : (gone ms ws d).length = min ws.length ms.length := by simp [gone]
theorem gone_get {ms : List (List Rat)} {ws d : List Rat} {i : Nat} {x : Rat} {m : List Rat} (h1 : ws[i]? = some x) (h2 : ms[i]? = some m) : (gone ms ws d)[i]? = some (x * rdot m d) := by
  simp only [gone, List.getElem?_map, (List.getElem?_zip_eq_some (l₁ := ws) (l₂ := ms) (z := (x, m))).mpr ⟨h1, h2⟩, Option.map_some]
theorem ledF_len (gn l : List Rat) (p : Nat × Nat) : (ledF gn l p).length = l.length := by simp [ledF]
theorem led_foldl_len (gn : List Rat) (as : List (Nat × Nat)) (l : List Rat) : (as.foldl (ledF gn) l).length = l.length := by
  induction as generalizing l with
  | nil => rfl
  | cons a as ih => rw [List.foldl_cons, ih, ledF_len]
theorem led_len (ms : List (List Rat)) (as : List (Nat × Nat)) (ws d : List Rat) : (led ms as ws d).length = ws.length := by
  unfold led; rw [led_foldl_len]; simp
theorem getD_all {P : Rat → Prop} {l : List Rat} (h : ∀ q ∈ l, P q) (h0 : P 0) (i : Nat) : P (l.getD i 0) := by
  rw [List.getD_eq_getElem?_getD]
  cases e : l[i]? with
  | none => exact h0
  | some q => exact h q (List.mem_of_getElem? e)
theorem ledF_all {P : Rat → Prop} (h0 : P 0) (hm : ∀ p q, P p → P q → P (rmax p q)) {gn l : List Rat} {p : Nat × Nat} (hg : ∀ q ∈ gn, P q) (hl : ∀ q ∈ l, P q) : ∀ q ∈ ledF gn l p, P q := by
  intro q hq
  rcases List.mem_or_eq_of_mem_set hq with h | rfl
  · exact hl q h
  · exact hm _ _ (getD_all hl h0 _) (getD_all hg h0 _)
theorem led_foldl_all {P : Rat → Prop} (h0 : P 0) (hm : ∀ p q, P p → P q → P (rmax p q)) {gn : List Rat} (hg : ∀ q ∈ gn, P q) (as : List (Nat × Nat)) {l : List Rat} (hl : ∀ q ∈ l, P q) : ∀ q ∈ as.foldl (ledF gn) l, P q := by
  induction as generalizing l with
  | nil => exact hl
  | cons a as ih => rw [List.foldl_cons]; exact ih (ledF_all h0 hm hg hl)
theorem gone_all {P : Rat → Prop} {ms : List (List Rat)} {ws d : List Rat} (h : ∀ w ∈ ws, ∀ m ∈ ms, P (w * rdot m d)) : ∀ q ∈ gone ms ws d, P q := by
  intro q hq
  unfold gone at hq
  obtain ⟨⟨w, m⟩, hp, rfl⟩ := List.mem_map.mp hq
  exact h w (List.of_mem_zip hp).1 m (List.of_mem_zip hp).2
theorem paired_set {α β : Type} {F : α → β → Prop} {l : List α} {m : List β} (h : Paired F l m) (i : Nat) {x : α} {y : β} (f : F x y) : Paired F (l.set i x) (m.set i y) := by
  induction h generalizing i with
  | nil => exact .nil
  | cons r t ih =>
    cases i with
    | zero => exact .cons f t
    | succ i => exact .cons r (ih i)
theorem paired_rep {α β : Type} {F : α → β → Prop} {x : α} {y : β} (f : F x y) : ∀ n, Paired F (List.replicate n x) (List.replicate n y)
  | 0 => .nil
  | n + 1 => .cons f (paired_rep f n)
section
variable {P : Program} {w : World} {K : PySem.W.Frag} {mg : Str → Option Value} {base : Heap}
def sp_greatest_of  : Sp :=  fun vs H Q _ => ∃ b v xs qs, vs = [v] ∧ SqK b H v xs ∧ Nums H xs qs ∧ qs ≠ [] ∧ (∀ q ∈ qs, Sz q) ∧ ∀ x H', Same H H' → Num H' x (rmaxs qs) → Q x H'
theorem sc_greatest_of : FnScope ["numbers", "found", "number"] ["numbers"] (defScope s_greatest_of) := ⟨rfl, rfl, rfl, by decide +kernel, rfl, by decide +kernel, by decide +kernel⟩
theorem c_greatest_of (T : Wd K mg base) : Cal P w K mg base 4 "greatest_of" sp_greatest_of [] := by
  obtain ⟨fd, F⟩ := T.d_greatest_of
  refine mkCal (k := 4 - 1) F T.g_greatest_of sc_greatest_of (F.bindsN fun _ _ _ _ _ _ us hl => match us, hl with | [_], _ => rfl) (fun vs H Q E h => ?_) (fun cdv A outer s H vs Q E hr h => ?_)
  · rcases h with ⟨b, v, xs, qs, rfl, sq, hn, hne, sz, k⟩ <;> rfl
  · rcases h with ⟨b, v, xs, qs, rfl, sq, hn, hne, sz, k⟩
    refine ⟨_, (pss_cons (ps_set (i := 1) sc_greatest_of.nd rfl (Or.inl rfl) (pe_ix ix_seq (pv 0) pe_int (fun _ _ => rfl)))
  (pss_cons (ps_for PassesOwn.never rfl (pi_seq (pe_slice sl_any (pv 0) (po_some pe_int) po_none)) (pg_name (i := 2) sc_greatest_of.nd rfl (Or.inl rfl))
  (pss_one (ps_set (i := 1) sc_greatest_of.nd rfl (Or.inl rfl) (pe_c (c_greater T) hr (by decide) rfl (pa_cons (pv 1) (pa_cons (pv 2) pa_nil))))))
  (pss_one (ps_ret (pv 1))))), ?_⟩
    cases hn with
    | nil => exact absurd rfl hne
    | @cons x0 q0 xs qs h0 hn =>
      refine ⟨_, rfl, ixOf (i := 0) sq rfl ?_⟩
      have inv : ∀ {q : Rat}, q ∈ q0 :: qs → Sz q := fun h => sz _ h
      have mx : ∀ (l : List Rat) (a : Rat), Sz a → (∀ q ∈ l, Sz q) → Sz (l.foldl rmax a) := by
        intro l
        induction l with
        | nil => intro a ha _; exact ha
        | cons b l ih =>
          intro a ha hl
          refine ih _ ?_ fun q hq => hl q (by simp [hq])
          unfold rmax; split
          · exact hl b (by simp)
          · exact ha
      refine for_seqG (b := b) (xs := xs) (fun v' H1 => Same H H1 ∧ SqK b H1 v' xs) (fun R hR => ⟨_, rfl, 1, rfl, slOf sq fun p H' s1 sp => hR _ _ ⟨s1, by rw [show (some (1 : Int)) = some ((1 : Nat) : Int) from rfl, cut_drop] at sp; exact sp⟩⟩) (fun v' H1 h => h.2)
        (fun v' i σ' H' => Same H H' ∧ SqK b H' v' xs ∧ ∃ x y, σ' = [some v, some x, y] ∧ Num H' x ((qs.take i).foldl rmax q0)) (fun v' H1 h => ⟨h.1, h.2, _, _, rfl, h0.mono h.1.n⟩) (fun v' i σ' H' _ h => h.2.1) ?_ ?_
      · rintro v' i x σ' H' hx ⟨s1, sp, y, z, rfl, hy⟩
        obtain ⟨q, hq, hxq⟩ := paired_get hn hx
        refine ⟨_, rfl, _, rfl, _, _, _, _, rfl, hy, hxq.mono s1.n, mx _ _ (inv (by simp)) fun q hq => inv (by simp [List.mem_of_mem_take hq]), inv (by simp [mem_get hq]), fun y2 H2 s2 hy2 => ⟨s1.trans s2, sp.same s2, _, _, rfl, ?_⟩⟩
        rw [foldl_take_snoc rmax q0 hq]; exact hy2
      · rintro v' σ' H' ⟨s1, sp, y, z, rfl, hy⟩
        refine ⟨_, rfl, k _ _ s1 ?_⟩
        rw [hn.length, take_all] at hy; exact hy
def sp_led_on  : Sp :=  fun vs H Q _ => ∃ v u z ws d ms as g D N E M, vs = [v, u, z] ∧ MacAt K H v g ms as ∧ RowAt H u ws ∧ RowAt H z d ∧ ws.length = ms.length ∧ ms.length ≤ 6 ∧ (∀ p ∈ as, p.1 < ms.length ∧ p.2 < ms.length) ∧ as.length ≤ 100 ∧ (∀ q ∈ ws, Bd D N q) ∧ (∀ m ∈ ms, m.length ≤ 1000 ∧ (∀ q ∈ m, Sz q) ∧ SzSum (rmul m d) ∧ Bd E M (rdot m d)) ∧ (∀ q ∈ d, Sz q) ∧ 0 < D ∧ 0 < E ∧ (D * E).log2 < 4000 ∧ (N * M).log2 < 400000 ∧ 0 < M ∧ 0 < N ∧ ∀ p H', Same H H' → RowAt H' (.ref p) (led ms as ws d) → Q (.ref p) H'
theorem sc_led_on : FnScope ["machine", "weights", "day", "gone", "found", "one", "other", "weight", "mix"] ["machine", "weights", "day"] (defScope s_led_on) := ⟨rfl, rfl, rfl, by decide +kernel, rfl, by decide +kernel, by decide +kernel⟩
theorem c_led_on (T : Wd K mg base) : Cal P w K mg base 6 "led_on" (sp_led_on (K := K)) [] := by
  obtain ⟨fd, F⟩ := T.d_led_on
  refine mkCal (k := 6 - 1) F T.g_led_on sc_led_on (F.bindsN fun _ _ _ _ _ _ us hl => match us, hl with | [_, _, _], _ => rfl) (fun vs H Q E h => ?_) (fun cdv A outer s H vs Q E hr h => ?_)
  · rcases h with ⟨v, u, z, ws, d, ms, as, g, D, N, E, M, rfl, ⟨fs, vm, xm, va, xa, hi, lm, sm, hm, la, sa, ha, lmany, lg⟩, ⟨xw, sw, hw⟩, ⟨xd, sd, hd⟩, hwl, hml, har, hal, hwb, hmb, hdz, D0, E0, szd, szn, M0, N0, k⟩ <;> rfl
  · rcases h with ⟨v, u, z, ws, d, ms, as, g, D, N, E, M, rfl, ⟨fs, vm, xm, va, xa, hi, lm, sm, hm, la, sa, ha, lmany, lg⟩, ⟨xw, sw, hw⟩, ⟨xd, sd, hd⟩, hwl, hml, har, hal, hwb, hmb, hdz, D0, E0, szd, szn, M0, N0, k⟩
    refine ⟨_, (pss_cons (ps_setLc (i := 3) (own := [("weight", 7), ("mix", 8)]) rfl sc_led_on.nd rfl rfl (sw_true rfl rfl rfl (by decide +kernel)) (pi_zipS (by rfl) T.f_zip (pa_cons (pv 1) (pa_cons (pe_fld (pv 0) rfl) pa_nil))) (blkOk_by (own := [("weight", 7), ("mix", 8)]) (N := ["machine", "weights", "day", "gone", "found", "one", "other", "weight", "mix"]) (sc := defScope s_led_on) (by decide +kernel)) (fun _ _ _ _ _ => by exact (by refine pg_pair (K := K) (i := 7) (j := 8) ?_ ?_ ?_ ?_ ?_ ?_ ?_ <;> first | exact sc_led_on.nd | rfl)) (fun _ _ _ _ _ => by exact pts_nil) (fun _ _ _ _ _ => by exact (pe_c (c_product T) hr (by decide) rfl (pa_cons (pv 7) (pa_cons (pe_c (c_summed T) hr (by decide) rfl (pa_cons (pv 8) (pa_cons (pv 2) pa_nil))) pa_nil)))))
  (pss_cons (ps_set (i := 4) sc_led_on.nd rfl (Or.inl rfl) (pe_op op_rep (pe_lst (pa_cons pe_int pa_nil)) (pe_callB call_len_seq (by rfl) T.f_len (by decide +kernel) (pa_cons (pv 3) pa_nil))))
  (pss_cons (ps_for PassesOwn.never rfl (pi_seq (pe_fld (pv 0) rfl)) (pg_tup rfl (pgs_cons (pg_name (i := 5) sc_led_on.nd rfl (Or.inl rfl)) (pgs_cons (pg_name (i := 6) sc_led_on.nd rfl (Or.inl rfl)) pgs_nil)))
  (pss_one (ps_asg (pe_c (c_greater T) hr (by decide) rfl (pa_cons (pe_ix ix_seq (pv 4) (pv 6) (fun _ _ => rfl)) (pa_cons (pe_ix ix_seq (pv 3) (pv 5) (fun _ _ => rfl)) pa_nil))) (pg_sub (pv 4) (pv 6) set_list))))
  (pss_one (ps_ret (pe_callTy call_tuple_of (by rfl) T.f_tuple (by decide +kernel) (pa_cons (pv 4) pa_nil))))))), ?_⟩
    have hz1 : ∀ q ∈ ws, Sz q := fun q hq => (hwb q hq).sz D0 (Nat.lt_of_le_of_lt (log2_le_of_le (Nat.le_mul_of_pos_right _ E0)) szd) (Nat.lt_of_le_of_lt (log2_le_of_le (Nat.le_mul_of_pos_right _ M0)) szn)
    have hz2 : ∀ m ∈ ms, Sz (rdot m d) := fun m hm => (hmb m hm).2.2.2.sz E0 (Nat.lt_of_le_of_lt (log2_le_of_le (Nat.le_mul_of_pos_left _ D0)) szd) (Nat.lt_of_le_of_lt (log2_le_of_le (Nat.le_mul_of_pos_left _ N0)) szn)
    have hgb : ∀ q ∈ gone ms ws d, Bd (D * E) (N * M) q := gone_all fun w hw m hm => (hwb w hw).mul (hmb m hm).2.2.2
    have hgz : ∀ {q}, Bd (D * E) (N * M) q → Sz q := fun h => h.sz (Nat.mul_pos D0 E0) szd szn
    have lw := hw.length
    have lm2 := hm.length
    refine u_seq (u_asg ?_)
    refine lc_zip (H1 := H) (v := u) ?_ ?_ sw sm (by omega) (fun D i H' z => ∀ a m, ws[i]? = some a → ms[i]? = some m → Num H' z (a * rdot m d)) (fun D i H1 H2 z c h a m h1 h2 => (h a m h1 h2).mono c.n) ?_ ?_ (fun _ _ => rfl)
    · exact gives_var rfl
    · intro R r
      exact ⟨_, rfl, fldOf hi T.c_Machine T.n_Machine_mixes lm r⟩
    · intro D i x y H' R h1 h2 hD s1 hDn hR
      obtain ⟨a, ha', hxa⟩ := paired_get hw h1
      obtain ⟨m, hm', ym, sy, hy⟩ := paired_get hm h2
      obtain ⟨b1, b2, b3, b4⟩ := hmb m (mem_get hm')
      refine ⟨_, rfl, _, rfl, _, rfl, false, false, y, z, ym, xd, m, d, rfl, sy.same s1, sd.same s1, hy.mono s1.n, hd.mono s1.n, by rw [hy.length]; omega, b2, hdz, b3, fun t H4 s4 ht => ?_⟩
      refine ⟨_, _, _, _, rfl, (hxa.mono s1.n).mono s4.n, ht, hz1 a (mem_get ha'), hz2 m (mem_get hm'), fun t2 H5 s5 ht2 => hR t2 H5 (s4.trans s5) fun a' m' e1 e2 => ?_⟩
      rw [ha'] at e1; rw [hm'] at e2; cases e1; cases e2; exact ht2
    · intro D1 H1 zs hD1 s1 hDz hl2 hF
      have hgn : Nums H1 zs (gone ms ws d) := paired_of (by rw [gone_len]; omega) fun i t r ht hr => by
        have hi : i < min ws.length ms.length := by
          have := (List.getElem?_eq_some_iff.mp hr).1
          rw [gone_len] at this; exact this
        have e1 : ws[i]? = some (ws[i]'(by omega)) := by simp
        have e2 : ms[i]? = some (ms[i]'(by omega)) := by simp
        rw [gone_get e1 e2] at hr; cases hr
        exact hF i t ht _ _ e1 e2
      have gl := hgn.length
      have hzl : zs.length = ws.length := by rw [gl, gone_len]; omega
      refine ⟨(by show 1 ≤ sizeLine; decide), fun t nt => ?_⟩
      have s2 := Same.of_new (o := HO.lst [V.int 0]) nt
      refine ⟨_, rfl, _, _, rfl, .inl (SqL.of (s2 _ _ hDz)), t, _, _, rfl, rfl, upd_same, by omega, by omega, ?_, fun f nf => ?_⟩
      · rw [Int.toNat_natCast]
        show 1 * zs.length ≤ sizeLine
        exact Nat.le_trans (by omega : 1 * zs.length ≤ 6) (by decide)
      have s3 := Same.of_new (o := HO.lst (List.replicate (zs.length : Int).toNat [V.int 0]).flatten) nf
      have s123 := (s1.trans s2).trans s3
      have ef : (List.replicate (zs.length : Int).toNat [V.int 0]).flatten = List.replicate ws.length (V.int 0) := by
        rw [Int.toNat_natCast, hzl]
        generalize ws.length = n
        induction n with
        | zero => rfl
        | succ n ih => rw [List.replicate_succ, List.flatten_cons, ih]; rfl
      rw [ef] at s3 s123 ⊢
      have inf : (upd (upd H1 t (HO.lst [V.int 0])) f (HO.lst (List.replicate ws.length (V.int 0)))) f = some (HO.lst (List.replicate ws.length (V.int 0))) := upd_same
      generalize upd (upd H1 t (HO.lst [V.int 0])) f (HO.lst (List.replicate ws.length (V.int 0))) = H3 at s3 s123 inf ⊢
      have hgn3 := hgn.mono ((s2.trans s3).n)
      have hDz3 := s3 _ _ (s2 _ _ hDz)
      have fD : f ≠ D1 := fun e => by rw [e, s2 _ _ hDz] at nf; cases nf
      refine for_pairs (b := false) (H1 := H3) (v := va) (xs := xa) ?_ (sa.same s123) (fun i σ' H' => ∃ c1 c2 fl, σ' = [some v, some u, some z, some (.ref D1), some (.ref f), c1, c2, none, none] ∧ SameB f H3 H' ∧ H' f = some (.lst fl) ∧ Nums H' fl ((as.take i).foldl (ledF (gone ms ws d)) (List.replicate ws.length 0))) ?_ ?_ ?_ ?_
      · intro R r
        exact ⟨_, rfl, fldOf (hi.n s123.n) T.c_Machine T.n_Machine_arrows la r⟩
      · exact ⟨_, _, _, rfl, SameB.of (Same.refl _), inf, paired_rep (Num.int _ 0) _⟩
      · rintro i σ' H' hi' ⟨c1, c2, fl, rfl, sb, hf, hn⟩
        have h := (sa.same s123)
        obtain ⟨pa, ea, hpa⟩ := h
        exact ⟨pa, ea, sb _ _ (fun e => by rw [e, inf] at hpa; cases hpa) hpa⟩
      · rintro i x σ' H' hx ⟨c1, c2, fl, rfl, sb, hf, hn⟩
        obtain ⟨⟨p1, p2⟩, hp, hxp⟩ := paired_get ha hx
        obtain ⟨o1, o2⟩ := har _ (mem_get hp)
        refine ⟨_, _, (SqK.same hxp s123).n ?_, ?_⟩
        · intro b o hb hno
          refine sb b o (fun e => ?_) hb
          rw [e, inf] at hb; cases hb; exact hno _ rfl
        dsimp only at o1 o2
        have fll : fl.length = ws.length := by rw [hn.length, led_foldl_len]; simp
        have e2 : fl[p2]? = some (fl[p2]'(by omega)) := by simp
        have e1 : zs[p1]? = some (zs[p1]'(by omega)) := by simp
        have gs : SameN H3 H' := fun b o hb hno => sb b o (fun e => by rw [e, inf] at hb; cases hb; exact hno _ rfl) hb
        have all1 := led_foldl_all (P := Bd (D * E) (N * M)) (Bd.zero _ _) (fun p q => Bd.max) hgb (as.take i) (l := List.replicate ws.length 0) (fun q hq => by rw [List.eq_of_mem_replicate hq]; exact Bd.zero _ _)
        obtain ⟨q2, hq2, n2⟩ := paired_get hn e2
        obtain ⟨q1, hq1, n1⟩ := paired_get hgn3 e1
        have hD' : H' D1 = some (.lst zs) := sb _ _ (Ne.symm fD) hDz3
        refine ⟨_, rfl, _, rfl, ixOf (i := p2) (SqK.lst hf) e2 ⟨_, rfl, _, rfl, ixOf (i := p1) (SqK.lst hD') e1 ?_⟩⟩
        refine ⟨_, _, _, _, rfl, n2, n1.mono gs, hgz (all1 _ (mem_get hq2)), hgz (hgb _ (mem_get hq1)), fun y H4 s4 hy => ?_⟩
        refine ⟨_, rfl, _, rfl, f, fl, p2, p2, rfl, rfl, s4 _ _ hf, ?_, ?_⟩
        · unfold ixN
          rw [if_pos (by omega), if_pos (by omega), Int.toNat_natCast]
        · refine ⟨_, _, _, rfl, ?_, upd_same, ?_⟩
          · exact (sb.trans (SameB.of s4)).trans SameB.upd
          · rw [foldl_take_snoc _ _ hp]
            have s5 : SameN H4 (upd H4 f (.lst (fl.set p2 y))) := SameN.lst (s4 _ _ hf)
            refine paired_set ((hn.mono s4.n).mono s5) p2 ?_
            rw [List.getD_eq_getElem?_getD, List.getD_eq_getElem?_getD, hq2, hq1]
            exact hy.mono s5
      · rintro σ' H' ⟨c1, c2, fl, rfl, sb, hf, hn⟩
        rw [ha.length, take_all] at hn
        refine ⟨_, rfl, f, fl, rfl, .inl ⟨SqL.of hf, fun r nr => k r _ ?_ ⟨fl, SqK.tup upd_same, hn.mono (Same.of_new nr).n⟩⟩⟩
        intro a o hao
        have : a ≠ f := fun e => by
          rw [e] at hao
          rw [s2 _ _ (s1 _ _ hao)] at nf; cases nf
        exact Same.of_new nr _ _ (sb _ _ this (s123 _ _ hao))
end
end Hp
namespace Hp
set_option Elab.async false
set_option linter.all false
set_option maxRecDepth 100000
set_option maxHeartbeats 4000000
open PySem PySem.Spec PyProof.Rows L2
/-- the weights behind a market -/
def walkW (ms : List (List Rat)) (as : List (Nat × Nat)) (ws : List Rat) (mk : List (List Rat)) : List Rat := mk.foldl (led ms as) ws
theorem walkW_len (ms : List (List Rat)) (as : List (Nat × Nat)) (mk : List (List Rat)) (ws : List Rat) : (walkW ms as ws mk).length = ws.length := by
  induction mk generalizing ws with
  | nil => rfl
  | cons d mk ih => show (walkW ms as (led ms as ws d) mk).length = _; rw [ih, led_len]
theorem led_bd {ms : List (List Rat)} {as : List (Nat × Nat)} {ws d : List Rat} {D N E M : Nat} (hw : ∀ q ∈ ws, Bd D N q) (hm : ∀ m ∈ ms, Bd E M (rdot m d)) : ∀ q ∈ led ms as ws d, Bd (D * E) (N * M) q :=
  led_foldl_all (Bd.zero _ _) (fun p q => Bd.max) (gone_all fun w hw' m hm' => (hw w hw').mul (hm m hm')) as fun q hq => by rw [List.eq_of_mem_replicate hq]; exact Bd.zero _ _
theorem walkW_bd {ms : List (List Rat)} {as : List (Nat × Nat)} {E M : Nat} : ∀ {mk : List (List Rat)} {ws : List Rat} {D N : Nat}, (∀ q ∈ ws, Bd D N q) → (∀ d ∈ mk, ∀ m ∈ ms, Bd E M (rdot m d)) → ∀ q ∈ walkW ms as ws mk, Bd (D * E ^ mk.length) (N * M ^ mk.length) q
  | [], ws, D, N, hw, _ => by simpa [walkW] using hw
  | d :: mk, ws, D, N, hw, hm => by
    have h := walkW_bd (as := as) (mk := mk) (led_bd (as := as) hw (hm d (by simp))) fun d' hd' => hm d' (by simp [hd'])
    rw [List.length_cons, Nat.pow_succ, Nat.pow_succ, Nat.mul_comm (E ^ _) E, Nat.mul_comm (M ^ _) M, ← Nat.mul_assoc, ← Nat.mul_assoc]
    exact h
section
variable {P : Program} {w : World} {K : PySem.W.Frag} {mg : Str → Option Value} {base : Heap}
def sp_walk_worth_in  : Sp :=  fun vs H Q _ => ∃ b v u z ys ws mk ms as g D N E M, vs = [v, u, z] ∧ MacAt K H v g ms as ∧ RowAt H u ws ∧ SqK b H z ys ∧ RowsAt H ys mk ∧ ws.length = ms.length ∧ 1 ≤ ms.length ∧ ms.length ≤ 6 ∧ (∀ p ∈ as, p.1 < ms.length ∧ p.2 < ms.length) ∧ as.length ≤ 100 ∧ (∀ q ∈ ws, Bd D N q) ∧ (∀ d ∈ mk, (∀ q ∈ d, Sz q) ∧ ∀ m ∈ ms, m.length ≤ 1000 ∧ (∀ q ∈ m, Sz q) ∧ SzSum (rmul m d) ∧ Bd E M (rdot m d)) ∧ 0 < D ∧ 0 < E ∧ (D * E ^ mk.length).log2 < 4000 ∧ (N * M ^ mk.length).log2 < 400000 ∧ 0 < M ∧ 0 < N ∧ ∀ x H', Same H H' → Num H' x (rmaxs (walkW ms as ws mk)) → Q x H'
theorem sc_walk_worth_in : FnScope ["machine", "weights", "market", "found", "day"] ["machine", "weights", "market"] (defScope s_walk_worth_in) := ⟨rfl, rfl, rfl, by decide +kernel, rfl, by decide +kernel, by decide +kernel⟩
theorem c_walk_worth_in (T : Wd K mg base) : Cal P w K mg base 7 "walk_worth_in" (sp_walk_worth_in (K := K)) [] := by
  obtain ⟨fd, F⟩ := T.d_walk_worth_in
  refine mkCal (k := 7 - 1) F T.g_walk_worth_in sc_walk_worth_in (F.bindsN fun _ _ _ _ _ _ us hl => match us, hl with | [_, _, _], _ => rfl) (fun vs H Q E h => ?_) (fun cdv A outer s H vs Q E hr h => ?_)
  · rcases h with ⟨b, v, u, z, ys, ws, mk, ms, as, g, D, N, E, M, rfl, hmac, ⟨xw, sw, hw⟩, sy, hy, hwl, hm1, hml, har, hal, hwb, hmb, D0, E0, szd, szn, M0, N0, k⟩ <;> rfl
  · rcases h with ⟨b, v, u, z, ys, ws, mk, ms, as, g, D, N, E, M, rfl, hmac, ⟨xw, sw, hw⟩, sy, hy, hwl, hm1, hml, har, hal, hwb, hmb, D0, E0, szd, szn, M0, N0, k⟩
    refine ⟨_, (pss_cons (ps_set (i := 3) sc_walk_worth_in.nd rfl (Or.inl rfl) (pv 1))
  (pss_cons (ps_for PassesOwn.never rfl (pi_seq (pv 2)) (pg_name (i := 4) sc_walk_worth_in.nd rfl (Or.inl rfl))
  (pss_one (ps_set (i := 3) sc_walk_worth_in.nd rfl (Or.inl rfl) (pe_c (c_led_on T) hr (by decide) rfl (pa_cons (pv 0) (pa_cons (pv 3) (pa_cons (pv 4) pa_nil)))))))
  (pss_one (ps_ret (pe_c (c_greatest_of T) hr (by decide) rfl (pa_cons (pv 3) pa_nil)))))), ?_⟩
    refine ⟨_, rfl, ?_⟩
    have pd : ∀ {i}, i ≤ mk.length → (D * E ^ i).log2 < 4000 := fun hi => Nat.lt_of_le_of_lt (log2_le_of_le (Nat.mul_le_mul_left _ (Nat.pow_le_pow_right E0 hi))) szd
    have pn : ∀ {i}, i ≤ mk.length → (N * M ^ i).log2 < 400000 := fun hi => Nat.lt_of_le_of_lt (log2_le_of_le (Nat.mul_le_mul_left _ (Nat.pow_le_pow_right M0 hi))) szn
    refine for_seq (H1 := H) (v := z) ?_ sy (fun i σ' H' => ∃ x y, σ' = [some v, some u, some z, some x, y] ∧ Same H H' ∧ RowAt H' x (walkW ms as ws (mk.take i))) ?_ (fun i σ' H' _ ⟨_, _, _, s, _⟩ => sy.same s) ?_ ?_
    · exact gives_var rfl
    · exact ⟨_, _, rfl, Same.refl _, xw, sw, hw⟩
    · rintro i x σ' H' hx ⟨y, y2, rfl, s1, hr1⟩
      obtain ⟨d, hd, hxd⟩ := paired_get hy hx
      have hi : i < mk.length := (List.getElem?_eq_some_iff.mp hd).1
      obtain ⟨dz, dm⟩ := hmb d (mem_get hd)
      have tl : (mk.take i).length = i := by rw [List.length_take]; omega
      have hb := walkW_bd (as := as) (mk := mk.take i) hwb (fun d' hd' m hm => ((hmb d' (List.mem_of_mem_take hd')).2 m hm).2.2.2)
      rw [tl] at hb
      refine ⟨_, rfl, _, rfl, _, rfl, v, y, x, _, d, ms, as, g, D * E ^ i, N * M ^ i, E, M, rfl, hmac.n s1.n, hr1, hxd.n s1.n, by rw [walkW_len]; exact hwl, hml, har, hal, hb, dm, dz, Nat.mul_pos D0 (Nat.pow_pos E0), E0, ?_, ?_, M0, Nat.mul_pos N0 (Nat.pow_pos M0), fun p H2 s2 hp2 => ?_⟩
      · rw [Nat.mul_assoc, ← Nat.pow_succ]; exact pd (by omega)
      · rw [Nat.mul_assoc, ← Nat.pow_succ]; exact pn (by omega)
      · refine ⟨_, _, rfl, s1.trans s2, ?_⟩
        have e : walkW ms as ws (mk.take (i + 1)) = led ms as (walkW ms as ws (mk.take i)) d := by unfold walkW; exact foldl_take_snoc _ _ hd
        rw [e]; exact hp2
    · rintro σ' H' ⟨y, y2, rfl, s1, hr1⟩
      rw [hy.length, take_all] at hr1
      obtain ⟨xr, sr, hxr⟩ := hr1
      refine ⟨_, rfl, false, y, xr, _, rfl, sr, hxr, ?_, ?_, fun x H2 s2 hx2 => k x H2 (s1.trans s2) hx2⟩
      · intro e
        have := walkW_len ms as mk ws
        rw [e] at this
        simp at this; omega
      · intro q hq
        exact (walkW_bd (as := as) hwb (fun d' hd' m hm => ((hmb d' hd').2 m hm).2.2.2) q hq).sz (Nat.mul_pos D0 (Nat.pow_pos E0)) szd szn
def sp_need_machine  : Sp :=  fun vs H Q _ => ∃ v fs z, vs = [v, .str z] ∧ InsAt H v (He.ga K "Machine") fs ∧ Q .non H
theorem sc_need_machine : FnScope ["value", "part"] ["value", "part"] (defScope s_need_machine) := ⟨rfl, rfl, rfl, by decide +kernel, rfl, by decide +kernel, by decide +kernel⟩
theorem c_need_machine (T : Wd K mg base) : Cal P w K mg base 3 "need_machine" (sp_need_machine (K := K)) [.str "machine"] := by
  obtain ⟨fd, F⟩ := T.d_need_machine
  refine mkCalD (k := 3 - 1) (j := 0) F T.g_need_machine sc_need_machine (F.binds1 1 0 (by intro z; cases z) rfl fun _ _ _ _ _ _ _ us its h1 h2 => match us, its, h1, h2 with | [_], [_], _, _ => ⟨_, rfl, rfl⟩) (fun vs H Q E h => ?_) (fun cdv A outer s H vs Q E hr h => ?_)
  · rcases h with ⟨v, fs, z, rfl, ⟨a, dx, rfl, hi⟩, k⟩ <;> rfl
  · rcases h with ⟨v, fs, z, rfl, ⟨a, dx, rfl, hi⟩, k⟩
    refine ⟨_, (pss_one (ps_if (pt_not (pt_val (pe_callB call_isi (by rfl) T.f_isinstance (by decide +kernel) (pa_cons (pv 0) (pa_cons (pe_gc rfl T.cls_machine) pa_nil))))) pss_never pss_nil)), ?_⟩
    refine ⟨_, rfl, _, _, _, _, true, rfl, .own _, T.o_Machine.ty hi, T.isa (p := ("Machine", "Machine")) (by decide +kernel), _, rfl, iteF k⟩
/-- a corner: its rows, its weights -/
def CorAt (K : PySem.W.Frag) (H : Hp) (v : V) (rs : List (List Rat)) (ws : List Rat) : Prop :=
  ∃ fs vr xr vw, InsAt H v (He.ga K "Corner") fs ∧ fget fs "rows" = some vr ∧ SqK false H vr xr ∧ RowsAt H xr rs ∧ fget fs "weights" = some vw ∧ RowAt H vw ws ∧ fget fs "goods" = some (.int (rs.length : Int))
theorem CorAt.n {K : PySem.W.Frag} {H H' : Hp} {v : V} {rs : List (List Rat)} {ws : List Rat} (h : CorAt K H v rs ws) (e : SameN H H') : CorAt K H' v rs ws := by
  obtain ⟨fs, vr, xr, vw, h1, h2, h3, h4, h5, h6, h7⟩ := h
  exact ⟨fs, vr, xr, vw, h1.n e, h2, h3.n e, h4.n e, h5, h6.n e, h7⟩
def sp_need_corner  : Sp :=  fun vs H Q _ => ∃ v rs ws, vs = [v, .int (rs.length : Int)] ∧ CorAt K H v rs ws ∧ Q .non H
theorem sc_need_corner : FnScope ["value", "goods"] ["value", "goods"] (defScope s_need_corner) := ⟨rfl, rfl, rfl, by decide +kernel, rfl, by decide +kernel, by decide +kernel⟩
theorem c_need_corner (T : Wd K mg base) : Cal P w K mg base 3 "need_corner" (sp_need_corner (K := K)) [] := by
  obtain ⟨fd, F⟩ := T.d_need_corner
  refine mkCalD (k := 3 - 1) (j := 1) F T.g_need_corner sc_need_corner (F.binds1 2 1 (by intro z; cases z) rfl fun _ _ _ _ _ _ _ us its h1 h2 => match us, its, h1, h2 with | [_, _], [_], _, _ => ⟨_, rfl, rfl⟩) (fun vs H Q E h => ?_) (fun cdv A outer s H vs Q E hr h => ?_)
  · rcases h with ⟨v, rs, ws, rfl, ⟨fs, vr, xr, vw, hi, h2, h3, h4, h5, h6, h7⟩, k⟩ <;> rfl
  · rcases h with ⟨v, rs, ws, rfl, ⟨fs, vr, xr, vw, hi, h2, h3, h4, h5, h6, h7⟩, k⟩
    refine ⟨_, (pss_one (ps_if (PW.pt (pw_or (pt_not (pt_val (pe_callB call_isi (by rfl) T.f_isinstance (by decide +kernel) (pa_cons (pv 0) (pa_cons (pe_gc rfl T.cls_corner) pa_nil))))) (pw_or1 (PW.pt (pw_and (pt_cmpR op_notN (pv 1) pe_non (nomark _)) (pw_and1 (pt_cmpR op_ne (pe_fld (pv 0) rfl) (pv 1) (nomark _)))))))) pss_never pss_nil)), ?_⟩
    obtain ⟨a, dx, rfl, hi'⟩ := id hi
    refine ⟨_, rfl, _, _, _, _, true, rfl, .own _, T.o_Corner.ty hi', T.isa (p := ("Corner", "Corner")) (by decide +kernel), _, rfl, iteF ?_⟩
    refine ⟨_, rfl, rfl, _, rfl, iteT ?_⟩
    refine ⟨_, rfl, a, _, dx, fs, _, rfl, hi', T.c_Corner, T.n_Corner_goods, h7, _, rfl, rfl, _, rfl, ?_⟩
    rw [decide_eq_true (show V.int (rs.length : Int) = V.int (rs.length : Int) from rfl)]
    exact iteF k
end
end Hp
/-! The package's errors. -/
namespace Hp
set_option Elab.async false
set_option linter.all false
set_option maxRecDepth 100000
set_option maxHeartbeats 4000000
open PySem PySem.Spec PyProof.Rows L2
section
variable {X : Cx} {cn : Str} {C : Addr} {mc : Value} {e : Expr} {es : List Expr} {ta : TA} {p1 p2 pos : Pos} {pl : Sem Bool}
/-- PriceError.__init__(self, ..), PriceError a class without own __init__ over ValueError -/
theorem pe_peinit (hg : Gl X cn) (hm : X.mg cn = some (.ref C)) (r : ClX.CRead X.K C mc) (vV : PySem.W.findCls X.K (.ref C) mc "__init__" = some (.val (.builtin "ValueError.__init__"))) (ha : PA X (e :: es) ta)
    (hc : eval (.Call (.Attribute (.Name cn p1) "__init__" p2) (e :: es) [] pos) X.env = (do
      let ov ← eval (.Name cn p1) X.env
      standAt p2.atName
      let (f, first) ← holding [ov] (getMethod ov "__init__" pl)
      callWith pos f first (backTo pos (starEach (e :: es) X.env)) (backToKw pos (keywordEach [] X.env))) := by rfl)
    (hdb : (cn == ("__debug__" : Str)) = false := by decide)
    (he : starEach (e :: es) X.env = (false, eval e X.env) :: starEach es X.env := by rfl) (hpl : (backTo pos (starEach es X.env)).any (·.1) = false := by rfl) :
    PE X (.Call (.Attribute (.Name cn p1) "__init__" p2) (e :: es) [] pos) (tVeI X.K ta) := by
  refine ⟨fun pins s σ H Q I h => ?_⟩
  refine PySem.W.methodCall_KW (ld_glob I hg hm ?_ hdb) hc
  refine PySem.W.method_cls I.kIn r.ga (PySem.W.cls_value I.kIn r.rd vV rfl ?_)
  show wpAny _ _ (callWith pos (Value.builtin "ValueError.__init__") [] (backTo pos (starEach (e :: es) X.env)) []) _ _ _
  refine PyProof.Rows.callWith_method1 (thn (ha.run pos pins _ σ H _ (I.tok _) h) fun us s1 ⟨vs, H1, I1, r1, a, C, ws, ev, hl, T, ea, q⟩ => ?_) he hpl
  subst ev
  cases r1 with
  | @cons _ u0 _ ur ra rw' =>
    obtain rfl : u0 = Value.ref a := ra
    have hlen : ur.length ≤ sizeLine := by
      rw [← Paired.length rw', sizeLine_eq]
      omega
    exact oinit_ok T I1 ea hlen fun s' J => ⟨.non, H1, J, rfl, q⟩
end
/-- what the clause 'except x as n' wishes of an exception that it catches -/
def wAs1 (K : PySem.W.Frag) (c : Value) (i : Nat) (ts : Addr → Value → Option Addr → TS) (D : Ends) : WX := fun cls d σ H =>
  PySem.W.exmOne K cls c = some true ∧ ∀ a, H a = none → ts a cls d { nx := fun σ' H' => D.nx (σ'.set i none) H', rt := D.rt, bk := fun σ' H' => D.bk (σ'.set i none) H', ct := fun σ' H' => D.ct (σ'.set i none) H' } (σ.set i (some (.ref a))) H
section
variable {X : Cx} {x n : Str} {c : Value} {i : Nat} {body suite : List Stmt} {b₀ : Stmt} {hds : List ExceptHandler} {np pos pos' : Pos} {tb : WX → TS} {ts : Addr → Value → Option Addr → TS}
/-- try: body, except x as n: suite, except ..; all that the body raises is of the first clause -/
theorem ps_try_as1 (hs : X.stack = X.env :: X.outer) (hf : X.env.frame = some X.env.locals) (hN : X.N.Nodup) (hi : X.N[i]? = some n) (hln : X.env.kindOf n = some .local) (hc : Names X x c)
    (hb : ∀ (W : WX) (pn : List (Addr × Obj)) (xe : Value → Shared → Prop), Takes (X.tr pn xe) W → PassesOwn (model X.prog X.w) X.A X.env xe → PSs (X.tr pn xe) body (tb W))
    (hsu : ∀ (a : Addr) (oe : Obj) (cls : Value) (d : Option Addr) (pn : List (Addr × Obj)), Zc cls d oe → (∃ vs, oe.data = .fields vs) → PSs (X.suite a ((a, oe) :: pn)) (b₀ :: suite) (ts a cls d)) :
    PS X (.Try body (.ExceptHandler (some (.Name x np)) (some n) (b₀ :: suite) pos' :: hds) [] [] pos) (fun D σ H => tb (wAs1 X.K c i ts D) D σ H) := by
  refine ⟨fun pins s σ H D I h => ?_⟩
  have ok := I.ok
  have hfr : X.A.frames = some (X.env :: X.outer) := by rw [ok.frames, hs]
  have hloc : Loc X.env.scope n := .inl hln
  refine wpAny_Try_except ?_
  refine wpAny_mono ((hb (wAs1 X.K c i ts D) (X.pn ++ pins) (fun e s₁ => wpAny (model X.prog X.w) X.A (noteFrame e X.env) (fun _ s₂ => wpAny (model X.prog X.w) X.A (setFlight e none) (fun _ s₃ =>
    wpAny (model X.prog X.w) X.A (handleBy e X.env (.ExceptHandler (some (.Name x np)) (some n) (b₀ :: suite) pos' :: hds)) (SP X pins D) X.xe s₃) X.xe s₂) X.xe s₁) (fun u s' xx => ?_) PassesOwn.looking).run [] s σ H D (I.toTry _) h) (fun f s1 hsp => ?_) (fun e s1 he => he)
  · -- the catch
    obtain ⟨a, B, sI, pins', σ', H', cls, d, rfl, J', nb, up, sky, na, os, ag, hb1, hyes⟩ := xx
    have J : Inv X pins σ' H' sI := J'.ofTry ok
    have sky' : Sky B (X.env :: X.outer) a (Zc cls d) X.env.locals s'.heap := by rw [← hs]; exact sky
    show wpAny (model X.prog X.w) X.A (noteFrame (.ref a) X.env) _ _ _
    refine Sky.land Zc.steady hfr hf sky' fun h3 fl3 up3 => ?_
    have J3 : Inv X pins σ' H' { s' with heap := h3 } := J.landed nb fl3.1 (up.trans up3) os ag
    obtain ⟨oe3, vs3, he3, hz3, hd3⟩ := fl3.there
    have notFr : ∀ {h : Heap} {o : Obj} {vs : Array Value}, h.FunFrames B (X.env :: X.outer) → h.get? a = some o → o.data = .fields vs → a ∉ frs (X.env :: X.outer) := fun {h o vs} ff e dd hm => by
      obtain ⟨_, o', e', hnf⟩ := ff.mem hm
      rw [e] at e'; cases e'
      exact hnf _ dd
    have nfr := notFr fl3.2.2.1 he3 hd3
    have nL : a ≠ X.env.locals := fun z => nfr (List.mem_filterMap.mpr ⟨X.env, List.mem_cons_self, by rw [hf, z]⟩)
    have nF : a ∉ X.fs := fun hm => by
      obtain ⟨e, he, q⟩ := List.mem_filterMap.mp hm
      exact nfr (List.mem_filterMap.mpr ⟨e, List.mem_cons_of_mem _ he, q⟩)
    have S3 := J3.suite he3 hd3 na nL nF
    refine wpAny_handleBy_cons (codeAny_handlers_test ?_) (by intro q; cases q)
    have LT : PySem.W.Looks (model X.prog X.w) h3 (typeOf (.ref a)) cls := fun A Q E s k q => wpAny_typeOf_ref (k _ _ he3) (by rw [hz3.1]; exact q)
    have LM := PySem.W.exm_one (M := model X.prog X.w) (J3.kIn) LT hb1
    have test : ∀ {Q : Value → Shared → Prop} {E : Value → Shared → Prop}, Q c { s' with heap := h3 } → wpAny (model X.prog X.w) (X.A.mark (some (.ref a))) (eval (.Name x np) X.env) Q E { s' with heap := h3 } := fun {Q E} q => by
      obtain ⟨hg, hdbg, hm | ⟨hm, hv, hnn⟩⟩ := hc
      · exact ld_glob (X := X.suite a ((a, oe3) :: (X.pn ++ pins))) S3 hg hm q hdbg
      · exact ld_blt (X := X.suite a ((a, oe3) :: (X.pn ++ pins))) S3 hg hm hv q hnn hdbg
    refine test (LM.here ?_)
    refine codeAny_handlers_suite_as ?_
    refine HandSPX.lands_againZ fl3 fun h4 fl4 up4 => ?_
    have J4 : Inv X pins σ' H' { s' with heap := h4 } := J.landed nb fl4.1 ((up.trans up3).trans up4) os ag
    obtain ⟨oe4, vs4, he4, hz4, hd4⟩ := fl4.there
    have S4 := J4.suite he4 hd4 na nL nF
    refine store_ok (X := X.suite a ((a, oe4) :: (X.pn ++ pins))) (v := .ref a) S4 hN hi hloc rfl (fun s5 S5 => ?_) (.inr hln)
    refine wpAny_mono ((hsu a oe4 cls d (X.pn ++ pins) hz4 ⟨_, hd4⟩).run [] s5 _ H' _ S5 (hyes a na)) (fun f s6 hsp => ?_) (fun _ _ z => False.elim z)
    have end_ : ∀ {σ6 : L2.St} {H6 : Hp} {Q : Shared → Prop}, Inv (X.suite a ((a, oe4) :: (X.pn ++ pins))) [] σ6 H6 s6 → (∀ s7, Inv X pins (σ6.set i none) H6 s7 → Q s7) →
        wpAny (model X.prog X.w) X.A (do bindName X.env n .none; unbindBehindTheSuite X.env n pos') (fun _ s7 => Q s7) X.xe s6 := fun {σ6 H6 Q} S6 hq => gone_ok (S6.unsuite ok) hN hi hln hq
    cases f with
    | next =>
      obtain ⟨σ6, H6, S6, q6⟩ := hsp
      exact end_ S6 fun s7 J7 => ⟨_, _, J7, q6⟩
    | brk =>
      obtain ⟨σ6, H6, S6, q6⟩ := hsp
      exact end_ S6 fun s7 J7 => ⟨_, _, J7, q6⟩
    | cont =>
      obtain ⟨σ6, H6, S6, q6⟩ := hsp
      exact end_ S6 fun s7 J7 => ⟨_, _, J7, q6⟩
    | ret u =>
      obtain ⟨v6, σ6, H6, S6, r6, q6⟩ := hsp
      exact end_ S6 fun s7 J7 => ⟨_, _, _, J7, r6, q6⟩
  · cases f with
    | next =>
      obtain ⟨σ', H', J', q⟩ := hsp
      exact wpAny_execs_nil ⟨σ', H', J'.ofTry ok, q⟩
    | brk =>
      obtain ⟨σ', H', J', q⟩ := hsp
      exact ⟨σ', H', J'.ofTry ok, q⟩
    | cont =>
      obtain ⟨σ', H', J', q⟩ := hsp
      exact ⟨σ', H', J'.ofTry ok, q⟩
    | ret u =>
      obtain ⟨v, σ', H', J', r, q⟩ := hsp
      exact ⟨v, σ', H', J'.ofTry ok, r, q⟩
end
end Hp
/-! super().__init__(..) in a class's own __init__ -/
namespace Hp
set_option Elab.async false
set_option linter.all false
set_option maxRecDepth 100000
set_option maxHeartbeats 4000000
open PySem PySem.Spec PyProof.Rows L2 NdefX
/-- statements of a def's own body, run at the code c -/
structure PAt (X : Cx) (c : Code) (st : List Stmt) (t : TS) : Prop where
  run : ∀ (pins : List (Addr × Obj)) (s : Shared) (σ : L2.St) (H : Hp) (D : Ends), Inv X pins σ H s → t D σ H → _root_.PySem.wpAt (model X.prog X.w) X.A c (execs st X.env) (SP X pins D) X.xe s
section
variable {X : Cx} {c : Code} {st : Stmt} {rest : List Stmt} {t u : TS}
theorem pat_of (h : PSs X rest t) : PAt X c rest t := ⟨fun pins s σ H D I q => _root_.PySem.wpAt_of_wpAny (h.run pins s σ H D I q)⟩
theorem pat_cons (h : PS X st t) (hs : PAt X c rest u) : PAt X c (st :: rest) (tSeq t u) :=
  ⟨fun pins s σ H D I q => ks_wpAt_execs_cons (_root_.PySem.wpAt_of_wpAny (wpAny_mono (h.run pins s σ H { D with nx := u D } I q) (fun f s' hf => by
    cases f with
    | next =>
      obtain ⟨σ', H', J, q⟩ := hf
      exact hs.run pins s' σ' H' D J q
    | brk => exact hf
    | cont => exact hf
    | ret v => exact hf) fun _ _ z => z))⟩
end
/-- what the written part says of such an __init__: f the def's object, D its class, cc the cell of __class__, cda its code, f2 the def that super() finds -/
structure SupC (K : PySem.W.Frag) (P : Program) (params : Arguments) (q : Str) (f D cc cda f2 : Addr) : Prop where
  lk : ∃ oc od osl, ∃ fd : FuncData, K.lookup f = some ⟨oc, od, .func fd, osl⟩ ∧ fd.params = params
  code : ∃ a b vs d file tf, K.lookup cda = some ⟨a, b, .fields vs, d⟩ ∧ vs[2]? = some (.str file tf) ∧ ((P.main.file : Str) == file) = true
  cell : ∃ a b d, K.lookup cc = some ⟨a, b, .cell (some (.ref D)), d⟩
  cls : ∃ cd, PySem.W.clsIn K D = some cd
  sub : PySem.W.mroIn K D (.ref D) = some true
  sup : PySem.W.ks_superIn K D D "__init__" = some (some (.ref f2))
  ty : PySem.W.typeIn K (.ref f2) = some (.type "function")
  fi : PySem.W.fnIn K f2 = true
  opq : PySem.W.nsIn K cStatics "thirdparty.any" = some none
  top : (P.main.scope.names.lookup ("super" : Str)).isSome = false
/-- super().__init__(e, ..): self is the first name -/
def tSup (D : Addr) (sp : Sp) (t : TA) : TS := fun Dd σ H => ∃ a dx fs, σ[0]? = some (some (.ref a)) ∧ H a = some (.ins D dx fs) ∧ t σ H fun vs H2 => sp (.ref a :: vs) H2 (fun _ H3 => Dd.nx σ H3) E0
section
variable {X : Cx} {t : TA} {u : TS} {rest body : List Stmt} {params : Arguments} {q : Str} {sc : Scope} {f D cc cda f2 : Addr} {k : Nat} {fd2 : FuncData} {ps2 : List Str} {sp : Sp} {ar : Arg} {e : Expr} {es : List Expr} {p0 p1 apos pos pos' : Pos} {pl : Sem Bool}
theorem pat_super (S : SupC X.K X.prog params q f D cc cda f2) (henv : X.env = PySem.W.envX q sc X.env.locals f (.ref cda) [("__class__", cc)]) (hp : (params.posonlyargs ++ params.args).head? = some ar) (hN : X.N[0]? = some ar.arg)
    (hks : sc.names.lookup ("super" : Str) = some .globalImplicit) (hkc : sc.names.lookup ("__class__" : Str) = some .free) (hka : sc.names.lookup ar.arg = some .local) (hm : X.mg "super" = none)
    (F : FnOk X.prog X.w X.K X.mg X.base CX0 k f2 fd2 ps2 sp) (hr : Room k X.A) (hb : Binds X.K fd2 ps2 []) (ha : PA X (e :: es) t) (hs : PAt X (.func body X.env) rest u)
    (he : starEach (e :: es) X.env = (false, eval e X.env) :: starEach es X.env := by rfl) (hpl : (backTo pos (starEach es X.env)).any (·.1) = false := by rfl)
    (ht : eval (.Call (.Attribute (.Call (.Name "super" p0) [] [] p1) "__init__" apos) (e :: es) [] pos) X.env = (do
      let ov ← attributeBase (.Call (.Name "super" p0) [] [] p1) "__init__" X.env (eval (.Call (.Name "super" p0) [] [] p1) X.env)
      standAt apos.atName
      let (f, first) ← holding [ov] (getMethod ov "__init__" pl)
      callWith pos f first (backTo pos (starEach (e :: es) X.env)) []) := by rfl) (hi : interactive X.env = false := by rfl)
    (hsw : swapsWith (.Call (.Attribute (.Call (.Name "super" p0) [] [] p1) "__init__" apos) (e :: es) [] pos) none pos'.line X.env = pure false := by rfl) :
    PAt X (.func body X.env) (.Expr (.Call (.Attribute (.Call (.Name "super" p0) [] [] p1) "__init__" apos) (e :: es) [] pos) pos' :: rest) (tSeq (tSup D sp t) u) := by
  refine ⟨fun pins s σ H Dd I h => ?_⟩
  obtain ⟨a, dx, fs, hσ, ea, h⟩ := h
  obtain ⟨oc, od, osl, fd, lkf, efd⟩ := S.lk
  obtain ⟨ca, cb, vs, cd, file, tf, lkc, hvs, hfile⟩ := S.code
  obtain ⟨la, lb, ld, lcell⟩ := S.cell
  obtain ⟨cdD, hD⟩ := S.cls
  have KI := I.kIn
  obtain ⟨oD, hD1, hD2⟩ : ∃ oD, s.heap.get? D = some oD ∧ oD.data = .cls cdD := by
    unfold PySem.W.clsIn at hD
    split at hD
    · rename_i c d cd' sl ho
      cases hD
      exact ⟨_, KI _ _ ho, rfl⟩
    · cases hD
  obtain ⟨mA, O, _⟩ := ins_get I.hok ea
  obtain ⟨odx, J, _⟩ := O.look
  have Jx := J
  have kk : X.env.scope.kind = .function := I.ok.kind
  have e1 : X.env.kindOf "super" = some .globalImplicit := by rw [henv]; exact hks
  have e2 : X.env.kindOf "__class__" = some .free := by rw [henv]; exact hkc
  have e3 : X.env.kindOf ar.arg = some .local := by rw [henv]; exact hka
  have e4 : X.env.func = some f := by rw [henv]
  have e5 : X.env.code = .ref cda := by rw [henv]
  have e6 : X.env.cells.lookup ("__class__" : Str) = some cc := by rw [henv]; rfl
  obtain ⟨m, hns, hloc⟩ := I.loc
  obtain ⟨ua, ra, look⟩ := hloc 0 ar.arg (.ref a) hN hσ (.inl (by rw [henv]; exact hka))
  obtain rfl : ua = Value.ref a := ra
  have hma : m ar.arg = some (.ref a) := by
    rcases look with ⟨_, z⟩ | ⟨z, _⟩
    · exact z
    · rcases z with z | z <;> (rw [e3] at z; cases z)
  refine ks_wpAt_execs_cons (ks_wpAt_Expr_any (ks_wpAt_MethodCall ?_ ht) hi hsw)
  refine ks_wpAt_super_base (env := X.env) e1 e2 (by decide) e4 (KI _ _ lkf) rfl (by rw [efd]; exact hp) e5 (KI _ _ lkc) rfl hvs hfile S.top ?_
  obtain ⟨mb, h1, h2⟩ := I.mod.blt
  refine PySem.W.ks_loadName_global kk e1 (Calls.loadGlobal_builtin (by rw [I.ok.glob]; exact I.mod.glob.keeps I.bk) hm (by rw [I.ok.blt]; exact h1.keeps I.bk) ((h2 "super" (by decide)).trans (by rfl)) ⟨rfl, ?_⟩)
  refine wpAny_loadName_free kk e2 e6 ⟨_, KI _ _ lcell, rfl⟩ ?_
  refine wpAny_loadName_local kk e3 hns hma ?_
  refine ks_wpAny_isType_cls hD1 hD2 ⟨rfl, ?_⟩
  obtain ⟨hh, g, d, tk, os⟩ := s
  refine ks_wpAny_call_super hD1 hD2 Jx.at_ Jx.cls (fun c z => ?_) (PySem.W.looks_mroIn KI S.sub) (fun h' eso kp => ?_)
  · have := Jx.no
    unfold PySem.W.notCls at this
    rw [z] at this
    exact Bool.noConfusion this
  have I1 : Inv X pins σ H ⟨h', g, d, tk, os⟩ := I.kept (t' := tk) kp
  have KI1 := I1.kIn
  obtain ⟨of2, hof, hofc⟩ : ∃ of, h'.get? f2 = some of ∧ of.cls = .type "function" := by
    have ht' : (X.K.lookup f2).map (·.cls) = some (.type "function") := S.ty
    cases z : X.K.lookup f2 with
    | none => rw [z] at ht'; cases ht'
    | some of => rw [z] at ht'; exact ⟨of, KI1 _ _ z, Option.some.inj ht'⟩
  have hsup := S.sup
  unfold PySem.W.ks_superIn at hsup
  rw [hD] at hsup
  refine ks_wpAny_getMethod_super eso (PySem.W.looks_opaque KI1 S.opq) (l₀ := cdD.mro) (fun A Q E s k q => wpAny_bind ((PySem.W.looks_clsIn KI1 hD) A _ E s k (wpAny_pure q))) rfl KI1 hsup hof hofc (PySem.W.ks_ne KI Jx hD) (by decide) ?_
  have I2 := ClX.met_new (g := f2) (C := a) I1
  refine ClX.callwith_cm I2 (ClX.base_none I1 (Nat.le_refl _)) S.fi (thn (ha.run pos _ _ σ H _ I2 h) fun us s3 ⟨ws, H2, I3, rv, q2⟩ => ⟨⟨ClX.pin_at I3, I3.kIn⟩, ?_⟩) he hpl
  have FR : FnR X.prog X.w X.K X.mg X.base CX0 k f2 sp := fun A outer s H us vs Q E hr e0 r hsp => F.run A outer s H ⟨us, []⟩ us vs Q E hr e0 (by
    have hl : (us ++ []).length = ps2.length := by rw [List.append_nil, ← r.length]; exact F.len _ _ _ _ hsp
    have b := hb s us (e0.mod.kin.keeps fun b o e => (e0.bs b o e).1) hl
    rw [List.append_nil] at b
    exact b) r hsp
  refine wpAny_mono (ClX.run_cm FR hr pass0 I3 rv q2) (fun v s4 hv => ?_) fun _ _ z => z
  obtain ⟨v', H4, I4, _, q4⟩ := hv
  exact hs.run pins s4 σ H4 Dd I4 q4
end
/-! ### the def -/
section
variable {P : Program} {w : World} {K : PySem.W.Frag} {mg : Str → Option Value} {base : Heap} {CX : CXT} {k : Nat} {F : NF} {f D cc : Addr} {N ps : List Str} {sp : Sp}
/-- a def whose one cell is that of __class__, which stands in the written part -/
theorem fn_sup {oc : Value} {od : Option Addr} {osl : Array (Option Value)} {dV kV doc pm ct : Value} {an : Option Addr} (lk : K.lookup f = some ⟨oc, od, .func (PySem.W.fnX F.name F.qual F.params F.body F.scope F.cl dV kV doc pm an (.ref F.c) ct), osl⟩)
    (hcl : F.cl = [(("__class__" : Str), cc)]) (lc : ∃ a b d, K.lookup cc = some ⟨a, b, .cell (some (.ref D)), d⟩) (hcd : PySem.W.codeIn K (.ref F.c) F.qual = true) (S : NScope N ps ["__class__"] F.scope) (len : ∀ vs H Q E, sp vs H Q E → vs.length = ps.length)
    (hbody : ∀ (A : Around) (outer : List Env) (s : Shared) (H : Hp) (vs : List V) (Q : VK) (E : XK), Room k (A.deeper (envF F f s.heap.objs.size)) → sp vs H Q E →
      ∃ t, PAt (ncx CX P w K mg base N F f A outer s H E) (.func F.body (envF F f s.heap.objs.size)) F.body t ∧ t { nx := fun _ H' => Q .non H', rt := Q } (startF N vs [none]) H) :
    FnOk P w K mg base CX (k + 1) f (PySem.W.fnX F.name F.qual F.params F.body F.scope F.cl dV kV doc pm an (.ref F.c) ct) ps sp := by
  refine ⟨len, fun A outer s H args us vs Q E hr e0 hb r hsp => ?_⟩
  have hl := len _ _ _ _ hsp
  have KX : K.In s.heap := e0.mod.kin.keeps fun b o e => (e0.bs b o e).1
  have lim : s.heap.NoLimit := e0.mod.nolimit.keeps fun b o e => (e0.bs b o e).1
  obtain ⟨ca, cb, cd, lcell⟩ := lc
  refine ks_codeAny_call_defAt hr.depth (KX _ _ lk) rfl lim (PySem.W.codeRec_of KX hcd) rfl hb S.nocell (fun y hy => S.par _ (List.of_mem_zip hy).1) (fun h₁ hns kp => ?_) S.co S.gen S.kind
  obtain ⟨t, ht, hq⟩ := hbody A outer s H vs Q E (hr.deeper _) hsp
  have C : CellsAt F.cl ["__class__"] [none] s.heap H := by
    rw [show F.cl = [(("__class__" : Str), cc)] from hcl]
    have hH : H cc = none := (e0.bs cc _ (e0.mod.kin _ _ lcell)).2
    refine ⟨rfl, fun y c e => ?_, fun x y c e1 e2 => ?_, fun i y e => ?_⟩
    · have := List.lookup_eq_some_iff.mp e
      obtain ⟨l1, l2, hl, _⟩ := this
      cases l1 with
      | nil => cases hl; exact ⟨hH, _, _, KX _ _ lcell, rfl⟩
      | cons a l => simp at hl
    · have key : ∀ {z : Str}, List.lookup z [(("__class__" : Str), cc)] = some c → z = ("__class__" : Str) := fun {z} e => by
        by_cases h : z = ("__class__" : Str)
        · exact h
        · have e0 : (z == ("__class__" : Str)) = false := by simpa using h
          simp [List.lookup, e0] at e
      rw [key e1, key e2]
    · cases i with
      | zero =>
        have : y = ("__class__" : Str) := by simpa using e.symm
        subst this
        exact ⟨cc, by simp [List.lookup], fun v hv => by simp at hv⟩
      | succ i => simp at e
  have I : Inv (ncx CX P w K mg base N F f A outer s H E) [] (startF N vs [none]) H { s with heap := h₁, toks := s.toks + (ps.zip us).length } := inv_startN S hr.hd e0 (by rw [hl]) r C hns kp
  refine ks_wpAt_mono (ht.run [] _ _ H _ I hq) (fun fl s' hs => ?_) fun e s' hs => hs
  have fin : ∀ {σ' : L2.St} {H' : Hp} {v : V} {u : Value}, Inv (ncx CX P w K mg base N F f A outer s H E) [] σ' H' s' → RelV v u → Q v H' → CE outer P w H s Q u s' :=
    fun {σ' H' v u} J rv q => ⟨v, H', J.os, J.bare, J.base, J.hok, rv, q⟩
  cases fl with
  | ret u =>
    obtain ⟨v, σ', H', J, rv, q⟩ := hs
    exact fin J rv q
  | next =>
    obtain ⟨σ', H', J, q⟩ := hs
    exact fin (v := V.non) (u := Value.none) J rfl q
  | brk =>
    obtain ⟨_, _, _, q⟩ := hs
    exact False.elim q
  | cont =>
    obtain ⟨_, _, _, q⟩ := hs
    exact False.elim q
end
end Hp
namespace Hp
set_option Elab.async false
set_option linter.all false
set_option maxRecDepth 100000
set_option maxHeartbeats 4000000
open PySem PySem.Spec PyProof.Rows L2 NdefX
theorem ba2 {a b : Bool} (h : (a && b) = true) : a = true ∧ b = true := Bool.and_eq_true_iff.mp h
/-- an own __init__ (or another method's def), by where it stands -/
structure Ini (P : Program) (w : World) (K : PySem.W.Frag) (mg : Str → Option Value) (base : Heap) (k : Nat) (f : Addr) (sp : Sp) : Prop where
  ex : ∃ (fd : FuncData) (ps : List Str), FnOk P w K mg base CX0 k f fd ps sp ∧ Binds K fd ps []
section
variable {P : Program} {w : World} {K : PySem.W.Frag} {mg : Str → Option Value} {base : Heap}
theorem mkIni {q : Str} {st : Stmt} {N ps : List Str} {k : Nat} {sp : Sp} {f : Addr} {fd : FuncData} (F : FunD K "__init__" q (defArgs st) (defBody st) (defScope st) [] [] f fd) (S : FnScope N ps (defScope st)) (b : Binds K fd ps [])
    (len : ∀ vs H Q E, sp vs H Q E → vs.length = ps.length)
    (hbody : ∀ (cdv : Value) (A : Around) (outer : List Env) (s : Shared) (H : Hp) (vs : List V) (Q : VK) (E : XK), Room k (A.deeper (envOfC q (defScope st) s.heap.objs.size f cdv)) → sp vs H Q E →
      ∃ t, PSs (cxOf CX0 P w K mg base N q (defScope st) f cdv A outer s H E).nox (defBody st) t ∧ t { nx := fun _ H' => Q .non H', rt := Q } (start N vs) H) : Ini P w K mg base (k + 1) f sp :=
  ⟨fd, ps, F.ok S len (fun cdv A outer s H vs Q E hr h => by
    obtain ⟨t, a, b⟩ := hbody cdv A outer s H vs Q E hr h
    exact ⟨t, a.nox, b⟩), b⟩
theorem Ini.mak {x : Str} {C f : Addr} {k : Nat} {sp : Sp} (h : Ini P w K mg base k f sp) (M : Mk K C f) (g : mg x = some (.ref C)) : Mak P w K mg base k x C sp [] := by
  obtain ⟨fd, ps, F, b⟩ := h.ex
  exact ⟨f, fd, ps, [], M, F, g, b, .nil⟩
/-- an __init__ that calls super().__init__ -/
structure SupF (P : Program) (K : PySem.W.Frag) (d : SupD) (c cc : Addr) : Prop where
  lk : ∃ oc od osl kV doc pm an ct, K.lookup (iAd K d.x) = some ⟨oc, od, .func (PySem.W.fnX "__init__" d.qual (defArgs d.st) (defBody d.st) (defScope d.st) [(("__class__" : Str), cc)] .none kV doc pm an (.ref c) ct), osl⟩
  S : SupC K P (defArgs d.st) d.qual (iAd K d.x) (He.ga K d.x) cc c (iAd K "Promise")
  cod : PySem.W.codeIn K (.ref c) d.qual = true
theorem Wd.supf (T : Wd K mg base) (hP : PF P) {d : SupD} (hd : d ∈ supL) : ∃ c cc, SupF P K d c cc := by
  have hm := T.more
  unfold exB at hm
  obtain ⟨_, hm⟩ := ba2 hm
  obtain ⟨_, hm⟩ := ba2 hm
  have hb := List.all_eq_true.mp (ba2 hm).1 d hd
  have hw : supW K d.x = d.val := by
    obtain ⟨i, hi, e⟩ := List.getElem_of_mem hd
    have := T.sups
    have h1 : (supL.map (fun d => supW K d.x))[i]? = (supL.map SupD.val)[i]? := by rw [this]
    rw [List.getElem?_map, List.getElem?_map, List.getElem?_eq_getElem hi, e] at h1
    exact Option.some.inj h1
  unfold supB at hb
  obtain ⟨hb, h1⟩ := ba2 hb
  obtain ⟨hcls, h1⟩ := ba2 h1
  obtain ⟨hsub, h1⟩ := ba2 h1
  obtain ⟨hsup, h1⟩ := ba2 h1
  obtain ⟨hty, h1⟩ := ba2 h1
  obtain ⟨hfi, hopq⟩ := ba2 h1
  unfold supW at hw
  cases q : K.lookup (iAd K d.x) with
  | none => rw [q] at hb; cases hb
  | some o =>
    obtain ⟨oc, od, dt, osl⟩ := o
    rw [q] at hb hw
    cases dt with
    | func fd =>
      obtain ⟨n1, n2, n3, n4, n5, n6, n7, n8, n9, n10, n11, n12, n13, n14, n15⟩ := fd
      have e2 : (some (n1, n2, n3, n4, n5, n6, n7.map (·.1), n15) : SupW) = (some (("__init__" : Str), d.qual, defArgs d.st, FuncBody.stmts (defBody d.st), defScope d.st, mainGlobals, [("__class__" : Str)], builtinsNs) : SupW) := hw
      simp only [Option.some.injEq, Prod.mk.injEq] at e2
      obtain ⟨h1, h2, h3, h4, h5, h6, h7, h8⟩ := e2
      subst h1 h2 h3 h4 h5 h6 h8
      have hb2 : supFn K (He.ga K d.x) d.qual ⟨"__init__", d.qual, defArgs d.st, .stmts (defBody d.st), defScope d.st, mainGlobals, n7, n8, n9, n10, n11, n12, n13, n14, builtinsNs⟩ = true := hb
      unfold supFn at hb2
      obtain ⟨k1, hb2⟩ := ba2 hb2
      obtain ⟨k2, hb2⟩ := ba2 hb2
      obtain ⟨k3, k4⟩ := ba2 hb2
      dsimp only at k1 k2 k3 k4
      have e8 : n8 = .none := by cases n8 <;> first | rfl | cases k1
      subst e8
      obtain ⟨c, rfl⟩ : ∃ c, n13 = .ref c := by cases n13 <;> first | exact ⟨_, rfl⟩ | cases k3
      obtain ⟨cc, rfl⟩ : ∃ cc, n7 = [(("__class__" : Str), cc)] := by
        cases n7 with
        | nil => cases h7
        | cons p l =>
          cases l with
          | nil =>
            obtain ⟨p1, p2⟩ := p
            have : p1 = ("__class__" : Str) := by simpa using h7
            exact ⟨p2, by rw [this]⟩
          | cons p' l => simp at h7
      refine ⟨c, cc, ⟨oc, od, osl, n9, n10, n11, n12, n14, q⟩, ⟨⟨oc, od, osl, _, q, rfl⟩, ?_, ?_, Option.isSome_iff_exists.mp hcls, of_decide_eq_true hsub, of_decide_eq_true hsup, of_decide_eq_true hty, hfi, of_decide_eq_true hopq, hP.top⟩, k2⟩
      · dsimp only at k3
        cases qc : K.lookup c with
        | none => rw [qc] at k3; cases k3
        | some oc =>
          obtain ⟨a, b, dd, e⟩ := oc
          rw [qc] at k3
          cases dd with
          | fields vs =>
            dsimp only at k3
            cases qv : (vs[2]? : Option Value) with
            | none => rw [qv] at k3; cases k3
            | some v =>
              rw [qv] at k3
              cases v with
              | str file tf =>
                refine ⟨a, b, vs, e, file, tf, rfl, qv, ?_⟩
                rw [hP.file]; exact k3
              | _ => cases k3
          | _ => cases k3
      · dsimp only at k4
        cases qc : K.lookup cc with
        | none => rw [qc] at k4; cases k4
        | some oc =>
          obtain ⟨a, b, dd, e⟩ := oc
          rw [qc] at k4
          cases dd with
          | cell v =>
            cases v with
            | none => cases k4
            | some v =>
              cases v with
              | ref D' =>
                dsimp only at k4
                have := of_decide_eq_true k4
                subst this
                exact ⟨a, b, e, rfl⟩
              | _ => cases k4
          | _ => cases k4
    | _ => cases hb
/-- the function of such an __init__, as the contexts know it -/
abbrev SupD.F (d : SupD) (c cc : Addr) : NF := ⟨"__init__", d.qual, defArgs d.st, defBody d.st, defScope d.st, [(("__class__" : Str), cc)], c⟩
theorem mkSup {d : SupD} {c cc : Addr} {N ps : List Str} {k : Nat} {sp : Sp} (h : SupF P K d c cc) (S : NScope N ps ["__class__"] (defScope d.st))
    (b : ∀ (kV doc pm : Value) (an : Option Addr) (cdv ct : Value) (us : List Value), us.length = ps.length → bindArgs (PySem.W.fnX "__init__" d.qual (defArgs d.st) (defBody d.st) (defScope d.st) [(("__class__" : Str), cc)] .none kV doc pm an cdv ct) ⟨us, []⟩ = pure (ps.zip us))
    (len : ∀ vs H Q E, sp vs H Q E → vs.length = ps.length)
    (hbody : ∀ (A : Around) (outer : List Env) (s : Shared) (H : Hp) (vs : List V) (Q : VK) (E : XK), Room k (A.deeper (envF (d.F c cc) (iAd K d.x) s.heap.objs.size)) → sp vs H Q E →
      ∃ t, PAt (ncx CX0 P w K mg base N (d.F c cc) (iAd K d.x) A outer s H E) (.func (defBody d.st) (envF (d.F c cc) (iAd K d.x) s.heap.objs.size)) (defBody d.st) t ∧ t { nx := fun _ H' => Q .non H', rt := Q } (startF N vs [none]) H) :
    Ini P w K mg base (k + 1) (iAd K d.x) sp := by
  obtain ⟨oc, od, osl, kV, doc, pm, an, ct, lk⟩ := h.lk
  exact ⟨_, ps, fn_sup (F := d.F c cc) lk rfl h.S.cell h.cod S len hbody, .all (b kV doc pm an (.ref c) ct)⟩
end
end Hp
namespace Hp
set_option Elab.async false
set_option linter.all false
set_option maxRecDepth 100000
set_option maxHeartbeats 4000000
open PySem PySem.Spec PyProof.Rows L2
theorem oexB_ok {K : PySem.W.Frag} {C : Addr} (h : oexB K C = true) : OexC K C := by
  unfold oexB at h
  obtain ⟨h1, h⟩ := ba2 h
  obtain ⟨h2, h⟩ := ba2 h
  obtain ⟨h3, h⟩ := ba2 h
  obtain ⟨h4, h5⟩ := ba2 h
  refine ⟨?_, of_decide_eq_true h2, of_decide_eq_true h3, of_decide_eq_true h4, h5⟩
  cases q : K.lookup C with
  | none => rw [q] at h1; cases h1
  | some o =>
    obtain ⟨oc, od, dt, osl⟩ := o
    rw [q] at h1
    cases oc with
    | type t =>
      cases dt with
      | cls cd =>
        dsimp only at h1
        obtain ⟨k1, k2⟩ := ba2 h1
        have e1 := of_decide_eq_true k1
        subst e1
        obtain ⟨nm, bs, mro, ns, qn, hd, sn, sb, ab, col, del⟩ := cd
        obtain ⟨sl⟩ := osl
        dsimp only at k2
        cases mro with
        | nil => cases k2
        | cons m0 bm =>
          cases m0 with
          | ref C' =>
            match sl, k2 with
            | [k0, ka, kb, kc, some (.builtin n), k5], k2 =>
              dsimp only at k2
              obtain ⟨j1, k2⟩ := ba2 k2
              obtain ⟨j2, k2⟩ := ba2 k2
              obtain ⟨j3, k2⟩ := ba2 k2
              obtain ⟨j4, j5⟩ := ba2 k2
              have e1 := of_decide_eq_true j1
              have e2 := of_decide_eq_true j2
              have e3 : del = false := by simpa using j3
              have e4 : hd = true := j4
              subst e1 e2 e3 e4
              exact ⟨nm, qn, ns, bs, bm, sn, sb, ab, col, od, k0, ka, kb, kc, k5, rfl, j5⟩
          | _ => cases k2
      | _ => cases h1
    | _ => cases dt <;> cases h1
/-- what is known of Misfit -/
structure MisC (K : PySem.W.Frag) : Prop where
  ox : OexC K (He.ga K "Misfit")
  pe : ClX.CRead K (He.ga K "PriceError") (.type "type")
  pv : PySem.W.findCls K (.ref (He.ga K "PriceError")) (.type "type") "__init__" = some (.val (.builtin "ValueError.__init__"))
  ini : PySem.W.findIn K (.ref (He.ga K "Misfit")) "__init__" = some (some (.ref (iAd K "Misfit")))
  ty : PySem.W.typeIn K (.ref (iAd K "Misfit")) = some (.type "function")
  xf : XfC K (He.ga K "Misfit")
  ex : PySem.W.exmOne K (.ref (He.ga K "Misfit")) (.ref (He.ga K "Misfit")) = some true
  no : PySem.W.findIn K (.ref (He.ga K "Misfit")) "part" = some none
theorem Wd.mis {K : PySem.W.Frag} {mg : Str → Option Value} {base : Heap} (T : Wd K mg base) : MisC K := by
  have hm := T.more
  unfold exB at hm
  obtain ⟨_, hm⟩ := ba2 hm
  obtain ⟨_, hm⟩ := ba2 hm
  have h := (ba2 hm).2
  unfold misB at h
  obtain ⟨h1, h⟩ := ba2 h
  obtain ⟨h2, h⟩ := ba2 h
  obtain ⟨h3, h⟩ := ba2 h
  obtain ⟨h4, h⟩ := ba2 h
  obtain ⟨h5, h⟩ := ba2 h
  obtain ⟨h6, h7⟩ := ba2 h
  unfold peB at h2
  obtain ⟨p1, h2⟩ := ba2 h2
  obtain ⟨p2, p3⟩ := ba2 h2
  refine ⟨oexB_ok h1, ⟨p1, of_decide_eq_true p2⟩, ?_, of_decide_eq_true h3, of_decide_eq_true h4, xfB_ok h5, of_decide_eq_true h6, of_decide_eq_true h7⟩
  cases q : PySem.W.findCls K (.ref (He.ga K "PriceError")) (.type "type") "__init__" with
  | none => rw [q] at p3; cases p3
  | some r =>
    rw [q] at p3
    cases r with
    | val v =>
      cases v with
      | builtin n => dsimp only at p3; rw [of_decide_eq_true p3]
      | _ => cases p3
    | _ => cases p3
section
variable {P : Program} {w : World} {K : PySem.W.Frag} {mg : Str → Option Value} {base : Heap}
def sp_Misfit_init (K : PySem.W.Frag) : Sp := fun vs H Q _ => ∃ a v, vs = [.ref a, v] ∧ H a = some (exo a (He.ga K "Misfit") none) ∧ ∀ dx, H dx = none → dx ≠ a → Q .non (upd (upd H dx (exd dx [(("part" : Str), v)])) a (exo a (He.ga K "Misfit") (some dx)))
theorem sc_Misfit_init : FnScope ["self", "part"] ["self", "part"] (defScope s_Misfit_init) := ⟨rfl, rfl, rfl, by decide +kernel, rfl, by decide +kernel, by decide +kernel⟩
theorem i_Misfit (T : Wd K mg base) : Ini P w K mg base 1 (iAd K "Misfit") (sp_Misfit_init K) := by
  obtain ⟨fd, F⟩ := T.d_Misfit_init
  refine mkIni (k := 0) F sc_Misfit_init (F.bindsN fun _ _ _ _ _ _ us hl => match us, hl with | [_, _], _ => rfl) (fun vs H Q E h => ?_) (fun cdv A outer s H vs Q E hr h => ?_)
  · rcases h with ⟨a, v, rfl, ea, k⟩; rfl
  · rcases h with ⟨a, v, rfl, ea, k⟩
    refine ⟨_, pss_cons (ps_expr (pe_peinit rfl T.g_PriceError T.mis.pe T.mis.pv (pa_cons (pv 0) (pa_cons pe_str pa_nil)))) (pss_one (ps_ost (pv 0) (pv 1))), ?_⟩
    refine ⟨_, rfl, a, _, _, rfl, (by decide), T.mis.ox, ea, ?_⟩
    exact ⟨_, rfl, _, rfl, a, _, rfl, T.mis.ox, T.mis.no, .inl ⟨ea, k⟩⟩
end
end Hp
namespace Hp
set_option Elab.async false
set_option linter.all false
set_option maxRecDepth 100000
set_option maxHeartbeats 4000000
open PySem PySem.Spec PyProof.Rows L2 NdefX
theorem SameB.put {a : Addr} {H H' : Hp} {o : HO} (h : SameB a H H') : SameB a H (L2.upd H' a o) := h.trans SameB.upd
theorem InsAt.of {H : Hp} {a C dx : Addr} {fs : List (Str × V)} (h : H a = some (.ins C dx fs)) : InsAt H (.ref a) C fs := ⟨a, dx, rfl, h⟩
/-- what Promise.__init__ leaves -/
def pfs (kd : Str) (told inner : V) (g : Int) (m l : Int) (fs : List (Str × V)) : List (Str × V) :=
  putF "levels" (.int l) (putF "many" (.int m) (putF "inner" inner (putF "goods" (.int g) (putF "told" told (putF "kind" (.str kd) fs)))))
theorem pfs_kind (kd told inner g m l fs) : fget (pfs kd told inner g m l fs) "kind" = some (.str kd) := by
  unfold pfs fget; rw [getN (by decide), getN (by decide), getN (by decide), getN (by decide), getN (by decide), getP]
theorem pfs_told (kd told inner g m l fs) : fget (pfs kd told inner g m l fs) "told" = some told := by
  unfold pfs fget; rw [getN (by decide), getN (by decide), getN (by decide), getN (by decide), getP]
theorem pfs_goods (kd told inner g m l fs) : fget (pfs kd told inner g m l fs) "goods" = some (.int g) := by
  unfold pfs fget; rw [getN (by decide), getN (by decide), getN (by decide), getP]
theorem pfs_inner (kd told inner g m l fs) : fget (pfs kd told inner g m l fs) "inner" = some inner := by
  unfold pfs fget; rw [getN (by decide), getN (by decide), getP]
theorem pfs_many (kd told inner g m l fs) : fget (pfs kd told inner g m l fs) "many" = some (.int m) := by
  unfold pfs fget; rw [getN (by decide), getP]
theorem pfs_levels (kd told inner g m l fs) : fget (pfs kd told inner g m l fs) "levels" = some (.int l) := by
  unfold pfs fget; rw [getP]
theorem pfs_own {f : Str} (h : f ∉ (["kind", "told", "goods", "inner", "many", "levels"] : List Str)) (kd told inner g m l fs) : fget (pfs kd told inner g m l fs) f = fget fs f := by
  simp only [List.mem_cons, List.not_mem_nil, or_false, not_or] at h
  obtain ⟨h1, h2, h3, h4, h5, h6⟩ := h
  unfold pfs fget; rw [getN h6, getN h5, getN h4, getN h3, getN h2, getN h1]
theorem pfs_len (kd told inner g m l fs) : (pfs kd told inner g m l fs).length ≤ fs.length + 6 := by
  unfold pfs
  have := putF_len "levels" (.int l) (putF "many" (.int m) (putF "inner" inner (putF "goods" (.int g) (putF "told" told (putF "kind" (.str kd) fs)))))
  have := putF_len "many" (.int m) (putF "inner" inner (putF "goods" (.int g) (putF "told" told (putF "kind" (.str kd) fs))))
  have := putF_len "inner" inner (putF "goods" (.int g) (putF "told" told (putF "kind" (.str kd) fs)))
  have := putF_len "goods" (.int g) (putF "told" told (putF "kind" (.str kd) fs))
  have := putF_len "told" told (putF "kind" (.str kd) fs)
  have := putF_len "kind" (.str kd) fs
  omega
/-- a promise in another: how many it holds, its levels -/
def PartAt (K : PySem.W.Frag) (H : Hp) (v : V) (p : Int × Int) : Prop := ∃ k fs, InsAt H v (He.ga K (PKind.nm k)) fs ∧ fget fs "many" = some (.int p.1) ∧ fget fs "levels" = some (.int p.2)
theorem PartAt.n {K : PySem.W.Frag} {H H' : Hp} {v : V} {p : Int × Int} (h : PartAt K H v p) (e : SameN H H') : PartAt K H' v p := by
  obtain ⟨k, fs, a, b, c⟩ := h
  exact ⟨k, fs, a.n e, b, c⟩
section
variable {P : Program} {w : World} {K : PySem.W.Frag} {mg : Str → Option Value} {base : Heap}
def sp_Promise_init  : Sp :=  fun vs H Q _ => ∃ a dx fs kd told inner g xs ps, ∃ k : PKind, vs = [.ref a, .str kd, told, inner, .int g] ∧ H a = some (.ins (He.ga K k.nm) dx fs) ∧ fs.length ≤ 100 ∧ fget fs "many" = none ∧ SqK false H inner xs ∧ Paired (PartAt K H) xs ps ∧ ps.length ≤ 6 ∧ ∀ H' l, SameB a H H' → (∀ B, 0 ≤ B → (∀ p ∈ ps, p.2 ≤ B) → l ≤ 1 + B) → H' a = some (.ins (He.ga K k.nm) dx (pfs kd told inner g (1 + (ps.map (·.1)).sum) l fs)) → Q .non H'
theorem sc_Promise_init : FnScope ["self", "kind", "told", "inner", "goods", "part"] ["self", "kind", "told", "inner", "goods"] (defScope s_Promise_init) := ⟨rfl, rfl, rfl, by decide +kernel, rfl, by decide +kernel, by decide +kernel⟩
theorem i_Promise (T : Wd K mg base) : Ini P w K mg base 1 (iAd K "Promise") (sp_Promise_init (K := K)) := by
  obtain ⟨fd, F⟩ := T.d_Promise_init
  refine mkIni (k := 1 - 1) F sc_Promise_init (F.bindsN fun _ _ _ _ _ _ us hl => match us, hl with | [_, _, _, _, _], _ => rfl) (fun vs H Q E h => ?_) (fun cdv A outer s H vs Q E hr h => ?_)
  · rcases h with ⟨a, dx, fs, kd, told, inner, g, xs, ps, k, rfl, ea, hfl, hmn, si, hp, hpl, kk⟩ <;> rfl
  · rcases h with ⟨a, dx, fs, kd, told, inner, g, xs, ps, k, rfl, ea, hfl, hmn, si, hp, hpl, kk⟩
    refine ⟨_, (pss_cons (ps_asg (pe_tup (pa_cons (pv 1) (pa_cons (pv 2) (pa_cons (pv 4) pa_nil)))) (pg_tup rfl (pgs_cons (pg_fld (pv 0)) (pgs_cons (pg_fld (pv 0)) (pgs_cons (pg_fld (pv 0)) pgs_nil)))))
        (pss_cons (ps_fld (pv 0) (pe_callTy call_tuple_of (by rfl) T.f_tuple (by decide +kernel) (pa_cons (pv 3) pa_nil)) rfl)
        (pss_cons (ps_fld (pv 0) (pe_op op_add pe_int (pe_callB (cr_sum rfl) (by rfl) T.f_sum (by decide +kernel) (pa_cons (pe_lc (own := [("part", 5)]) rfl sc_Promise_init.nd (pi_seq (pe_fld (pv 0) rfl)) (blkOk_by (own := [("part", 5)]) (N := ["self", "kind", "told", "inner", "goods", "part"]) (sc := defScope s_Promise_init) (by decide +kernel)) (fun _ _ _ _ _ => by exact (pg_name (i := 5) sc_Promise_init.nd rfl (by first | exact Or.inl rfl | exact Or.inr rfl))) (fun _ _ _ _ _ => by exact pts_nil) (fun _ _ _ _ _ => by exact (fldK (K := K) rfl (pv 5) rfl))) pa_nil))) rfl)
        (pss_one (ps_fld (pv 0) (pe_op op_add pe_int (pe_callB (cr_max rfl) (by rfl) T.f_max (by decide +kernel) (pa_cons (pe_lst (pa_cons pe_int (StX.pa_star (pe_lc (own := [("part", 5)]) rfl sc_Promise_init.nd (pi_seq (pe_fld (pv 0) rfl)) (blkOk_by (own := [("part", 5)]) (N := ["self", "kind", "told", "inner", "goods", "part"]) (sc := defScope s_Promise_init) (by decide +kernel)) (fun _ _ _ _ _ => by exact (pg_name (i := 5) sc_Promise_init.nd rfl (by first | exact Or.inl rfl | exact Or.inr rfl))) (fun _ _ _ _ _ => by exact pts_nil) (fun _ _ _ _ _ => by exact (fldK (K := K) rfl (pv 5) rfl))) pa_nil))) pa_nil))) rfl))))), ?_⟩
    have pc := T.pc k
    have hna := pc.na
    have c := pc.ok.cls
    refine ⟨_, rfl, _, rfl, _, rfl, (by show 3 ≤ sizeLine; decide), fun t nt => ?_⟩
    refine ⟨t, _, rfl, SqT.of upd_same, rfl, _, _, rfl, ?_⟩
    have s0 : Same H (L2.upd H t (.tup [V.str kd, told, V.int g])) := Same.of_new nt
    have e0 := s0 _ _ ea
    generalize L2.upd H t (.tup [V.str kd, told, V.int g]) = H0 at s0 e0 ⊢
    have sb0 : SameB a H H0 := SameB.of s0
    refine ⟨_, rfl, a, _, dx, _, rfl, e0, c, hna "kind" (by simp), by omega, _, _, rfl, ?_⟩
    have e1 : (L2.upd H0 a (.ins (He.ga K k.nm) dx (putF "kind" (.str kd) fs))) a = some (.ins (He.ga K k.nm) dx (putF "kind" (.str kd) fs)) := upd_same
    have sb1 := SameB.put (o := .ins (He.ga K k.nm) dx (putF "kind" (.str kd) fs)) sb0
    have l1 := putF_len "kind" (.str kd) fs
    generalize L2.upd H0 a (.ins (He.ga K k.nm) dx (putF "kind" (.str kd) fs)) = H1 at e1 sb1 ⊢
    refine ⟨_, rfl, a, _, dx, _, rfl, e1, c, hna "told" (by simp), by omega, _, _, rfl, ?_⟩
    generalize ef2 : putF "told" told (putF "kind" (.str kd) fs) = f2
    have l2 : f2.length ≤ fs.length + 2 := by rw [← ef2]; have := putF_len "told" told (putF "kind" (.str kd) fs); omega
    have e2 : (L2.upd H1 a (.ins (He.ga K k.nm) dx f2)) a = some (.ins (He.ga K k.nm) dx f2) := upd_same
    have sb2 := SameB.put (o := .ins (He.ga K k.nm) dx f2) sb1
    generalize L2.upd H1 a (.ins (He.ga K k.nm) dx f2) = H2 at e2 sb2 ⊢
    refine ⟨_, rfl, a, _, dx, _, rfl, e2, c, hna "goods" (by simp), by omega, rfl, ?_⟩
    generalize ef3 : putF "goods" (.int g) f2 = f3
    have l3 : f3.length ≤ fs.length + 3 := by rw [← ef3]; have := putF_len "goods" (.int g) f2; omega
    have e3 : (L2.upd H2 a (.ins (He.ga K k.nm) dx f3)) a = some (.ins (He.ga K k.nm) dx f3) := upd_same
    have sb3 := SameB.put (o := .ins (He.ga K k.nm) dx f3) sb2
    generalize L2.upd H2 a (.ins (He.ga K k.nm) dx f3) = H3 at e3 sb3 ⊢
    obtain ⟨pi, rfl, hpi⟩ := id si
    have na : pi ≠ a := fun z => by rw [z] at hpi; rw [hpi] at ea; cases ea
    have hp3 := sb3 _ _ na hpi
    refine ⟨_, rfl, pi, xs, rfl, .inr ⟨SqT.of hp3, ?_⟩⟩
    refine ⟨_, rfl, a, _, dx, _, rfl, e3, c, hna "inner" (by simp), by omega, ?_⟩
    generalize ef4 : putF "inner" (.ref pi) f3 = f4
    have l4 : f4.length ≤ fs.length + 4 := by rw [← ef4]; have := putF_len "inner" (.ref pi) f3; omega
    have e4 : (L2.upd H3 a (.ins (He.ga K k.nm) dx f4)) a = some (.ins (He.ga K k.nm) dx f4) := upd_same
    have sb4 := SameB.put (o := .ins (He.ga K k.nm) dx f4) sb3
    generalize L2.upd H3 a (.ins (He.ga K k.nm) dx f4) = H4 at e4 sb4 ⊢
    have hi4 : f4.lookup ("inner" : Str) = some (.ref pi) := by rw [← ef4, getP]
    have hp4 := sb4 _ _ na hpi
    have part : ∀ {i : Nat} {x : V} {H' : Hp}, SameB a H H' → xs[i]? = some x → ∃ p b dxb fsb, ∃ kb : PKind, ps[i]? = some p ∧ x = .ref b ∧ H' b = some (.ins (He.ga K kb.nm) dxb fsb) ∧ fget fsb "many" = some (.int p.1) ∧ fget fsb "levels" = some (.int p.2) := by
      intro i x H' sb hx
      obtain ⟨p, hp', kb, fsb, ⟨b, dxb, rfl, hb⟩, hm, hl⟩ := paired_get hp hx
      refine ⟨p, b, dxb, fsb, kb, hp', rfl, sb _ _ ?_ hb, hm, hl⟩
      rintro rfl
      rw [ea] at hb
      have hb2 := Option.some.inj hb
      injection hb2 with _ _ h3
      rw [← h3, hmn] at hm; cases hm
    have hxl : xs.length = ps.length := hp.length
    dsimp only
    refine u_seq (u_fld (u_opc (u_cb1 ?_)))
    refine lc_seq (H1 := H4) (v := .ref pi) ?_ (SqK.tup hp4) (by omega) (fun D i H' z => ∀ p, ps[i]? = some p → z = .int p.1) (fun _ _ _ _ _ _ h => h) ?_ ?_ (fun _ => rfl)
    · intro R r
      exact ⟨_, rfl, a, _, dx, _, _, rfl, e4, c, hna "inner" (by simp), hi4, r⟩
    · intro D i x H' R hx hD s5 hDn hR
      obtain ⟨p, b, dxb, fsb, kb, hp', rfl, hb, hm, hl⟩ := part (sb4.trans (SameB.of s5)) hx
      refine ⟨_, rfl, b, _, dxb, fsb, _, rfl, hb, (T.pc kb).ok.cls, (T.pc kb).na "many" (by simp), hm, hR _ _ (Same.refl _) fun p2 h2 => ?_⟩
      rw [hp'] at h2; cases h2; rfl
    · intro D H5 zs hD s5 hDz hl2 hF
      have ez : zs = (ps.map (·.1)).map V.int := by
        apply List.ext_getElem?
        intro i
        rw [List.getElem?_map, List.getElem?_map]
        by_cases hi : i < zs.length
        · have e : zs[i]? = some zs[i] := by simp
          have e2 : ps[i]? = some (ps[i]'(by omega)) := by simp
          rw [e, e2, hF i _ e _ e2]; rfl
        · rw [List.getElem?_eq_none_iff.mpr (by omega), List.getElem?_eq_none_iff.mpr (by omega)]; rfl
      refine ⟨D, ps.map (·.1), rfl, SqL.of (by rw [← ez]; exact hDz), 1, _, rfl, rfl, ?_⟩
      have e5 := s5 _ _ e4
      have sb5 := sb4.trans (SameB.of s5)
      have hp5 := s5 _ _ hp4
      refine ⟨_, rfl, a, _, dx, _, rfl, e5, c, hna "many" (by simp), by omega, ?_⟩
      dsimp only
      generalize hmany : 1 + (ps.map (·.1)).sum = mm at kk ⊢
      generalize ef5 : putF "many" (.int mm) f4 = f5
      have l5 : f5.length ≤ fs.length + 5 := by rw [← ef5]; have := putF_len "many" (.int mm) f4; omega
      have e6 : (L2.upd H5 a (.ins (He.ga K k.nm) dx f5)) a = some (.ins (He.ga K k.nm) dx f5) := upd_same
      have sb6 := SameB.put (o := .ins (He.ga K k.nm) dx f5) sb5
      have hp6 := sb6 _ _ na hpi
      have hi5 : f5.lookup ("inner" : Str) = some (.ref pi) := by rw [← ef5, getN (by decide)]; exact hi4
      generalize L2.upd H5 a (.ins (He.ga K k.nm) dx f5) = H6 at e6 sb6 hp6 ⊢
      refine u_fld (u_opc (u_cb1 (u_lst (u_consC (u_star ?_)))))
      refine lc_seq (H1 := H6) (v := .ref pi) ?_ (SqK.tup hp6) (by omega) (fun D i H' z => ∀ p, ps[i]? = some p → z = .int p.2) (fun _ _ _ _ _ _ h => h) ?_ ?_ (fun _ => rfl)
      · intro R r
        exact ⟨_, rfl, a, _, dx, _, _, rfl, e6, c, hna "inner" (by simp), hi5, r⟩
      · intro D i x H' R hx hD s7 hDn hR
        obtain ⟨p, b, dxb, fsb, kb, hp', rfl, hb, hm, hl⟩ := part (sb6.trans (SameB.of s7)) hx
        refine ⟨_, rfl, b, _, dxb, fsb, _, rfl, hb, (T.pc kb).ok.cls, (T.pc kb).na "levels" (by simp), hl, hR _ _ (Same.refl _) fun p2 h2 => ?_⟩
        rw [hp'] at h2; cases h2; rfl
      · intro D2 H7 ws hD2 s7 hDw hl3 hF3
        have ew : ws = (ps.map (·.2)).map V.int := by
          apply List.ext_getElem?
          intro i
          rw [List.getElem?_map, List.getElem?_map]
          by_cases hi : i < ws.length
          · have e : ws[i]? = some ws[i] := by simp
            have e2 : ps[i]? = some (ps[i]'(by omega)) := by simp
            rw [e, e2, hF3 i _ e _ e2]; rfl
          · rw [List.getElem?_eq_none_iff.mpr (by omega), List.getElem?_eq_none_iff.mpr (by omega)]; rfl
        refine ⟨D2, ws, rfl, .inr (SqL.of hDw), ?_⟩
        refine ⟨?_, fun q nq => ?_⟩
        · have : (V.int 0 :: (ws ++ [])).length ≤ 10 := by simp; omega
          exact Nat.le_trans this (by decide)
        have s8 := Same.of_new (o := .lst (V.int 0 :: (ws ++ []))) nq
        refine ⟨q, 0 :: ps.map (·.2), rfl, SqL.of (by rw [ew, List.append_nil]; exact upd_same), by simp, fun m hm1 hm2 => ?_⟩
        have e8 := s8 _ _ (s7 _ _ e6)
        have sb8 := (sb6.trans (SameB.of s7)).trans (SameB.of s8)
        refine ⟨1, m, rfl, rfl, _, rfl, a, _, dx, _, rfl, e8, c, hna "levels" (by simp), by omega, ?_⟩
        refine kk _ (1 + m) (SameB.put sb8) (fun B hB0 hB => ?_) ?_
        · rcases List.mem_cons.mp hm1 with h | h
          · omega
          · obtain ⟨p, hp1, rfl⟩ := List.mem_map.mp h
            have := hB p hp1
            omega
        · rw [upd_same]
          unfold pfs
          rw [ef2, ef3, ef4, ef5]
end
end Hp
namespace Hp
set_option Elab.async false
set_option linter.all false
set_option maxRecDepth 100000
set_option maxHeartbeats 4000000
open PySem PySem.Spec PyProof.Rows L2 NdefX
/-- a promise: of one good, a mix, a walk's, a number of times a part, a part then another, all of some, the greatest of some -/
inductive Pr where
  | hold (i : Nat)
  | mix (m : List Rat)
  | walk (ms : List (List Rat)) (as : List (Nat × Nat)) (ws : List Rat)
  | times (q : Rat) (p : Pr)
  | thn (d : Nat) (a b : Pr)
  | sum (l : List Pr)
  | gre (l : List Pr)
def capM : Nat → Int
  | 0 => 0
  | n + 1 => 1 + 3 * capM n
/-- what each promise has -/
structure PrB (K : PySem.W.Frag) (H : Hp) (v : V) (k : PKind) (g : Nat) (inn : List V) (m l : Int) (fs : List (Str × V)) : Prop where
  ins : InsAt H v (He.ga K k.nm) fs
  kind : fget fs "kind" = some (.str k.kd)
  goods : fget fs "goods" = some (.int (g : Int))
  inner : ∃ vi, fget fs "inner" = some vi ∧ SqK false H vi inn
  many : fget fs "many" = some (.int m)
  levels : fget fs "levels" = some (.int l)
theorem PrB.n {K : PySem.W.Frag} {H H' : Hp} {v : V} {k : PKind} {g : Nat} {inn : List V} {m l : Int} {fs : List (Str × V)} (h : PrB K H v k g inn m l fs) (e : SameN H H') : PrB K H' v k g inn m l fs := by
  obtain ⟨h1, h2, h3, ⟨vi, h4, h5⟩, h6, h7⟩ := h
  exact ⟨h1.n e, h2, h3, ⟨vi, h4, h5.n e⟩, h6, h7⟩
theorem PrB.part {K : PySem.W.Frag} {H : Hp} {v : V} {k : PKind} {g : Nat} {inn : List V} {m l : Int} {fs : List (Str × V)} (h : PrB K H v k g inn m l fs) : PartAt K H v (m, l) := ⟨k, fs, h.ins, h.many, h.levels⟩
/-- at v: the program's promise p, at most n levels -/
def PrAt (K : PySem.W.Frag) (g : Nat) : Nat → Hp → V → Pr → Prop
  | 0, _, _, _ => False
  | n + 1, H, v, p => ∃ k fs inn m l, PrB K H v k g inn m l fs ∧ m ≤ capM (n + 1) ∧ l ≤ (n : Int) + 1 ∧ (match p with
    | .hold i => k = .hold ∧ inn = [] ∧ i < g ∧ fget fs "good" = some (.int (i : Int))
    | .mix ps => k = .mix ∧ inn = [] ∧ ∃ vs, fget fs "shares" = some vs ∧ RowAt H vs ps
    | .walk ms as ws => k = .walk ∧ inn = [] ∧ ∃ vm vw, fget fs "machine" = some vm ∧ MacAt K H vm g ms as ∧ fget fs "weights" = some vw ∧ RowAt H vw ws
    | .times q p => k = .times ∧ ∃ vq vp, fget fs "number" = some vq ∧ Num H vq q ∧ fget fs "part" = some vp ∧ inn = [vp] ∧ PrAt K g n H vp p
    | .thn d a b => k = .thn ∧ ∃ va vb, fget fs "days" = some (.int (d : Int)) ∧ fget fs "first" = some va ∧ fget fs "last" = some vb ∧ inn = [va, vb] ∧ PrAt K g n H va a ∧ PrAt K g n H vb b
    | .sum ps => k = .sum ∧ ps ≠ [] ∧ ps.length ≤ 3 ∧ ∃ vp, fget fs "parts" = some vp ∧ SqK false H vp inn ∧ Paired (PrAt K g n H) inn ps
    | .gre ps => k = .greatest ∧ ps ≠ [] ∧ ps.length ≤ 3 ∧ ∃ vp, fget fs "parts" = some vp ∧ SqK false H vp inn ∧ Paired (PrAt K g n H) inn ps)
theorem PrAt.n {K : PySem.W.Frag} {g : Nat} {H H' : Hp} (e : SameN H H') : ∀ {n : Nat} {v : V} {p : Pr}, PrAt K g n H v p → PrAt K g n H' v p
  | 0, _, _, h => h
  | n + 1, v, p, h => by
    obtain ⟨k, fs, inn, m, l, hb, hm, hl, h⟩ := h
    refine ⟨k, fs, inn, m, l, hb.n e, hm, hl, ?_⟩
    cases p with
    | hold i => exact h
    | mix ps =>
      obtain ⟨h1, h2, vs, h3, h4⟩ := h
      exact ⟨h1, h2, vs, h3, h4.n e⟩
    | walk ms as ws =>
      obtain ⟨h1, h2, vm, vw, h3, h4, h5, h6⟩ := h
      exact ⟨h1, h2, vm, vw, h3, h4.n e, h5, h6.n e⟩
    | times q p =>
      obtain ⟨h1, vq, vp, h2, h3, h4, h5, h6⟩ := h
      exact ⟨h1, vq, vp, h2, h3.mono e, h4, h5, h6.n e⟩
    | thn d a b =>
      obtain ⟨h1, va, vb, h2, h3, h4, h5, h6, h7⟩ := h
      exact ⟨h1, va, vb, h2, h3, h4, h5, h6.n e, h7.n e⟩
    | sum ps =>
      obtain ⟨h1, h2, h3, vp, h4, h5, h6⟩ := h
      exact ⟨h1, h2, h3, vp, h4, h5.n e, Paired.mapP h6 fun _ _ q => PrAt.n e q⟩
    | gre ps =>
      obtain ⟨h1, h2, h3, vp, h4, h5, h6⟩ := h
      exact ⟨h1, h2, h3, vp, h4, h5.n e, Paired.mapP h6 fun _ _ q => PrAt.n e q⟩
theorem PrAt.base {K : PySem.W.Frag} {g n : Nat} {H : Hp} {v : V} {p : Pr} (h : PrAt K g n H v p) : ∃ k fs inn m l, PrB K H v k g inn m l fs ∧ m ≤ capM n ∧ l ≤ (n : Int) := by
  cases n with
  | zero => exact absurd h (by intro z; exact z)
  | succ n =>
    obtain ⟨k, fs, inn, m, l, hb, hm, hl, _⟩ := h
    exact ⟨k, fs, inn, m, l, hb, hm, by omega⟩
/-- the parts' counts -/
theorem parts_at {K : PySem.W.Frag} {g n : Nat} {H : Hp} : ∀ {xs : List V} {ps : List Pr}, Paired (PrAt K g n H) xs ps → ∃ qs : List (Int × Int), Paired (PartAt K H) xs qs ∧ (∀ q ∈ qs, q.1 ≤ capM n ∧ q.2 ≤ (n : Int)) ∧ (qs.map (·.1)).sum ≤ qs.length * capM n ∧ qs.length = ps.length
  | [], [], _ => ⟨[], .nil, by simp, by simp, rfl⟩
  | x :: xs, p :: ps, .cons h t => by
    obtain ⟨qs, h1, h2, h3, h4⟩ := parts_at t
    obtain ⟨k, fs, inn, m, l, hb, hm, hl⟩ := h.base
    refine ⟨(m, l) :: qs, .cons hb.part h1, fun q hq => ?_, ?_, by simp [h4]⟩
    · rcases List.mem_cons.mp hq with rfl | hq
      · exact ⟨hm, hl⟩
      · exact h2 q hq
    · simp only [List.map_cons, List.sum_cons, List.length_cons]
      rw [Int.natCast_add, Int.add_mul]
      simp only [Int.natCast_one, Int.one_mul]
      omega
section
variable {P : Program} {w : World} {K : PySem.W.Frag} {mg : Str → Option Value} {base : Heap}
def sp_need_promise (K : PySem.W.Frag) : Sp := fun vs H Q _ => ∃ v z gv k g inn m l fs, vs = [v, .str z, gv] ∧ PrB K H v k g inn m l fs ∧ (gv = .non ∨ gv = .int (g : Int)) ∧ Q .non H
theorem sc_need_promise : FnScope ["value", "part", "goods"] ["value", "part", "goods"] (defScope s_need_promise) := ⟨rfl, rfl, rfl, by decide +kernel, rfl, by decide +kernel, by decide +kernel⟩
theorem c_need_promise (T : Wd K mg base) : Cal P w K mg base 3 "need_promise" (sp_need_promise K) [] := by
  obtain ⟨fd, F⟩ := T.d_need_promise
  refine mkCalD (k := 3 - 1) (j := 2) F T.g_need_promise sc_need_promise (F.binds1 3 2 (by intro z; cases z) rfl fun _ _ _ _ _ _ _ us its h1 h2 => match us, its, h1, h2 with | [_, _, _], [_, _], _, _ => ⟨_, rfl, rfl⟩) (fun vs H Q E h => ?_) (fun cdv A outer s H vs Q E hr h => ?_)
  · rcases h with ⟨v, z, gv, k, g, inn, m, l, fs, rfl, hb, hg, kk⟩ <;> rfl
  · rcases h with ⟨v, z, gv, k, g, inn, m, l, fs, rfl, hb, hg, kk⟩
    refine ⟨_, (pss_one (ps_if (PW.pt (pw_or (pt_not (pt_val (pe_callB call_isi (by rfl) T.f_isinstance (by decide +kernel) (pa_cons (pv 0) (pa_cons (pe_gc rfl T.cls_promise) pa_nil))))) (pw_or1 (PW.pt (pw_and (pt_cmpR op_notN (pv 2) pe_non (nomark _)) (pw_and1 (pt_cmpR op_ne (pe_fld (pv 0) rfl) (pv 2) (nomark _)))))))) pss_never pss_nil)), ?_⟩
    obtain ⟨a, dx, rfl, hi⟩ := id hb.ins
    have pc := T.pc k
    refine ⟨_, rfl, _, _, _, _, true, rfl, .own _, pc.ok.ty hi, pc.isa, _, rfl, iteF ?_⟩
    rcases hg with rfl | rfl
    · exact ⟨_, rfl, rfl, _, rfl, iteF (iteF kk)⟩
    · refine ⟨_, rfl, rfl, _, rfl, iteT ?_⟩
      refine ⟨_, rfl, a, _, dx, fs, _, rfl, hi, pc.ok.cls, pc.na "goods" (by simp), hb.goods, _, rfl, rfl, _, rfl, ?_⟩
      rw [decide_eq_true (show V.int (g : Int) = V.int (g : Int) from rfl)]
      exact iteF kk
theorem c_need_promise1 (T : Wd K mg base) : Cal P w K mg base 3 "need_promise" (sp_need_promise K) [.non] := by
  obtain ⟨fd, F⟩ := T.d_need_promise
  refine mkCalD (k := 3 - 1) (j := 1) F T.g_need_promise sc_need_promise (F.binds1 2 1 (by intro z; cases z) rfl fun _ _ _ _ _ _ _ us its h1 h2 => match us, its, h1, h2 with | [_, _], [_, _], _, _ => ⟨_, rfl, rfl⟩) (fun vs H Q E h => ?_) (fun cdv A outer s H vs Q E hr h => ?_)
  · rcases h with ⟨v, z, gv, k, g, inn, m, l, fs, rfl, hb, hg, kk⟩ <;> rfl
  · rcases h with ⟨v, z, gv, k, g, inn, m, l, fs, rfl, hb, hg, kk⟩
    refine ⟨_, (pss_one (ps_if (PW.pt (pw_or (pt_not (pt_val (pe_callB call_isi (by rfl) T.f_isinstance (by decide +kernel) (pa_cons (pv 0) (pa_cons (pe_gc rfl T.cls_promise) pa_nil))))) (pw_or1 (PW.pt (pw_and (pt_cmpR op_notN (pv 2) pe_non (nomark _)) (pw_and1 (pt_cmpR op_ne (pe_fld (pv 0) rfl) (pv 2) (nomark _)))))))) pss_never pss_nil)), ?_⟩
    obtain ⟨a, dx, rfl, hi⟩ := id hb.ins
    have pc := T.pc k
    refine ⟨_, rfl, _, _, _, _, true, rfl, .own _, pc.ok.ty hi, pc.isa, _, rfl, iteF ?_⟩
    rcases hg with rfl | rfl
    · exact ⟨_, rfl, rfl, _, rfl, iteF (iteF kk)⟩
    · refine ⟨_, rfl, rfl, _, rfl, iteT ?_⟩
      refine ⟨_, rfl, a, _, dx, fs, _, rfl, hi, pc.ok.cls, pc.na "goods" (by simp), hb.goods, _, rfl, rfl, _, rfl, ?_⟩
      rw [decide_eq_true (show V.int (g : Int) = V.int (g : Int) from rfl)]
      exact iteF kk
theorem c_need_promise0 (T : Wd K mg base) : Cal P w K mg base 3 "need_promise" (sp_need_promise K) [.str "promise", .non] := by
  obtain ⟨fd, F⟩ := T.d_need_promise
  refine mkCalD (k := 3 - 1) (j := 0) F T.g_need_promise sc_need_promise (F.binds1 1 0 (by intro z; cases z) rfl fun _ _ _ _ _ _ _ us its h1 h2 => match us, its, h1, h2 with | [_], [_, _], _, _ => ⟨_, rfl, rfl⟩) (fun vs H Q E h => ?_) (fun cdv A outer s H vs Q E hr h => ?_)
  · rcases h with ⟨v, z, gv, k, g, inn, m, l, fs, rfl, hb, hg, kk⟩ <;> rfl
  · rcases h with ⟨v, z, gv, k, g, inn, m, l, fs, rfl, hb, hg, kk⟩
    refine ⟨_, (pss_one (ps_if (PW.pt (pw_or (pt_not (pt_val (pe_callB call_isi (by rfl) T.f_isinstance (by decide +kernel) (pa_cons (pv 0) (pa_cons (pe_gc rfl T.cls_promise) pa_nil))))) (pw_or1 (PW.pt (pw_and (pt_cmpR op_notN (pv 2) pe_non (nomark _)) (pw_and1 (pt_cmpR op_ne (pe_fld (pv 0) rfl) (pv 2) (nomark _)))))))) pss_never pss_nil)), ?_⟩
    obtain ⟨a, dx, rfl, hi⟩ := id hb.ins
    have pc := T.pc k
    refine ⟨_, rfl, _, _, _, _, true, rfl, .own _, pc.ok.ty hi, pc.isa, _, rfl, iteF ?_⟩
    rcases hg with rfl | rfl
    · exact ⟨_, rfl, rfl, _, rfl, iteF (iteF kk)⟩
    · refine ⟨_, rfl, rfl, _, rfl, iteT ?_⟩
      refine ⟨_, rfl, a, _, dx, fs, _, rfl, hi, pc.ok.cls, pc.na "goods" (by simp), hb.goods, _, rfl, rfl, _, rfl, ?_⟩
      rw [decide_eq_true (show V.int (g : Int) = V.int (g : Int) from rfl)]
      exact iteF kk
end
end Hp
namespace Hp
set_option Elab.async false
set_option linter.all false
set_option maxRecDepth 100000
set_option maxHeartbeats 4000000
open PySem PySem.Spec PyProof.Rows L2 NdefX
section
variable {P : Program} {w : World} {K : PySem.W.Frag} {mg : Str → Option Value} {base : Heap}
def sp_need_parts  : Sp :=  fun vs H Q _ => ∃ b v xs g, vs = [v] ∧ SqK b H v xs ∧ (∀ x ∈ xs, ∃ k inn m l fs, PrB K H x k g inn m l fs) ∧ 1 ≤ xs.length ∧ xs.length ≤ 6 ∧ ∀ p H', Same H H' → H' p = some (.tup xs) → Q (.ref p) H'
theorem sc_need_parts : FnScope ["value", "part"] ["value"] (defScope s_need_parts) := ⟨rfl, rfl, rfl, by decide +kernel, rfl, by decide +kernel, by decide +kernel⟩
theorem c_need_parts (T : Wd K mg base) : Cal P w K mg base 3 "need_parts" (sp_need_parts (K := K)) [] := by
  obtain ⟨fd, F⟩ := T.d_need_parts
  refine mkCal (k := 3 - 1) F T.g_need_parts sc_need_parts (F.bindsN fun _ _ _ _ _ _ us hl => match us, hl with | [_], _ => rfl) (fun vs H Q E h => ?_) (fun cdv A outer s H vs Q E hr h => ?_)
  · rcases h with ⟨b, v, xs, g, rfl, sx, hx, h1, h6, kk⟩ <;> rfl
  · rcases h with ⟨b, v, xs, g, rfl, sx, hx, h1, h6, kk⟩
    refine ⟨_, (pss_cons (ps_if (PW.pt (pw_or (pt_not (pt_val (pe_c (c_is_list T) hr (by decide) rfl (pa_cons (pv 0) pa_nil)))) (pw_or1 (pt_not (pt_chain op_le op_le pe_int (pe_callB call_len_seq (by rfl) T.f_len (by decide +kernel) (pa_cons (pv 0) pa_nil)) (pe_gc rfl T.most_parts)))))) pss_never pss_nil)
  (pss_cons (ps_for PassesOwn.never rfl (pi_seq (pv 0)) (pg_name (i := 1) sc_need_parts.nd rfl (Or.inl rfl))
  (pss_one (ps_if (PW.pt (pw_or (pt_not (pt_val (pe_callB call_isi (by rfl) T.f_isinstance (by decide +kernel) (pa_cons (pv 1) (pa_cons (pe_gc rfl T.cls_promise) pa_nil))))) (pw_or1 (pt_cmpR op_ne (pe_fld (pv 1) rfl) (pe_fld (pe_ix ix_seq (pv 0) pe_int (fun _ _ => rfl)) rfl) (nomark _))))) pss_never pss_nil)))
  (pss_one (ps_ret (pe_callTy call_tuple_of (by rfl) T.f_tuple (by decide +kernel) (pa_cons (pv 0) pa_nil)))))), ?_⟩
    obtain ⟨pv, rfl, _⟩ := id sx
    have h0 : xs[0]? = some xs[0] := by simp
    obtain ⟨k0, inn0, m0, l0, fs0, hb0⟩ := hx xs[0] (by simp)
    obtain ⟨a0, dx0, e0, hi0⟩ := id hb0.ins
    rw [e0] at h0
    refine ⟨_, rfl, .inr ⟨_, _, rfl, sx.to, fun H1 s1 => ⟨_, rfl, iteF ?_⟩⟩⟩
    refine ⟨_, rfl, _, _, rfl, (sx.same s1).or, _, _, rfl, rfl, _, rfl, itt (dt (by omega)) ⟨_, _, rfl, rfl, _, rfl, itf (by rw [dt (by omega)]; rfl) ?_⟩⟩
    have sx1 := sx.same s1
    refine for_seq (gives_var rfl) sx1 (fun i σ' H' => ∃ y, σ' = [some (.ref pv), y] ∧ H' = H1) ⟨_, rfl, rfl⟩ (fun i σ' H' _ ⟨_, _, e⟩ => by rw [e]; exact sx1) ?_ ?_
    · rintro i x σ' H' hxi ⟨y, rfl, rfl⟩
      obtain ⟨k1, inn1, m1, l1, fs1, hb1⟩ := hx x (mem_get hxi)
      obtain ⟨a1, dx1, rfl, hi1⟩ := id (hb1.n s1.n).ins
      have pc := T.pc k1
      have hi0' := s1 _ _ hi0
      refine ⟨_, rfl, _, _, _, _, true, rfl, .own _, pc.ok.ty hi1, pc.isa, _, rfl, iteF ?_⟩
      refine ⟨_, rfl, a1, _, dx1, fs1, _, rfl, hi1, pc.ok.cls, pc.na "goods" (by simp), hb1.goods, _, rfl, ixOf (i := 0) sx1 h0 ⟨a0, _, dx0, fs0, _, rfl, hi0', (T.pc k0).ok.cls, (T.pc k0).na "goods" (by simp), hb0.goods, rfl, _, rfl, ?_⟩⟩
      rw [decide_eq_true (show V.int (g : Int) = V.int (g : Int) from rfl)]
      exact iteF ⟨_, rfl, rfl⟩
    · rintro σ' H' ⟨y, rfl, rfl⟩
      exact ⟨_, rfl, tupOf sx1 fun p H' s2 hp => kk p H' (s1.trans s2) hp⟩
def sp_need_shares  : Sp :=  fun vs H Q _ => ∃ b v xs qs, vs = [v] ∧ SqK b H v xs ∧ Nums H xs qs ∧ MixOk qs ∧ 1 ≤ qs.length ∧ qs.length ≤ 5 ∧ ∀ p H', Same H H' → H' p = some (.tup xs) → Q (.ref p) H'
theorem sc_need_shares : FnScope ["value"] ["value"] (defScope s_need_shares) := ⟨rfl, rfl, rfl, by decide +kernel, rfl, by decide +kernel, by decide +kernel⟩
theorem c_need_shares (T : Wd K mg base) : Cal P w K mg base 7 "need_shares" sp_need_shares [] := by
  obtain ⟨fd, F⟩ := T.d_need_shares
  refine mkCal (k := 7 - 1) F T.g_need_shares sc_need_shares (F.bindsN fun _ _ _ _ _ _ us hl => match us, hl with | [_], _ => rfl) (fun vs H Q E h => ?_) (fun cdv A outer s H vs Q E hr h => ?_)
  · rcases h with ⟨b, v, xs, qs, rfl, sx, hx, hok, h1, h5, kk⟩ <;> rfl
  · rcases h with ⟨b, v, xs, qs, rfl, sx, hx, hok, h1, h5, kk⟩
    refine ⟨_, (pss_cons (ps_if (PW.pt (pw_or (pt_not (pt_val (pe_c (c_is_list T) hr (by decide) rfl (pa_cons (pv 0) pa_nil)))) (pw_or (pt_not (pt_chain op_le op_le pe_int (pe_callB call_len_seq (by rfl) T.f_len (by decide +kernel) (pa_cons (pv 0) pa_nil)) (pe_gc rfl T.most_goods))) (pw_or1 (pt_not (pt_val (pe_c (c_is_mix_of T) hr (by decide) rfl (pa_cons (pv 0) (pa_cons (pe_callB call_len_seq (by rfl) T.f_len (by decide +kernel) (pa_cons (pv 0) pa_nil)) pa_nil))))))))) pss_never pss_nil)
  (pss_one (ps_ret (pe_c (c_kept_row T) hr (by decide) rfl (pa_cons (pv 0) pa_nil))))), ?_⟩
    obtain ⟨pv, rfl, _⟩ := id sx
    have hl := hx.length
    refine ⟨_, rfl, .inr ⟨_, _, rfl, sx.to, fun H1 s1 => ⟨_, rfl, iteF ?_⟩⟩⟩
    refine ⟨_, rfl, _, _, rfl, (sx.same s1).or, _, _, rfl, rfl, _, rfl, itt (dt (by omega)) ⟨_, _, rfl, rfl, _, rfl, itf (by rw [dt (by omega)]; rfl) ?_⟩⟩
    refine ⟨_, rfl, _, rfl, _, _, rfl, (sx.same s1).or, b, _, xs, qs, rfl, sx.same s1, hx.mono s1.n, hok.1, h5, hok.2.1, hok.2.2, fun H2 s2 => ⟨_, rfl, iteF ?_⟩⟩
    exact ⟨_, rfl, b, _, xs, qs, rfl, (sx.same s1).same s2, (hx.mono s1.n).mono s2.n, by omega, fun p H3 s3 _ hp => kk p H3 ((s1.trans s2).trans s3) hp⟩
def sp_need_room  : Sp :=  fun vs H Q _ => ∃ v k g inn m l fs, vs = [v] ∧ PrB K H v k g inn m l fs ∧ m ≤ 40 ∧ l ≤ 6 ∧ Q .non H
theorem sc_need_room : FnScope ["promise"] ["promise"] (defScope s_need_room) := ⟨rfl, rfl, rfl, by decide +kernel, rfl, by decide +kernel, by decide +kernel⟩
theorem c_need_room (T : Wd K mg base) : Cal P w K mg base 3 "need_room" (sp_need_room (K := K)) [] := by
  obtain ⟨fd, F⟩ := T.d_need_room
  refine mkCal (k := 3 - 1) F T.g_need_room sc_need_room (F.bindsN fun _ _ _ _ _ _ us hl => match us, hl with | [_], _ => rfl) (fun vs H Q E h => ?_) (fun cdv A outer s H vs Q E hr h => ?_)
  · rcases h with ⟨v, k, g, inn, m, l, fs, rfl, hb, hm, hl, kk⟩ <;> rfl
  · rcases h with ⟨v, k, g, inn, m, l, fs, rfl, hb, hm, hl, kk⟩
    refine ⟨_, (pss_cons (ps_if (pt_cmpR op_gt (pe_fld (pv 0) rfl) (pe_gc rfl T.most_levels) (nomark _)) pss_never pss_nil)
  (pss_one (ps_if (pt_cmpR op_gt (pe_fld (pv 0) rfl) (pe_gc rfl T.most_promises) (nomark _)) pss_never pss_nil))), ?_⟩
    obtain ⟨a, dx, rfl, hi⟩ := id hb.ins
    have pc := T.pc k
    refine ⟨_, rfl, a, _, dx, fs, _, rfl, hi, pc.ok.cls, pc.na "levels" (by simp), hb.levels, _, _, rfl, rfl, _, rfl, itf (df (by omega)) ?_⟩
    exact ⟨_, rfl, a, _, dx, fs, _, rfl, hi, pc.ok.cls, pc.na "many" (by simp), hb.many, _, _, rfl, rfl, _, rfl, itf (df (by omega)) kk⟩
def sp_Hold_init  : Sp :=  fun vs H Q _ => ∃ a dx g i, vs = [.ref a, .int ((g : Nat) : Int), .int ((i : Nat) : Int)] ∧ H a = some (.ins (He.ga K "Hold") dx []) ∧ 1 ≤ g ∧ g ≤ 5 ∧ i < g ∧ ∀ H', SameB a H H' → PrAt K g 1 H' (.ref a) (.hold i) → Q .non H'
theorem sc_Hold_init : NScope ["self", "goods", "good", "__class__"] ["self", "goods", "good"] ["__class__"] (defScope s_Hold_init) := nscope_by (by decide +kernel)
theorem i_Hold (T : Wd K mg base) (hP : PF P) : Ini P w K mg base 5 (iAd K "Hold") (sp_Hold_init (K := K)) := by
  obtain ⟨c, cc, SF⟩ := T.supf hP (d := ⟨"Hold", "Hold.__init__", s_Hold_init⟩) (.head _)
  obtain ⟨fd2, ps2, F2, b2⟩ := (i_Promise (P := P) (w := w) T).ex
  refine mkSup (k := 5 - 1) SF sc_Hold_init (fun _ _ _ _ _ _ us hl => match us, hl with | [_, _, _], _ => rfl) (fun vs H Q E h => ?_) (fun A outer s H vs Q E hr h => ?_)
  · rcases h with ⟨a, dx, g, i, rfl, ea, hg1, hg5, hi, kk⟩ <;> rfl
  · rcases h with ⟨a, dx, g, i, rfl, ea, hg1, hg5, hi, kk⟩
    refine ⟨_, (pat_cons (ps_expr (pe_c (c_need_goods T) hr (by decide) rfl (pa_cons (pv 1) pa_nil)))
        (pat_cons (ps_expr (pe_c (c_need_integer T) hr (by decide) rfl (pa_cons (pv 2) (pa_cons pe_str (pa_cons pe_int (pa_cons (pe_op op_sub (pv 1) pe_int) pa_nil))))))
        (pat_super SF.S rfl rfl rfl rfl rfl rfl T.f_super F2 (hr.mono (by decide)) b2 (pa_cons pe_str (pa_cons (pe_tup (pa_cons (pv 2) pa_nil)) (pa_cons (pe_tup pa_nil) (pa_cons (pv 1) pa_nil))))
        (pat_of (pss_one (ps_fld (pv 0) (pv 2) rfl)))))), ?_⟩
    refine ⟨_, rfl, _, rfl, by omega, by omega, ?_⟩
    refine ⟨_, rfl, _, rfl, _, _, rfl, rfl, (i : Int), _, some 0, some ((g : Int) - 1), rfl, by simp [inR]; omega, ?_⟩
    refine ⟨a, dx, [], rfl, ea, ?_⟩
    refine ⟨_, rfl, (by show 1 ≤ sizeLine; decide), fun t nt => ?_⟩
    have s1 := Same.of_new (o := .tup [V.int (i : Int)]) nt
    refine ⟨(by show 0 ≤ sizeLine; decide), fun t2 nt2 => ?_⟩
    have s2 := Same.of_new (o := .tup []) nt2
    have ea2 := s2 _ _ (s1 _ _ ea)
    refine ⟨_, rfl, a, dx, [], _, _, .ref t2, _, [], [], .hold, rfl, ea2, by simp, rfl, SqK.tup upd_same, .nil, by simp, fun H3 l sb hl e3 => ?_⟩
    have l1 := hl 0 (by omega) (by simp)
    have na2 : t2 ≠ a := fun z => by rw [z, s1 _ _ ea] at nt2; cases nt2
    have e2 := sb t2 _ na2 upd_same
    refine ⟨_, rfl, _, rfl, a, _, dx, _, rfl, e3, (T.pc .hold).ok.cls, (T.pc .hold).na "good" (by simp [PKind.own]), ?_, ?_⟩
    · exact Nat.lt_of_le_of_lt (pfs_len _ _ _ _ _ _ _) (by decide)
    refine kk _ (((SameB.of s1).trans (SameB.of s2)).trans (SameB.put sb)) ?_
    refine ⟨.hold, _, [], 1, l, ⟨⟨a, dx, rfl, upd_same⟩, ?_, ?_, ⟨_, ?_, ⟨t2, rfl, ?_⟩⟩, ?_, ?_⟩, by decide, by omega, rfl, rfl, hi, getP _ _ _⟩
    · exact (getN (by decide) _ _).trans (pfs_kind _ _ _ _ _ _ _)
    · exact (getN (by decide) _ _).trans (pfs_goods _ _ _ _ _ _ _)
    · exact (getN (by decide) _ _).trans (pfs_inner _ _ _ _ _ _ _)
    · show L2.upd _ _ _ _ = _
      rw [upd_ne na2]; exact e2
    · exact (getN (by decide) _ _).trans (pfs_many _ _ _ _ _ _ _)
    · exact (getN (by decide) _ _).trans (pfs_levels _ _ _ _ _ _ _)
theorem m_Hold (T : Wd K mg base) (hP : PF P) : Mak P w K mg base 5 "Hold" (He.ga K "Hold") (sp_Hold_init (K := K)) [] := (i_Hold T hP).mak T.k_Hold T.g_Hold
end
end Hp
namespace Hp
set_option Elab.async false
set_option linter.all false
set_option maxRecDepth 100000
set_option maxHeartbeats 4000000
open PySem PySem.Spec PyProof.Rows L2 NdefX
theorem prb_pfs {K : PySem.W.Frag} {H : Hp} {a dx : Addr} {k : PKind} {told inner : V} {g : Nat} {m l : Int} {fs : List (Str × V)} {inn : List V} (h : H a = some (.ins (He.ga K k.nm) dx (pfs k.kd told inner (g : Int) m l fs))) (hi : SqK false H inner inn) :
    PrB K H (.ref a) k g inn m l (pfs k.kd told inner (g : Int) m l fs) :=
  ⟨⟨a, dx, rfl, h⟩, pfs_kind _ _ _ _ _ _ _, pfs_goods _ _ _ _ _ _ _, ⟨inner, pfs_inner _ _ _ _ _ _ _, hi⟩, pfs_many _ _ _ _ _ _ _, pfs_levels _ _ _ _ _ _ _⟩
/-- a thing of another kind stands elsewhere -/
theorem ne_ins {H : Hp} {a p C dx : Addr} {fs : List (Str × V)} {xs : List V} (ea : H a = some (.ins C dx fs)) (hp : H p = some (.tup xs)) : p ≠ a := fun z => by rw [z, ea] at hp; cases hp
theorem SameB.sq {a C dx : Addr} {fs : List (Str × V)} {H H' : Hp} {v : V} {xs : List V} (sb : SameB a H H') (ea : H a = some (.ins C dx fs)) (h : SqK false H v xs) : SqK false H' v xs := by
  obtain ⟨p, rfl, hp⟩ := h
  exact ⟨p, rfl, sb _ _ (ne_ins ea hp) hp⟩
theorem SameB.num {a C dx : Addr} {fs : List (Str × V)} {H H' : Hp} {v : V} {q : Rat} (sb : SameB a H H') (ea : H a = some (.ins C dx fs)) (h : Num H v q) : Num H' v q := by
  rcases h with h | ⟨h, p, e, hp⟩
  · exact .inl h
  · exact .inr ⟨h, p, e, sb _ _ (ne_ins ea hp) hp⟩
theorem SameB.nums {a C dx : Addr} {fs : List (Str × V)} {H H' : Hp} {vs : List V} {qs : List Rat} (sb : SameB a H H') (ea : H a = some (.ins C dx fs)) (h : Nums H vs qs) : Nums H' vs qs := Paired.mapP h fun _ _ q => sb.num ea q
theorem SameB.row {a C dx : Addr} {fs : List (Str × V)} {H H' : Hp} {v : V} {qs : List Rat} (sb : SameB a H H') (ea : H a = some (.ins C dx fs)) (h : RowAt H v qs) : RowAt H' v qs := by
  obtain ⟨xs, h1, h2⟩ := h
  exact ⟨xs, sb.sq ea h1, sb.nums ea h2⟩
section
variable {P : Program} {w : World} {K : PySem.W.Frag} {mg : Str → Option Value} {base : Heap}
def sp_Mix_init  : Sp :=  fun vs H Q _ => ∃ a dx b v xs qs, vs = [.ref a, v] ∧ H a = some (.ins (He.ga K "Mix") dx []) ∧ SqK b H v xs ∧ Nums H xs qs ∧ MixOk qs ∧ 1 ≤ qs.length ∧ qs.length ≤ 5 ∧ ∀ H', SameB a H H' → PrAt K qs.length 1 H' (.ref a) (.mix qs) → Q .non H'
theorem sc_Mix_init : NScope ["self", "shares", "__class__"] ["self", "shares"] ["__class__"] (defScope s_Mix_init) := nscope_by (by decide +kernel)
theorem i_Mix (T : Wd K mg base) (hP : PF P) : Ini P w K mg base 8 (iAd K "Mix") (sp_Mix_init (K := K)) := by
  obtain ⟨c, cc, SF⟩ := T.supf hP (d := ⟨"Mix", "Mix.__init__", s_Mix_init⟩) (.tail _ (.head _))
  obtain ⟨fd2, ps2, F2, b2⟩ := (i_Promise (P := P) (w := w) T).ex
  refine mkSup (k := 8 - 1) SF sc_Mix_init (fun _ _ _ _ _ _ us hl => match us, hl with | [_, _], _ => rfl) (fun vs H Q E h => ?_) (fun A outer s H vs Q E hr h => ?_)
  · rcases h with ⟨a, dx, b, v, xs, qs, rfl, ea, sx, hx, hok, h1, h5, kk⟩ <;> rfl
  · rcases h with ⟨a, dx, b, v, xs, qs, rfl, ea, sx, hx, hok, h1, h5, kk⟩
    refine ⟨_, (pat_cons (ps_fld (pv 0) (pe_c (c_need_shares T) hr (by decide) rfl (pa_cons (pv 1) pa_nil)) rfl)
        (pat_super SF.S rfl rfl rfl rfl rfl rfl T.f_super F2 (hr.mono (by decide)) b2 (pa_cons pe_str (pa_cons (pe_fld (pv 0) rfl) (pa_cons (pe_tup pa_nil) (pa_cons (pe_callB call_len_seq (by rfl) T.f_len (by decide +kernel) (pa_cons (pe_fld (pv 0) rfl) pa_nil)) pa_nil))))
        (pat_of pss_nil))), ?_⟩
    have pc := T.pc .mix
    have hlx := hx.length
    refine ⟨_, rfl, b, v, xs, qs, rfl, sx, hx, hok, h1, h5, fun p H1 s1 hp => ?_⟩
    have e1 := s1 _ _ ea
    have np := ne_ins e1 hp
    refine ⟨_, rfl, a, _, dx, _, rfl, e1, pc.ok.cls, pc.na "shares" (by simp [PKind.own]), by decide, ?_⟩
    have e2 : (L2.upd H1 a (.ins (He.ga K "Mix") dx (putF "shares" (.ref p) []))) a = some (.ins (He.ga K "Mix") dx (putF "shares" (.ref p) [])) := upd_same
    have sb2 : SameB a H (L2.upd H1 a (.ins (He.ga K "Mix") dx (putF "shares" (.ref p) []))) := SameB.put (SameB.of s1)
    have hp2 : (L2.upd H1 a (.ins (He.ga K "Mix") dx (putF "shares" (.ref p) []))) p = some (.tup xs) := by rw [upd_ne np]; exact hp
    have hx2 := (hx.mono s1.n)
    have hx3 : Nums (L2.upd H1 a (.ins (He.ga K "Mix") dx (putF "shares" (.ref p) []))) xs qs := SameB.nums SameB.upd e1 hx2
    generalize L2.upd H1 a (.ins (He.ga K "Mix") dx (putF "shares" (.ref p) [])) = H2 at e2 sb2 hp2 hx3 ⊢
    refine ⟨a, dx, _, rfl, e2, ?_⟩
    refine ⟨_, rfl, a, _, dx, _, _, rfl, e2, pc.ok.cls, pc.na "shares" (by simp [PKind.own]), getP _ _ _, ?_⟩
    refine ⟨(by show 0 ≤ sizeLine; decide), fun t nt => ?_⟩
    have s3 := Same.of_new (o := .tup []) nt
    have e3 := s3 _ _ e2
    refine ⟨_, rfl, a, _, dx, _, _, rfl, e3, pc.ok.cls, pc.na "shares" (by simp [PKind.own]), getP _ _ _, p, xs, rfl, .inr (SqT.of (s3 _ _ hp2)), ?_⟩
    refine ⟨a, dx, _, _, _, .ref t, _, [], [], .mix, rfl, e3, Nat.le_trans (putF_len _ _ _) (by decide), (getN (by decide) _ _).trans rfl, SqK.tup upd_same, .nil, by simp, fun H4 l sb hl e4 => ?_⟩
    have l1 := hl 0 (by omega) (by simp)
    have sb4 := (sb2.trans (SameB.of s3)).trans sb
    refine kk _ sb4 ?_
    rw [hlx] at e4
    have hx4 := sb.nums e3 (hx3.mono s3.n)
    exact ⟨.mix, _, [], 1, l, prb_pfs (k := .mix) e4 (sb.sq e3 (SqK.tup upd_same)), by decide, by omega, rfl, rfl, .ref p, (pfs_own (by decide) _ _ _ _ _ _ _).trans (getP _ _ _), xs, ⟨p, rfl, sb _ _ np (s3 _ _ hp2)⟩, hx4⟩
theorem m_Mix (T : Wd K mg base) (hP : PF P) : Mak P w K mg base 8 "Mix" (He.ga K "Mix") (sp_Mix_init (K := K)) [] := (i_Mix T hP).mak T.k_Mix T.g_Mix
def sp_Times_init  : Sp :=  fun vs H Q _ => ∃ a dx v u q p g n, vs = [.ref a, v, u] ∧ H a = some (.ins (He.ga K "Times") dx []) ∧ Num H v q ∧ 0 ≤ q ∧ PrAt K g n H u p ∧ n ≤ 2 ∧ u ≠ .ref a ∧ ∀ H', SameB a H H' → (PrAt K g n H' u p → PrAt K g (n + 1) H' (.ref a) (.times q p)) → Q .non H'
theorem sc_Times_init : NScope ["self", "number", "part", "__class__"] ["self", "number", "part"] ["__class__"] (defScope s_Times_init) := nscope_by (by decide +kernel)
theorem i_Times (T : Wd K mg base) (hP : PF P) : Ini P w K mg base 6 (iAd K "Times") (sp_Times_init (K := K)) := by
  obtain ⟨c, cc, SF⟩ := T.supf hP (d := ⟨"Times", "Times.__init__", s_Times_init⟩) (.tail _ (.tail _ (.head _)))
  obtain ⟨fd2, ps2, F2, b2⟩ := (i_Promise (P := P) (w := w) T).ex
  refine mkSup (k := 6 - 1) SF sc_Times_init (fun _ _ _ _ _ _ us hl => match us, hl with | [_, _, _], _ => rfl) (fun vs H Q E h => ?_) (fun A outer s H vs Q E hr h => ?_)
  · rcases h with ⟨a, dx, v, u, q, p, g, n, rfl, ea, hq, h0, hp, hn, hua, kk⟩ <;> rfl
  · rcases h with ⟨a, dx, v, u, q, p, g, n, rfl, ea, hq, h0, hp, hn, hua, kk⟩
    refine ⟨_, (pat_cons (ps_fld (pv 0) (pe_c (c_need_from_0 T) hr (by decide) rfl (pa_cons (pv 1) (pa_cons pe_str pa_nil))) rfl)
        (pat_cons (ps_expr (pe_c (c_need_promise1 T) hr (by decide) rfl (pa_cons (pv 2) (pa_cons pe_str pa_nil))))
        (pat_cons (ps_fld (pv 0) (pv 2) rfl)
        (pat_super SF.S rfl rfl rfl rfl rfl rfl T.f_super F2 (hr.mono (by decide)) b2 (pa_cons pe_str (pa_cons (pe_tup (pa_cons (pe_fld (pv 0) rfl) pa_nil)) (pa_cons (pe_tup (pa_cons (pv 2) pa_nil)) (pa_cons (pe_fld (pv 2) rfl) pa_nil))))
        (pat_of (pss_one (ps_expr (pe_c (c_need_room T) hr (by decide) rfl (pa_cons (pv 0) pa_nil))))))))), ?_⟩
    have pc := T.pc .times
    refine ⟨_, rfl, v, q, _, rfl, hq, h0, fun H1 s1 => ?_⟩
    have e1 := s1 _ _ ea
    refine ⟨_, rfl, a, _, dx, _, rfl, e1, pc.ok.cls, pc.na "number" (by simp [PKind.own]), by decide, ?_⟩
    have e2 : (L2.upd H1 a (.ins (He.ga K "Times") dx (putF "number" v []))) a = some (.ins (He.ga K "Times") dx (putF "number" v [])) := upd_same
    have sb2 : SameB a H (L2.upd H1 a (.ins (He.ga K "Times") dx (putF "number" v []))) := SameB.put (SameB.of s1)
    generalize L2.upd H1 a (.ins (He.ga K "Times") dx (putF "number" v [])) = H2 at e2 sb2 ⊢
    obtain ⟨k, fs, inn, m, l, hb, hm, hl⟩ := hp.base
    obtain ⟨b, dxb, rfl, hib⟩ := id hb.ins
    have nb : b ≠ a := fun z => hua (by rw [z])
    have up : ∀ {H'}, SameB a H H' → PrB K H' (.ref b) k g inn m l fs := fun {H'} sb => by
      obtain ⟨vi, hv1, hv2⟩ := hb.inner
      exact ⟨⟨b, dxb, rfl, sb _ _ nb hib⟩, hb.kind, hb.goods, ⟨vi, hv1, sb.sq ea hv2⟩, hb.many, hb.levels⟩
    refine ⟨_, rfl, _, _, _, _, g, _, _, _, _, rfl, up sb2, .inl rfl, ?_⟩
    refine ⟨_, rfl, _, rfl, a, _, dx, _, rfl, e2, pc.ok.cls, pc.na "part" (by simp [PKind.own]), Nat.lt_of_le_of_lt (putF_len _ _ _) (by decide), ?_⟩
    have e3 : (L2.upd H2 a (.ins (He.ga K "Times") dx (putF "part" (.ref b) (putF "number" v [])))) a = some (.ins (He.ga K "Times") dx (putF "part" (.ref b) (putF "number" v []))) := upd_same
    have sb3 := SameB.put (o := .ins (He.ga K "Times") dx (putF "part" (.ref b) (putF "number" v []))) sb2
    generalize L2.upd H2 a (.ins (He.ga K "Times") dx (putF "part" (.ref b) (putF "number" v []))) = H3 at e3 sb3 ⊢
    refine ⟨a, dx, _, rfl, e3, ?_⟩
    refine ⟨_, rfl, a, _, dx, _, _, rfl, e3, pc.ok.cls, pc.na "number" (by simp [PKind.own]), (getN (by decide) _ _).trans (getP _ _ _), ?_⟩
    refine ⟨(by show 1 ≤ sizeLine; decide), fun t nt => ?_⟩
    have s4 := Same.of_new (o := .tup [v]) nt
    refine ⟨_, rfl, (by show 1 ≤ sizeLine; decide), fun t2 nt2 => ?_⟩
    have s5 := Same.of_new (o := .tup [V.ref b]) nt2
    have sb5 := (sb3.trans (SameB.of s4)).trans (SameB.of s5)
    have e5 := s5 _ _ (s4 _ _ e3)
    have hb5 := up sb5
    have inn5 : SqK false (L2.upd (L2.upd H3 t (.tup [v])) t2 (.tup [V.ref b])) (.ref t2) [V.ref b] := SqK.tup upd_same
    generalize L2.upd (L2.upd H3 t (.tup [v])) t2 (.tup [V.ref b]) = H5 at sb5 e5 hb5 inn5 ⊢
    obtain ⟨b', dxb', eb', hib5⟩ := id hb5.ins
    cases eb'
    refine ⟨_, rfl, b, _, dxb', fs, _, rfl, hib5, (T.pc k).ok.cls, (T.pc k).na "goods" (by simp), hb5.goods, ?_⟩
    refine ⟨a, dx, _, _, _, .ref t2, _, [V.ref b], [(m, l)], .times, rfl, e5, Nat.le_trans (putF_len _ _ _) (Nat.le_trans (Nat.succ_le_succ (putF_len _ _ _)) (by decide)), (getN (by decide) _ _).trans ((getN (by decide) _ _).trans rfl), inn5, .cons hb5.part .nil, by simp, fun H6 l6 sb hl6 e6 => ?_⟩
    have l1 := hl6 (max l 0) (by omega) (fun p hp => by rw [List.mem_singleton.mp hp]; show l ≤ _; omega)
    have sb6 := sb5.trans sb
    have hb6 := prb_pfs (k := .times) e6 (sb.sq e5 inn5)
    have hn0 : 1 ≤ n := by
      cases n with
      | zero => exact absurd hp (fun z => z)
      | succ n => omega
    have hc : m ≤ 4 := by
      have h2 : n = 1 ∨ n = 2 := by omega
      rcases h2 with rfl | rfl
      · have : capM 1 = 1 := by decide
        omega
      · have : capM 2 = 4 := by decide
        omega
    simp only [List.map_cons, List.map_nil, List.sum_cons, List.sum_nil] at hb6
    refine ⟨_, rfl, _, _, g, _, _, _, _, rfl, hb6, by omega, by omega, ?_⟩
    refine kk _ sb6 fun hp6 => ⟨.times, _, _, _, _, hb6, ?_, by omega, rfl, v, .ref b, (pfs_own (by decide) _ _ _ _ _ _ _).trans ((getN (by decide) _ _).trans (getP _ _ _)), sb6.num ea hq, (pfs_own (by decide) _ _ _ _ _ _ _).trans (getP _ _ _), rfl, hp6⟩
    show _ ≤ 1 + 3 * capM n
    have : 0 ≤ capM n := by
      have h2 : n = 1 ∨ n = 2 := by omega
      rcases h2 with rfl | rfl <;> decide
    omega
theorem m_Times (T : Wd K mg base) (hP : PF P) : Mak P w K mg base 6 "Times" (He.ga K "Times") (sp_Times_init (K := K)) [] := (i_Times T hP).mak T.k_Times T.g_Times
end
end Hp
namespace Hp
set_option Elab.async false
set_option linter.all false
set_option maxRecDepth 100000
set_option maxHeartbeats 4000000
open PySem PySem.Spec PyProof.Rows L2 NdefX
theorem SameB.part {K : PySem.W.Frag} {a : Addr} {H H' : Hp} {x : V} {p : Int × Int} (sb : SameB a H H') (hx : x ≠ .ref a) (h : PartAt K H x p) : PartAt K H' x p := by
  obtain ⟨k, fs, ⟨b, dx, rfl, hb⟩, h1, h2⟩ := h
  exact ⟨k, fs, ⟨b, dx, rfl, sb _ _ (fun z => hx (by rw [z])) hb⟩, h1, h2⟩
theorem SameB.prb {K : PySem.W.Frag} {a C dxa : Addr} {fsa : List (Str × V)} {H H' : Hp} {x : V} {k : PKind} {g : Nat} {inn : List V} {m l : Int} {fs : List (Str × V)} (sb : SameB a H H') (ea : H a = some (.ins C dxa fsa)) (hx : x ≠ .ref a) (h : PrB K H x k g inn m l fs) : PrB K H' x k g inn m l fs := by
  obtain ⟨⟨b, dx, rfl, hb⟩, h1, h2, ⟨vi, h3, h4⟩, h5, h6⟩ := h
  exact ⟨⟨b, dx, rfl, sb _ _ (fun z => hx (by rw [z])) hb⟩, h1, h2, ⟨vi, h3, sb.sq ea h4⟩, h5, h6⟩
theorem paired_mem {α β : Type} {F : α → β → Prop} {l : List α} {m : List β} (h : Paired F l m) : ∀ x ∈ l, ∃ y ∈ m, F x y := by
  induction h with
  | nil => intro x hx; cases hx
  | cons r t ih =>
    intro x hx
    rcases List.mem_cons.mp hx with rfl | hx
    · exact ⟨_, List.mem_cons_self, r⟩
    · obtain ⟨y, hy, f⟩ := ih x hx
      exact ⟨y, List.mem_cons_of_mem _ hy, f⟩
theorem paired_imp_mem {α β : Type} {F G : α → β → Prop} {l : List α} {m : List β} (h : Paired F l m) : (∀ x y, x ∈ l → F x y → G x y) → Paired G l m := by
  induction h with
  | nil => intro _; exact .nil
  | cons r t ih => intro f; exact .cons (f _ _ List.mem_cons_self r) (ih fun x y hx => f x y (List.mem_cons_of_mem _ hx))
theorem cap_le {n : Nat} (h : n ≤ 2) : 0 ≤ capM n ∧ capM n ≤ 4 := by
  have h2 : n = 0 ∨ n = 1 ∨ n = 2 := by omega
  rcases h2 with rfl | rfl | rfl <;> decide
section
variable {P : Program} {w : World} {K : PySem.W.Frag} {mg : Str → Option Value} {base : Heap}
def sp_Sum_init  : Sp :=  fun vs H Q _ => ∃ a dx b v xs ps g n, vs = [.ref a, v] ∧ H a = some (.ins (He.ga K "Sum") dx []) ∧ SqK b H v xs ∧ Paired (PrAt K g n H) xs ps ∧ ps ≠ [] ∧ ps.length ≤ 3 ∧ n ≤ 2 ∧ (∀ x ∈ xs, x ≠ .ref a) ∧ ∀ H', SameB a H H' → (Paired (PrAt K g n H') xs ps → PrAt K g (n + 1) H' (.ref a) (.sum ps)) → Q .non H'
theorem sc_Sum_init : NScope ["self", "parts", "__class__"] ["self", "parts"] ["__class__"] (defScope s_Sum_init) := nscope_by (by decide +kernel)
theorem i_Sum (T : Wd K mg base) (hP : PF P) : Ini P w K mg base 4 (iAd K "Sum") (sp_Sum_init (K := K)) := by
  obtain ⟨c, cc, SF⟩ := T.supf hP (d := ⟨"Sum", "Sum.__init__", s_Sum_init⟩) (.tail _ (.tail _ (.tail _ (.head _))))
  obtain ⟨fd2, ps2, F2, b2⟩ := (i_Promise (P := P) (w := w) T).ex
  refine mkSup (k := 4 - 1) SF sc_Sum_init (fun _ _ _ _ _ _ us hl => match us, hl with | [_, _], _ => rfl) (fun vs H Q E h => ?_) (fun A outer s H vs Q E hr h => ?_)
  · rcases h with ⟨a, dx, b, v, xs, ps, g, n, rfl, ea, sx, hp, hne, hl3, hn, hxa, kk⟩ <;> rfl
  · rcases h with ⟨a, dx, b, v, xs, ps, g, n, rfl, ea, sx, hp, hne, hl3, hn, hxa, kk⟩
    refine ⟨_, (pat_cons (ps_fld (pv 0) (pe_c (c_need_parts T) hr (by decide) rfl (pa_cons (pv 1) pa_nil)) rfl)
        (pat_super SF.S rfl rfl rfl rfl rfl rfl T.f_super F2 (hr.mono (by decide)) b2 (pa_cons pe_str (pa_cons (pe_tup pa_nil) (pa_cons (pe_fld (pv 0) rfl) (pa_cons (pe_fld (pe_ix ix_seq (pe_fld (pv 0) rfl) pe_int (fun _ _ => rfl)) rfl) pa_nil))))
        (pat_of (pss_one (ps_expr (pe_c (c_need_room T) hr (by decide) rfl (pa_cons (pv 0) pa_nil))))))), ?_⟩
    have pc := T.pc .sum
    have hlen := hp.length
    have hx0 : 1 ≤ xs.length := by
      cases ps with
      | nil => exact absurd rfl hne
      | cons a l => rw [hlen]; simp
    have hpb : ∀ x ∈ xs, ∃ k inn m l fs, PrB K H x k g inn m l fs := fun x hx => by
      obtain ⟨p, _, h⟩ := paired_mem hp x hx
      obtain ⟨k, fs, inn, m, l, hb, _, _⟩ := h.base
      exact ⟨k, inn, m, l, fs, hb⟩
    refine ⟨_, rfl, b, v, xs, g, rfl, sx, hpb, hx0, by omega, fun p H1 s1 hp1 => ?_⟩
    have e1 := s1 _ _ ea
    have np := ne_ins e1 hp1
    refine ⟨_, rfl, a, _, dx, _, rfl, e1, pc.ok.cls, pc.na "parts" (by simp [PKind.own]), by decide, ?_⟩
    have e2 : (L2.upd H1 a (.ins (He.ga K "Sum") dx (putF "parts" (.ref p) []))) a = some (.ins (He.ga K "Sum") dx (putF "parts" (.ref p) [])) := upd_same
    have sb2 : SameB a H (L2.upd H1 a (.ins (He.ga K "Sum") dx (putF "parts" (.ref p) []))) := SameB.put (SameB.of s1)
    have hp2 : (L2.upd H1 a (.ins (He.ga K "Sum") dx (putF "parts" (.ref p) []))) p = some (.tup xs) := by rw [upd_ne np]; exact hp1
    generalize L2.upd H1 a (.ins (He.ga K "Sum") dx (putF "parts" (.ref p) [])) = H2 at e2 sb2 hp2 ⊢
    refine ⟨a, dx, _, rfl, e2, ?_⟩
    refine ⟨(by show 0 ≤ sizeLine; decide), fun t nt => ?_⟩
    have s3 := Same.of_new (o := .tup []) nt
    have e3 := s3 _ _ e2
    have hp3 := s3 _ _ hp2
    have sb3 := sb2.trans (SameB.of s3)
    generalize L2.upd H2 t (.tup []) = H3 at e3 hp3 sb3 ⊢
    refine ⟨_, rfl, a, _, dx, _, _, rfl, e3, pc.ok.cls, pc.na "parts" (by simp [PKind.own]), getP _ _ _, ?_⟩
    have h0 : xs[0]? = some xs[0] := by simp
    obtain ⟨k0, inn0, m0, l0, fs0, hb0⟩ := hpb xs[0] (by simp)
    have hb03 := SameB.prb sb3 ea (hxa _ (by simp)) hb0
    obtain ⟨a0, dx0, ez, hi0⟩ := id hb03.ins
    rw [ez] at h0
    refine ⟨_, rfl, a, _, dx, _, _, rfl, e3, pc.ok.cls, pc.na "parts" (by simp [PKind.own]), getP _ _ _, ixOf (i := 0) (SqK.tup hp3) h0 ⟨a0, _, dx0, fs0, _, rfl, hi0, (T.pc k0).ok.cls, (T.pc k0).na "goods" (by simp), hb0.goods, ?_⟩⟩
    obtain ⟨qs, hq1, hq2, hq3, hq4⟩ := parts_at hp
    have hq1' : Paired (PartAt K H3) xs qs := paired_imp_mem hq1 fun x y hx h => SameB.part sb3 (hxa x hx) h
    refine ⟨a, dx, _, _, _, .ref p, _, xs, qs, .sum, rfl, e3, Nat.le_trans (putF_len _ _ _) (by decide), (getN (by decide) _ _).trans rfl, SqK.tup hp3, hq1', by omega, fun H6 l6 sb hl6 e6 => ?_⟩
    have l1 := hl6 (n : Int) (by omega) (fun q hq => (hq2 q hq).2)
    have sb6 := sb3.trans sb
    have hb6 := prb_pfs (k := .sum) e6 (sb.sq e3 (SqK.tup hp3))
    have hc := cap_le hn
    have hm6 : 1 + (qs.map (·.1)).sum ≤ 1 + 3 * capM n := by
      have h1 : (qs.length : Int) ≤ 3 := by omega
      have := Int.mul_le_mul_of_nonneg_right h1 hc.1
      omega
    refine ⟨_, rfl, _, _, g, _, _, _, _, rfl, hb6, by omega, by omega, ?_⟩
    exact kk _ sb6 fun hp6 => ⟨.sum, _, _, _, _, hb6, hm6, by omega, rfl, hne, hl3, .ref p, (pfs_own (by decide) _ _ _ _ _ _ _).trans (getP _ _ _), sb.sq e3 (SqK.tup hp3), hp6⟩
theorem m_Sum (T : Wd K mg base) (hP : PF P) : Mak P w K mg base 4 "Sum" (He.ga K "Sum") (sp_Sum_init (K := K)) [] := (i_Sum T hP).mak T.k_Sum T.g_Sum
def sp_Greatest_init  : Sp :=  fun vs H Q _ => ∃ a dx b v xs ps g n, vs = [.ref a, v] ∧ H a = some (.ins (He.ga K "Greatest") dx []) ∧ SqK b H v xs ∧ Paired (PrAt K g n H) xs ps ∧ ps ≠ [] ∧ ps.length ≤ 3 ∧ n ≤ 2 ∧ (∀ x ∈ xs, x ≠ .ref a) ∧ ∀ H', SameB a H H' → (Paired (PrAt K g n H') xs ps → PrAt K g (n + 1) H' (.ref a) (.gre ps)) → Q .non H'
theorem sc_Greatest_init : NScope ["self", "parts", "__class__"] ["self", "parts"] ["__class__"] (defScope s_Greatest_init) := nscope_by (by decide +kernel)
theorem i_Greatest (T : Wd K mg base) (hP : PF P) : Ini P w K mg base 4 (iAd K "Greatest") (sp_Greatest_init (K := K)) := by
  obtain ⟨c, cc, SF⟩ := T.supf hP (d := ⟨"Greatest", "Greatest.__init__", s_Greatest_init⟩) (.tail _ (.tail _ (.tail _ (.tail _ (.head _)))))
  obtain ⟨fd2, ps2, F2, b2⟩ := (i_Promise (P := P) (w := w) T).ex
  refine mkSup (k := 4 - 1) SF sc_Greatest_init (fun _ _ _ _ _ _ us hl => match us, hl with | [_, _], _ => rfl) (fun vs H Q E h => ?_) (fun A outer s H vs Q E hr h => ?_)
  · rcases h with ⟨a, dx, b, v, xs, ps, g, n, rfl, ea, sx, hp, hne, hl3, hn, hxa, kk⟩ <;> rfl
  · rcases h with ⟨a, dx, b, v, xs, ps, g, n, rfl, ea, sx, hp, hne, hl3, hn, hxa, kk⟩
    refine ⟨_, (pat_cons (ps_fld (pv 0) (pe_c (c_need_parts T) hr (by decide) rfl (pa_cons (pv 1) pa_nil)) rfl)
        (pat_super SF.S rfl rfl rfl rfl rfl rfl T.f_super F2 (hr.mono (by decide)) b2 (pa_cons pe_str (pa_cons (pe_tup pa_nil) (pa_cons (pe_fld (pv 0) rfl) (pa_cons (pe_fld (pe_ix ix_seq (pe_fld (pv 0) rfl) pe_int (fun _ _ => rfl)) rfl) pa_nil))))
        (pat_of (pss_one (ps_expr (pe_c (c_need_room T) hr (by decide) rfl (pa_cons (pv 0) pa_nil))))))), ?_⟩
    have pc := T.pc .greatest
    have hlen := hp.length
    have hx0 : 1 ≤ xs.length := by
      cases ps with
      | nil => exact absurd rfl hne
      | cons a l => rw [hlen]; simp
    have hpb : ∀ x ∈ xs, ∃ k inn m l fs, PrB K H x k g inn m l fs := fun x hx => by
      obtain ⟨p, _, h⟩ := paired_mem hp x hx
      obtain ⟨k, fs, inn, m, l, hb, _, _⟩ := h.base
      exact ⟨k, inn, m, l, fs, hb⟩
    refine ⟨_, rfl, b, v, xs, g, rfl, sx, hpb, hx0, by omega, fun p H1 s1 hp1 => ?_⟩
    have e1 := s1 _ _ ea
    have np := ne_ins e1 hp1
    refine ⟨_, rfl, a, _, dx, _, rfl, e1, pc.ok.cls, pc.na "parts" (by simp [PKind.own]), by decide, ?_⟩
    have e2 : (L2.upd H1 a (.ins (He.ga K "Greatest") dx (putF "parts" (.ref p) []))) a = some (.ins (He.ga K "Greatest") dx (putF "parts" (.ref p) [])) := upd_same
    have sb2 : SameB a H (L2.upd H1 a (.ins (He.ga K "Greatest") dx (putF "parts" (.ref p) []))) := SameB.put (SameB.of s1)
    have hp2 : (L2.upd H1 a (.ins (He.ga K "Greatest") dx (putF "parts" (.ref p) []))) p = some (.tup xs) := by rw [upd_ne np]; exact hp1
    generalize L2.upd H1 a (.ins (He.ga K "Greatest") dx (putF "parts" (.ref p) [])) = H2 at e2 sb2 hp2 ⊢
    refine ⟨a, dx, _, rfl, e2, ?_⟩
    refine ⟨(by show 0 ≤ sizeLine; decide), fun t nt => ?_⟩
    have s3 := Same.of_new (o := .tup []) nt
    have e3 := s3 _ _ e2
    have hp3 := s3 _ _ hp2
    have sb3 := sb2.trans (SameB.of s3)
    generalize L2.upd H2 t (.tup []) = H3 at e3 hp3 sb3 ⊢
    refine ⟨_, rfl, a, _, dx, _, _, rfl, e3, pc.ok.cls, pc.na "parts" (by simp [PKind.own]), getP _ _ _, ?_⟩
    have h0 : xs[0]? = some xs[0] := by simp
    obtain ⟨k0, inn0, m0, l0, fs0, hb0⟩ := hpb xs[0] (by simp)
    have hb03 := SameB.prb sb3 ea (hxa _ (by simp)) hb0
    obtain ⟨a0, dx0, ez, hi0⟩ := id hb03.ins
    rw [ez] at h0
    refine ⟨_, rfl, a, _, dx, _, _, rfl, e3, pc.ok.cls, pc.na "parts" (by simp [PKind.own]), getP _ _ _, ixOf (i := 0) (SqK.tup hp3) h0 ⟨a0, _, dx0, fs0, _, rfl, hi0, (T.pc k0).ok.cls, (T.pc k0).na "goods" (by simp), hb0.goods, ?_⟩⟩
    obtain ⟨qs, hq1, hq2, hq3, hq4⟩ := parts_at hp
    have hq1' : Paired (PartAt K H3) xs qs := paired_imp_mem hq1 fun x y hx h => SameB.part sb3 (hxa x hx) h
    refine ⟨a, dx, _, _, _, .ref p, _, xs, qs, .greatest, rfl, e3, Nat.le_trans (putF_len _ _ _) (by decide), (getN (by decide) _ _).trans rfl, SqK.tup hp3, hq1', by omega, fun H6 l6 sb hl6 e6 => ?_⟩
    have l1 := hl6 (n : Int) (by omega) (fun q hq => (hq2 q hq).2)
    have sb6 := sb3.trans sb
    have hb6 := prb_pfs (k := .greatest) e6 (sb.sq e3 (SqK.tup hp3))
    have hc := cap_le hn
    have hm6 : 1 + (qs.map (·.1)).sum ≤ 1 + 3 * capM n := by
      have h1 : (qs.length : Int) ≤ 3 := by omega
      have := Int.mul_le_mul_of_nonneg_right h1 hc.1
      omega
    refine ⟨_, rfl, _, _, g, _, _, _, _, rfl, hb6, by omega, by omega, ?_⟩
    exact kk _ sb6 fun hp6 => ⟨.greatest, _, _, _, _, hb6, hm6, by omega, rfl, hne, hl3, .ref p, (pfs_own (by decide) _ _ _ _ _ _ _).trans (getP _ _ _), sb.sq e3 (SqK.tup hp3), hp6⟩
theorem m_Greatest (T : Wd K mg base) (hP : PF P) : Mak P w K mg base 4 "Greatest" (He.ga K "Greatest") (sp_Greatest_init (K := K)) [] := (i_Greatest T hP).mak T.k_Greatest T.g_Greatest
def sp_Then_init  : Sp :=  fun vs H Q _ => ∃ a dx d u v p q g n, vs = [.ref a, .int ((d : Nat) : Int), u, v] ∧ H a = some (.ins (He.ga K "Then") dx []) ∧ d ≤ 1000 ∧ PrAt K g n H u p ∧ PrAt K g n H v q ∧ n ≤ 2 ∧ u ≠ .ref a ∧ v ≠ .ref a ∧ ∀ H', SameB a H H' → (PrAt K g n H' u p → PrAt K g n H' v q → PrAt K g (n + 1) H' (.ref a) (.thn d p q)) → Q .non H'
theorem sc_Then_init : NScope ["self", "days", "first", "last", "__class__"] ["self", "days", "first", "last"] ["__class__"] (defScope s_Then_init) := nscope_by (by decide +kernel)
theorem i_Then (T : Wd K mg base) (hP : PF P) : Ini P w K mg base 5 (iAd K "Then") (sp_Then_init (K := K)) := by
  obtain ⟨c, cc, SF⟩ := T.supf hP (d := ⟨"Then", "Then.__init__", s_Then_init⟩) (.tail _ (.tail _ (.tail _ (.tail _ (.tail _ (.head _))))))
  obtain ⟨fd2, ps2, F2, b2⟩ := (i_Promise (P := P) (w := w) T).ex
  refine mkSup (k := 5 - 1) SF sc_Then_init (fun _ _ _ _ _ _ us hl => match us, hl with | [_, _, _, _], _ => rfl) (fun vs H Q E h => ?_) (fun A outer s H vs Q E hr h => ?_)
  · rcases h with ⟨a, dx, d, u, v, p, q, g, n, rfl, ea, hd, hp, hq, hn, hua, hva, kk⟩ <;> rfl
  · rcases h with ⟨a, dx, d, u, v, p, q, g, n, rfl, ea, hd, hp, hq, hn, hua, hva, kk⟩
    refine ⟨_, (pat_cons (ps_expr (pe_c (c_need_days T) hr (by decide) rfl (pa_cons (pv 1) pa_nil)))
        (pat_cons (ps_expr (pe_c (c_need_promise1 T) hr (by decide) rfl (pa_cons (pv 2) (pa_cons pe_str pa_nil))))
        (pat_cons (ps_expr (pe_c (c_need_promise T) hr (by decide) rfl (pa_cons (pv 3) (pa_cons pe_str (pa_cons (pe_fld (pv 2) rfl) pa_nil)))))
        (pat_cons (ps_asg (pe_tup (pa_cons (pv 1) (pa_cons (pv 2) (pa_cons (pv 3) pa_nil)))) (pg_tup rfl (pgs_cons (pg_fld (pv 0)) (pgs_cons (pg_fld (pv 0)) (pgs_cons (pg_fld (pv 0)) pgs_nil)))))
        (pat_super SF.S rfl rfl rfl rfl rfl rfl T.f_super F2 (hr.mono (by decide)) b2 (pa_cons pe_str (pa_cons (pe_tup (pa_cons (pv 1) pa_nil)) (pa_cons (pe_tup (pa_cons (pv 2) (pa_cons (pv 3) pa_nil))) (pa_cons (pe_fld (pv 2) rfl) pa_nil))))
        (pat_of (pss_one (ps_expr (pe_c (c_need_room T) hr (by decide) rfl (pa_cons (pv 0) pa_nil)))))))))), ?_⟩
    have pc := T.pc .thn
    obtain ⟨k, fs, inn, m, l, hb, hm, hl⟩ := hp.base
    obtain ⟨k', fs', inn', m', l', hb', hm', hl'⟩ := hq.base
    refine ⟨_, rfl, (d : Int), rfl, by omega, by omega, ?_⟩
    refine ⟨_, rfl, _, _, _, _, g, _, _, _, _, rfl, hb, .inl rfl, ?_⟩
    obtain ⟨b, dxb, rfl, hib⟩ := id hb.ins
    refine ⟨_, rfl, _, rfl, b, _, dxb, fs, _, rfl, hib, (T.pc k).ok.cls, (T.pc k).na "goods" (by simp), hb.goods, ?_⟩
    refine ⟨_, _, _, _, g, _, _, _, _, rfl, hb', .inr rfl, ?_⟩
    refine ⟨_, rfl, _, rfl, _, rfl, (by show 3 ≤ sizeLine; decide), fun t nt => ?_⟩
    refine ⟨t, _, rfl, SqT.of upd_same, rfl, _, _, rfl, ?_⟩
    have s0 := Same.of_new (o := .tup [V.int (d : Int), V.ref b, v]) nt
    have e0 := s0 _ _ ea
    have sb0 : SameB a H (L2.upd H t (.tup [V.int (d : Int), V.ref b, v])) := SameB.of s0
    generalize L2.upd H t (.tup [V.int (d : Int), V.ref b, v]) = H0 at e0 sb0 ⊢
    refine ⟨_, rfl, a, _, dx, _, rfl, e0, pc.ok.cls, pc.na "days" (by simp [PKind.own]), by decide, _, _, rfl, ?_⟩
    generalize ef1 : putF "days" (.int (d : Int)) [] = f1
    have l1 : f1.length ≤ 1 := by rw [← ef1]; exact putF_len _ _ []
    have e1 : (L2.upd H0 a (.ins (He.ga K "Then") dx f1)) a = some (.ins (He.ga K "Then") dx f1) := upd_same
    have sb1 := SameB.put (o := .ins (He.ga K "Then") dx f1) sb0
    generalize L2.upd H0 a (.ins (He.ga K "Then") dx f1) = H1 at e1 sb1 ⊢
    refine ⟨_, rfl, a, _, dx, _, rfl, e1, pc.ok.cls, pc.na "first" (by simp [PKind.own]), by omega, _, _, rfl, ?_⟩
    generalize ef2 : putF "first" (.ref b) f1 = f2
    have l2 : f2.length ≤ 2 := by rw [← ef2]; have := putF_len "first" (.ref b) f1; omega
    have e2 : (L2.upd H1 a (.ins (He.ga K "Then") dx f2)) a = some (.ins (He.ga K "Then") dx f2) := upd_same
    have sb2 := SameB.put (o := .ins (He.ga K "Then") dx f2) sb1
    generalize L2.upd H1 a (.ins (He.ga K "Then") dx f2) = H2 at e2 sb2 ⊢
    refine ⟨_, rfl, a, _, dx, _, rfl, e2, pc.ok.cls, pc.na "last" (by simp [PKind.own]), by omega, rfl, ?_⟩
    generalize ef3 : putF "last" v f2 = f3
    have l3 : f3.length ≤ 3 := by rw [← ef3]; have := putF_len "last" v f2; omega
    have e3 : (L2.upd H2 a (.ins (He.ga K "Then") dx f3)) a = some (.ins (He.ga K "Then") dx f3) := upd_same
    have sb3 := SameB.put (o := .ins (He.ga K "Then") dx f3) sb2
    generalize L2.upd H2 a (.ins (He.ga K "Then") dx f3) = H3 at e3 sb3 ⊢
    have nomany : fget f3 "many" = none := by
      rw [← ef3, ← ef2, ← ef1]
      exact (getN (by decide) _ _).trans ((getN (by decide) _ _).trans ((getN (by decide) _ _).trans rfl))
    refine ⟨a, dx, _, rfl, e3, ?_⟩
    refine ⟨_, rfl, (by show 1 ≤ sizeLine; decide), fun t1 nt1 => ?_⟩
    have s4 := Same.of_new (o := .tup [V.int (d : Int)]) nt1
    refine ⟨_, rfl, _, rfl, (by show 2 ≤ sizeLine; decide), fun t2 nt2 => ?_⟩
    have s5 := Same.of_new (o := .tup [V.ref b, v]) nt2
    have sb5 := (sb3.trans (SameB.of s4)).trans (SameB.of s5)
    have e5 := s5 _ _ (s4 _ _ e3)
    have inn5 : SqK false (L2.upd (L2.upd H3 t1 (.tup [V.int (d : Int)])) t2 (.tup [V.ref b, v])) (.ref t2) [V.ref b, v] := SqK.tup upd_same
    generalize L2.upd (L2.upd H3 t1 (.tup [V.int (d : Int)])) t2 (.tup [V.ref b, v]) = H5 at sb5 e5 inn5 ⊢
    have hb5 := SameB.prb sb5 ea hua hb
    have hb5' := SameB.prb sb5 ea hva hb'
    obtain ⟨b2, dxb2, eb2, hib5⟩ := id hb5.ins
    cases eb2
    refine ⟨_, rfl, b, _, dxb2, fs, _, rfl, hib5, (T.pc k).ok.cls, (T.pc k).na "goods" (by simp), hb5.goods, ?_⟩
    refine ⟨a, dx, _, _, _, .ref t2, _, [V.ref b, v], [(m, l), (m', l')], .thn, rfl, e5, by omega, nomany, inn5, .cons hb5.part (.cons hb5'.part .nil), by simp, fun H6 l6 sb hl6 e6 => ?_⟩
    have l1 := hl6 (n : Int) (by omega) (fun p hp => by
      rcases List.mem_cons.mp hp with rfl | hp
      · exact hl
      · rw [List.mem_singleton.mp hp]; exact hl')
    have sb6 := sb5.trans sb
    have hb6 := prb_pfs (k := .thn) e6 (sb.sq e5 inn5)
    have hc := cap_le hn
    simp only [List.map_cons, List.map_nil, List.sum_cons, List.sum_nil] at hb6
    refine ⟨_, rfl, _, _, g, _, _, _, _, rfl, hb6, by omega, by omega, ?_⟩
    refine kk _ sb6 fun hp6 hq6 => ⟨.thn, _, _, _, _, hb6, ?_, by omega, rfl, .ref b, v, ?_, ?_, ?_, rfl, hp6, hq6⟩
    · show _ ≤ 1 + 3 * capM n
      omega
    · rw [← ef3, ← ef2, ← ef1]
      exact (pfs_own (by decide) _ _ _ _ _ _ _).trans ((getN (by decide) _ _).trans ((getN (by decide) _ _).trans (getP _ _ _)))
    · rw [← ef3, ← ef2, ← ef1]
      exact (pfs_own (by decide) _ _ _ _ _ _ _).trans ((getN (by decide) _ _).trans (getP _ _ _))
    · rw [← ef3, ← ef2, ← ef1]
      exact (pfs_own (by decide) _ _ _ _ _ _ _).trans (getP _ _ _)
theorem m_Then (T : Wd K mg base) (hP : PF P) : Mak P w K mg base 5 "Then" (He.ga K "Then") (sp_Then_init (K := K)) [] := (i_Then T hP).mak T.k_Then T.g_Then
def sp_BestWalk_init  : Sp :=  fun vs H Q _ => ∃ a dx v u b xs ws ms as g, vs = [.ref a, v, u] ∧ H a = some (.ins (He.ga K "BestWalk") dx []) ∧ MacAt K H v g ms as ∧ v ≠ .ref a ∧ SqK b H u xs ∧ Nums H xs ws ∧ ws.length = ms.length ∧ ms.length ≤ 6 ∧ (∀ q ∈ ws, 0 ≤ q) ∧ ∀ H', SameB a H H' → (MacAt K H' v g ms as → PrAt K g 1 H' (.ref a) (.walk ms as ws)) → Q .non H'
theorem sc_BestWalk_init : NScope ["self", "machine", "weights", "__class__"] ["self", "machine", "weights"] ["__class__"] (defScope s_BestWalk_init) := nscope_by (by decide +kernel)
theorem i_BestWalk (T : Wd K mg base) (hP : PF P) : Ini P w K mg base 6 (iAd K "BestWalk") (sp_BestWalk_init (K := K)) := by
  obtain ⟨c, cc, SF⟩ := T.supf hP (d := ⟨"BestWalk", "BestWalk.__init__", s_BestWalk_init⟩) (.tail _ (.tail _ (.tail _ (.tail _ (.tail _ (.tail _ (.head _)))))))
  obtain ⟨fd2, ps2, F2, b2⟩ := (i_Promise (P := P) (w := w) T).ex
  refine mkSup (k := 6 - 1) SF sc_BestWalk_init (fun _ _ _ _ _ _ us hl => match us, hl with | [_, _, _], _ => rfl) (fun vs H Q E h => ?_) (fun A outer s H vs Q E hr h => ?_)
  · rcases h with ⟨a, dx, v, u, b, xs, ws, ms, as, g, rfl, ea, hmac, hva, sx, hx, hwl, hml, h0, kk⟩ <;> rfl
  · rcases h with ⟨a, dx, v, u, b, xs, ws, ms, as, g, rfl, ea, hmac, hva, sx, hx, hwl, hml, h0, kk⟩
    refine ⟨_, (pat_cons (ps_expr (pe_c (c_need_machine T) hr (by decide) rfl (pa_cons (pv 1) pa_nil)))
        (pat_cons (ps_if (pt_not (pt_val (pe_c (c_is_row T) hr (by decide) rfl (pa_cons (pv 2) (pa_cons (pe_fld (pv 1) rfl) pa_nil))))) pss_never pss_nil)
        (pat_cons (ps_asg (pe_tup (pa_cons (pv 1) (pa_cons (pe_c (c_kept_row T) hr (by decide) rfl (pa_cons (pv 2) pa_nil)) pa_nil))) (pg_tup rfl (pgs_cons (pg_fld (pv 0)) (pgs_cons (pg_fld (pv 0)) pgs_nil))))
        (pat_super SF.S rfl rfl rfl rfl rfl rfl T.f_super F2 (hr.mono (by decide)) b2 (pa_cons pe_str (pa_cons (pe_tup (pa_cons (pv 1) (pa_cons (pe_fld (pv 0) rfl) pa_nil))) (pa_cons (pe_tup pa_nil) (pa_cons (pe_fld (pv 1) rfl) pa_nil))))
        (pat_of pss_nil))))), ?_⟩
    have pc := T.pc .walk
    have hlx := hx.length
    obtain ⟨fs, vm, xm, va, xa, hi, lm, sm, hm, la, sa, ha, lmany, lg⟩ := id hmac
    obtain ⟨c, dxc, rfl, hi'⟩ := id hi
    have nc : c ≠ a := fun z => hva (by rw [z])
    refine ⟨_, rfl, _, _, _, rfl, hi, ?_⟩
    refine ⟨_, rfl, _, rfl, c, _, dxc, fs, _, rfl, hi', T.c_Machine, T.n_Machine_many, lmany, ?_⟩
    refine ⟨b, u, xs, ws, by rw [hlx, hwl]; rfl, sx, hx, h0, by omega, fun H1 s1 => ⟨_, rfl, iteF ?_⟩⟩
    refine ⟨_, rfl, _, rfl, b, u, xs, ws, rfl, sx.same s1, hx.mono s1.n, by omega, fun p H2 s2 _ hp2 => ?_⟩
    refine ⟨(by show 2 ≤ sizeLine; decide), fun t nt => ?_⟩
    have s3 := Same.of_new (o := .tup [V.ref c, V.ref p]) nt
    have sb3 : SameB a H (L2.upd H2 t (.tup [V.ref c, V.ref p])) := SameB.of ((s1.trans s2).trans s3)
    have e3 := s3 _ _ (s2 _ _ (s1 _ _ ea))
    have hp3 := s3 _ _ hp2
    have np := ne_ins e3 hp3
    have hx3 : Nums (L2.upd H2 t (.tup [V.ref c, V.ref p])) xs ws := ((hx.mono s1.n).mono s2.n).mono s3.n
    refine ⟨t, _, rfl, SqT.of upd_same, rfl, _, _, rfl, ?_⟩
    generalize L2.upd H2 t (.tup [V.ref c, V.ref p]) = H3 at sb3 e3 hp3 hx3 ⊢
    refine ⟨_, rfl, a, _, dx, _, rfl, e3, pc.ok.cls, pc.na "machine" (by simp [PKind.own]), by decide, _, _, rfl, ?_⟩
    generalize ef1 : putF "machine" (.ref c) [] = f1
    have l1 : f1.length ≤ 1 := by rw [← ef1]; exact putF_len _ _ []
    have e4 : (L2.upd H3 a (.ins (He.ga K "BestWalk") dx f1)) a = some (.ins (He.ga K "BestWalk") dx f1) := upd_same
    have sb4 := SameB.put (o := .ins (He.ga K "BestWalk") dx f1) sb3
    have hp4 : (L2.upd H3 a (.ins (He.ga K "BestWalk") dx f1)) p = some (.tup xs) := by rw [upd_ne np]; exact hp3
    have hx4 : Nums (L2.upd H3 a (.ins (He.ga K "BestWalk") dx f1)) xs ws := SameB.nums SameB.upd e3 hx3
    generalize L2.upd H3 a (.ins (He.ga K "BestWalk") dx f1) = H4 at e4 sb4 hp4 hx4 ⊢
    refine ⟨_, rfl, a, _, dx, _, rfl, e4, pc.ok.cls, pc.na "weights" (by simp [PKind.own]), by omega, rfl, ?_⟩
    generalize ef2 : putF "weights" (.ref p) f1 = f2
    have l2 : f2.length ≤ 2 := by rw [← ef2]; have := putF_len "weights" (.ref p) f1; omega
    have e5 : (L2.upd H4 a (.ins (He.ga K "BestWalk") dx f2)) a = some (.ins (He.ga K "BestWalk") dx f2) := upd_same
    have sb5 := SameB.put (o := .ins (He.ga K "BestWalk") dx f2) sb4
    have hp5 : (L2.upd H4 a (.ins (He.ga K "BestWalk") dx f2)) p = some (.tup xs) := by rw [upd_ne np]; exact hp4
    have hx5 : Nums (L2.upd H4 a (.ins (He.ga K "BestWalk") dx f2)) xs ws := SameB.nums SameB.upd e4 hx4
    generalize L2.upd H4 a (.ins (He.ga K "BestWalk") dx f2) = H5 at e5 sb5 hp5 hx5 ⊢
    have gw : f2.lookup ("weights" : Str) = some (.ref p) := by rw [← ef2, getP]
    have gm : f2.lookup ("machine" : Str) = some (.ref c) := by rw [← ef2, ← ef1, getN (by decide), getP]
    have gn : fget f2 "many" = none := by
      rw [← ef2, ← ef1]
      exact (getN (by decide) _ _).trans ((getN (by decide) _ _).trans rfl)
    refine ⟨a, dx, _, rfl, e5, ?_⟩
    refine ⟨_, rfl, _, rfl, a, _, dx, _, _, rfl, e5, pc.ok.cls, pc.na "weights" (by simp [PKind.own]), gw, ?_⟩
    refine ⟨(by show 2 ≤ sizeLine; decide), fun t1 nt1 => ?_⟩
    have s6 := Same.of_new (o := .tup [V.ref c, V.ref p]) nt1
    refine ⟨(by show 0 ≤ sizeLine; decide), fun t2 nt2 => ?_⟩
    have s7 := Same.of_new (o := .tup []) nt2
    have sb7 := (sb5.trans (SameB.of s6)).trans (SameB.of s7)
    have e7 := s7 _ _ (s6 _ _ e5)
    have hi7 := sb7 _ _ nc hi'
    refine ⟨_, rfl, c, _, dxc, fs, _, rfl, hi7, T.c_Machine, T.n_Machine_goods, lg, ?_⟩
    refine ⟨a, dx, _, _, _, .ref t2, _, [], [], .walk, rfl, e7, by omega, gn, SqK.tup upd_same, .nil, by simp, fun H8 l8 sb hl8 e8 => ?_⟩
    have l1 := hl8 0 (by omega) (by simp)
    have sb8 := sb7.trans sb
    have hb8 := prb_pfs (k := .walk) e8 (sb.sq e7 (SqK.tup upd_same))
    refine kk _ sb8 fun hm8 => ⟨.walk, _, [], 1, l8, hb8, by decide, by omega, rfl, rfl, .ref c, .ref p, (pfs_own (by decide) _ _ _ _ _ _ _).trans gm, hm8, (pfs_own (by decide) _ _ _ _ _ _ _).trans gw, xs, ⟨p, rfl, sb _ _ np (s7 _ _ (s6 _ _ hp5))⟩, sb.nums e7 ((hx5.mono s6.n).mono s7.n)⟩
theorem m_BestWalk (T : Wd K mg base) (hP : PF P) : Mak P w K mg base 6 "BestWalk" (He.ga K "BestWalk") (sp_BestWalk_init (K := K)) [] := (i_BestWalk T hP).mak T.k_BestWalk T.g_BestWalk
end
end Hp
/-! What a promise is worth: plain mathematics, and sizes. -/
namespace Hp
set_option Elab.async false
set_option linter.all false
set_option maxRecDepth 100000
set_option maxHeartbeats 4000000
/-- the worth at a market of rows -/
def worth : Nat → Pr → List (List Rat) → Rat
  | 0, _, _ => 0
  | n + 1, p, m => match p with
    | .hold i => rprod (m.map fun d => d.getD i 0)
    | .mix s => rprod (m.map (rdot s))
    | .walk ms as ws => rmaxs (walkW ms as ws m)
    | .times q p => q * worth n p m
    | .thn d a b => worth n a (m.take d) * worth n b (m.drop d)
    | .sum l => rsum (l.map fun q => worth n q m)
    | .gre l => rmaxs (l.map fun q => worth n q m)
/-- a mix with its sizes -/
def MixB (g : Nat) (m : List Rat) : Prop := m.length = g ∧ MixOk m ∧ ∀ q ∈ m, Bd 2520 2520 q
def MacOk (g : Nat) (ms : List (List Rat)) (as : List (Nat × Nat)) : Prop := 1 ≤ ms.length ∧ ms.length ≤ 3 ∧ (∀ m ∈ ms, MixB g m) ∧ (∀ p ∈ as, p.1 < ms.length ∧ p.2 < ms.length) ∧ as.length ≤ 9 ∧ (∀ i, i < ms.length → ∃ j, (i, j) ∈ as)
/-- a promise as it is drawn -/
def PrOk (g : Nat) : Nat → Pr → Prop
  | 0, _ => False
  | n + 1, p => match p with
    | .hold i => i < g
    | .mix m => MixB g m
    | .walk ms as ws => MacOk g ms as ∧ ws.length = ms.length ∧ ∀ w ∈ ws, 0 ≤ w ∧ Bd 2 6 w
    | .times q p => 0 ≤ q ∧ Bd 6 30 q ∧ PrOk g n p
    | .thn d a b => d ≤ 3 ∧ PrOk g n a ∧ PrOk g n b
    | .sum l => l ≠ [] ∧ l.length ≤ 3 ∧ ∀ q ∈ l, PrOk g n q
    | .gre l => l ≠ [] ∧ l.length ≤ 3 ∧ ∀ q ∈ l, PrOk g n q
/-- days, as the rows of a drawn corner are -/
def DayOk (g : Nat) (d : List Rat) : Prop := d.length = g ∧ ∀ q ∈ d, 0 ≤ q ∧ Bd 6 24 q
def MkOk (g : Nat) (m : List (List Rat)) : Prop := m.length ≤ 3 ∧ ∀ d ∈ m, DayOk g d
theorem MkOk.take {g : Nat} {m : List (List Rat)} (h : MkOk g m) (k : Nat) : MkOk g (m.take k) := ⟨by rw [List.length_take]; have := h.1; omega, fun d hd => h.2 d (List.mem_of_mem_take hd)⟩
theorem MkOk.drop {g : Nat} {m : List (List Rat)} (h : MkOk g m) (k : Nat) : MkOk g (m.drop k) := ⟨by rw [List.length_drop]; have := h.1; omega, fun d hd => h.2 d (List.mem_of_mem_drop hd)⟩
/-! ### sizes -/
theorem pow_log {D k L B : Nat} (h0 : 0 < D) (hk : k ≤ L) (h : (D ^ L).log2 < B) : (D ^ k).log2 < B := Nat.lt_of_le_of_lt (log2_le_of_le (Nat.pow_le_pow_right h0 hk)) h
theorem bd_szl {D N : Nat} (h0 : 0 < D) (hD : D.log2 < 4000) (hN : N.log2 < 400000) {l : List Rat} (h : ∀ q ∈ l, Bd D N q) : ∀ q ∈ l, Sz q := fun q hq => (h q hq).sz h0 hD hN
theorem szprod_of {D N L : Nat} {l : List Rat} (h : ∀ q ∈ l, Bd D N q) (hl : l.length ≤ L) (h1 : 1 ≤ L) (h0 : 0 < D) (n0 : 0 < N) (hD : (D ^ L).log2 < 4000) (hN : (N ^ L).log2 < 400000) : SzProd l := by
  refine ⟨bd_szl h0 (by have := pow_log h0 h1 hD; rwa [Nat.pow_one] at this) (by have := pow_log n0 h1 hN; rwa [Nat.pow_one] at this) h, fun k => ?_⟩
  have hk := Bd.rprod (l := l.take k) (D := D) (N := N) fun q hq => h q (List.mem_of_mem_take hq)
  have : (l.take k).length ≤ L := by rw [List.length_take]; omega
  exact hk.sz (Nat.pow_pos h0) (pow_log h0 this hD) (pow_log n0 this hN)
theorem szsum_of {D N L : Nat} {l : List Rat} (h : ∀ q ∈ l, Bd D N q) (hl : l.length ≤ L) (h1 : 1 ≤ L) (h0 : 0 < D) (hD : D.log2 < 4000) (hN : (L * N).log2 < 400000) : SzSum l := by
  refine ⟨bd_szl h0 hD (Nat.lt_of_le_of_lt (log2_le_of_le (Nat.le_mul_of_pos_left _ h1)) hN) h, fun k => ?_⟩
  have hk := Bd.rsum (l := l.take k) (D := D) (N := N) fun q hq => h q (List.mem_of_mem_take hq)
  have : (l.take k).length ≤ L := by rw [List.length_take]; omega
  exact hk.sz h0 hD (Nat.lt_of_le_of_lt (log2_le_of_le (Nat.mul_le_mul_right _ this)) hN)
theorem rmul_all {P : Rat → Prop} {a b : List Rat} (h : ∀ x ∈ a, ∀ y ∈ b, P (x * y)) : ∀ q ∈ rmul a b, P q := by
  intro q hq
  unfold rmul at hq
  obtain ⟨⟨x, y⟩, hp, rfl⟩ := List.mem_map.mp hq
  exact h x (List.of_mem_zip hp).1 y (List.of_mem_zip hp).2
theorem Bd.rdot {D N E M L : Nat} {a b : List Rat} (ha : ∀ q ∈ a, Bd D N q) (hb : ∀ q ∈ b, Bd E M q) (hl : a.length ≤ L) : Bd (D * E) (L * (N * M)) (rdot a b) := by
  have h : ∀ q ∈ rmul a b, Bd (D * E) (N * M) q := rmul_all fun x hx y hy => (ha x hx).mul (hb y hy)
  refine (Bd.rsum h).mono (Nat.mul_le_mul_right _ ?_)
  rw [rmul_len]; omega
/-! ### the worth's size -/
def DL : Nat := 2 * 15120 ^ 3
def NL : Nat := 6 * 181440 ^ 3
def DW : Nat → Nat
  | 0 => DL
  | n + 1 => 6 * (DW n * DW n)
def NW : Nat → Nat
  | 0 => NL
  | n + 1 => 30 * (NW n * NW n)
theorem DW_pos : ∀ n, 0 < DW n
  | 0 => by decide
  | n + 1 => Nat.mul_pos (by decide) (Nat.mul_pos (DW_pos n) (DW_pos n))
theorem leaf_DW : ∀ n, ∃ c, DW n = DL * c ∧ NL * c ≤ NW n ∧ DW n ≤ NW n
  | 0 => ⟨1, by rw [Nat.mul_one]; rfl, by rw [Nat.mul_one]; exact Nat.le_refl _, by decide⟩
  | n + 1 => by
    obtain ⟨c, h1, h2, h3⟩ := leaf_DW n
    refine ⟨6 * (c * DW n), ?_, ?_, ?_⟩
    · show 6 * (DW n * DW n) = _
      rw [show DW n * DW n = DL * c * DW n by rw [← h1]]
      simp only [Nat.mul_assoc, Nat.mul_left_comm]
    · show NL * (6 * (c * DW n)) ≤ 30 * (NW n * NW n)
      rw [show NL * (6 * (c * DW n)) = 6 * (NL * c * DW n) by simp only [Nat.mul_assoc, Nat.mul_left_comm]]
      exact Nat.mul_le_mul (by decide) (Nat.mul_le_mul h2 h3)
    · exact Nat.mul_le_mul (by decide) (Nat.mul_le_mul h3 h3)
theorem leaf_to {q : Rat} (n : Nat) (h : Bd DL NL q) : Bd (DW n) (NW n) q := by
  obtain ⟨c, h1, h2, _⟩ := leaf_DW n
  exact h.to c h1 h2
theorem bd_pow_to {D N k L : Nat} {q : Rat} (h : Bd (D ^ k) (N ^ k) q) (hk : k ≤ L) (hDN : D ≤ N) : Bd (D ^ L) (N ^ L) q := by
  refine h.to (D ^ (L - k)) ?_ ?_
  · rw [← Nat.pow_add]; congr 1; omega
  · calc N ^ k * D ^ (L - k) ≤ N ^ k * N ^ (L - k) := Nat.mul_le_mul_left _ (Nat.pow_le_pow_left hDN _)
      _ = N ^ L := by rw [← Nat.pow_add]; congr 1; omega
theorem rmaxs_all {P : Rat → Prop} {l : List Rat} (hne : l ≠ []) (h : ∀ q ∈ l, P q) : P (rmaxs l) := by
  cases l with
  | nil => exact absurd rfl hne
  | cons a l =>
    have key : ∀ (l : List Rat) (a : Rat), P a → (∀ q ∈ l, P q) → P (l.foldl rmax a) := by
      intro l
      induction l with
      | nil => intro a ha _; exact ha
      | cons b l ih =>
        intro a ha hl
        refine ih _ ?_ fun q hq => hl q (by simp [hq])
        unfold rmax; split
        · exact hl b (by simp)
        · exact ha
    exact key l a (h a (by simp)) fun q hq => h q (by simp [hq])
theorem getD_mem {P : Rat → Prop} {l : List Rat} {i : Nat} (h : ∀ q ∈ l, P q) (hi : i < l.length) : P (l.getD i 0) := by
  rw [List.getD_eq_getElem?_getD, List.getElem?_eq_getElem hi]
  exact h _ (List.getElem_mem hi)
theorem day_dot {g : Nat} {m d : List Rat} (hg : g ≤ 3) (hm : MixB g m) (hd : DayOk g d) : Bd 15120 181440 (rdot m d) :=
  (Bd.rdot (D := 2520) (N := 2520) (E := 6) (M := 24) (L := 3) hm.2.2 (fun q hq => (hd.2 q hq).2) (by rw [hm.1]; exact hg))
theorem day_sum {g : Nat} {m d : List Rat} (hg : g ≤ 3) (hm : MixB g m) (hd : DayOk g d) : SzSum (rmul m d) :=
  szsum_of (D := 15120) (N := 60480) (L := 3) (rmul_all fun x hx y hy => (hm.2.2 x hx).mul (hd.2 y hy).2) (by rw [rmul_len, hm.1]; omega) (by decide) (by decide) (by decide) (by decide)
theorem mix_sz {g : Nat} {m : List Rat} (hm : MixB g m) : ∀ q ∈ m, Sz q := bd_szl (by decide) (by decide) (by decide) hm.2.2
theorem day_sz {g : Nat} {d : List Rat} (hd : DayOk g d) : ∀ q ∈ d, Sz q := bd_szl (D := 6) (N := 24) (by decide) (by decide) (by decide) fun q hq => (hd.2 q hq).2
theorem DW_le (n : Nat) : DW n ≤ NW n := let ⟨_, _, _, h⟩ := leaf_DW n; h
theorem NW_pos (n : Nat) : 0 < NW n := Nat.lt_of_lt_of_le (DW_pos n) (DW_le n)
theorem worth_hold_bd {g i : Nat} {m : List (List Rat)} (hi : i < g) (hm : MkOk g m) : ∀ q ∈ m.map (fun d => d.getD i 0), Bd 6 24 q := fun q hq => by
  obtain ⟨d, hd, rfl⟩ := List.mem_map.mp hq
  exact getD_mem (fun q hq => ((hm.2 d hd).2 q hq).2) (by rw [(hm.2 d hd).1]; exact hi)
theorem worth_mix_bd {g : Nat} (hg : g ≤ 3) {s : List Rat} {m : List (List Rat)} (hs : MixB g s) (hm : MkOk g m) : ∀ q ∈ m.map (rdot s), Bd 15120 181440 q := fun q hq => by
  obtain ⟨d, hd, rfl⟩ := List.mem_map.mp hq
  exact day_dot hg hs (hm.2 d hd)
theorem worth_leaf_hold {g n i : Nat} {m : List (List Rat)} (hi : i < g) (hm : MkOk g m) : Bd DL NL (worth (n + 1) (.hold i) m) := by
  have h := Bd.rprod (worth_hold_bd hi hm)
  rw [List.length_map] at h
  exact (bd_pow_to h hm.1 (by decide)).to (2 * 2520 ^ 3) (by decide) (by decide)
theorem worth_leaf_mix {g n : Nat} (hg : g ≤ 3) {s : List Rat} {m : List (List Rat)} (hs : MixB g s) (hm : MkOk g m) : Bd DL NL (worth (n + 1) (.mix s) m) := by
  have h := Bd.rprod (worth_mix_bd hg hs hm)
  rw [List.length_map] at h
  exact (bd_pow_to h hm.1 (by decide)).to 2 (by decide) (by decide)
theorem worth_leaf_walk {g n : Nat} (hg : g ≤ 3) {ms : List (List Rat)} {as : List (Nat × Nat)} {ws : List Rat} {m : List (List Rat)} (h : PrOk g (n + 1) (.walk ms as ws)) (hm : MkOk g m) : Bd DL NL (worth (n + 1) (.walk ms as ws) m) := by
  obtain ⟨⟨h1, h2, h3, h4, h5, h6⟩, h7, h8⟩ := h
  have hb := walkW_bd (as := as) (mk := m) (D := 2) (N := 6) (E := 15120) (M := 181440) (fun q hq => (h8 q hq).2) fun d hd s hs => day_dot hg (h3 s hs) (hm.2 d hd)
  have hne : walkW ms as ws m ≠ [] := fun e => by
    have := walkW_len ms as m ws
    rw [e] at this
    simp at this; omega
  have h := rmaxs_all hne hb
  refine h.to (15120 ^ (3 - m.length)) ?_ ?_
  · rw [Nat.mul_assoc, ← Nat.pow_add, show m.length + (3 - m.length) = 3 by have := hm.1; omega]; rfl
  · show _ ≤ 6 * 181440 ^ 3
    rw [Nat.mul_assoc]
    refine Nat.mul_le_mul_left _ ?_
    calc 181440 ^ m.length * 15120 ^ (3 - m.length) ≤ 181440 ^ m.length * 181440 ^ (3 - m.length) := Nat.mul_le_mul_left _ (Nat.pow_le_pow_left (by decide) _)
      _ = 181440 ^ 3 := by rw [← Nat.pow_add, show m.length + (3 - m.length) = 3 by have := hm.1; omega]
theorem worth_bd {g : Nat} (hg : g ≤ 3) : ∀ {n : Nat} {p : Pr} {m : List (List Rat)}, PrOk g (n + 1) p → MkOk g m → Bd (DW n) (NW n) (worth (n + 1) p m) := by
  intro n
  induction n with
  | zero =>
    intro p m hp hm
    cases p with
    | hold i => exact worth_leaf_hold hp hm
    | mix s => exact worth_leaf_mix hg hp hm
    | walk ms as ws => exact worth_leaf_walk hg hp hm
    | times q p => exact absurd hp.2.2 (fun z => z)
    | thn d a b => exact absurd hp.2.1 (fun z => z)
    | sum l =>
      obtain ⟨h1, _, h3⟩ := hp
      cases l with
      | nil => exact absurd rfl h1
      | cons a l => exact absurd (h3 a (by simp)) (fun z => z)
    | gre l =>
      obtain ⟨h1, _, h3⟩ := hp
      cases l with
      | nil => exact absurd rfl h1
      | cons a l => exact absurd (h3 a (by simp)) (fun z => z)
  | succ n ih =>
    intro p m hp hm
    cases p with
    | hold i => exact leaf_to _ (worth_leaf_hold hp hm)
    | mix s => exact leaf_to _ (worth_leaf_mix hg hp hm)
    | walk ms as ws => exact leaf_to _ (worth_leaf_walk hg hp hm)
    | times q p =>
      have h := hp.2.1.mul (ih hp.2.2 hm)
      refine h.to (DW n) ?_ ?_
      · show 6 * (DW n * DW n) = _; rw [Nat.mul_assoc]
      · show _ ≤ 30 * (NW n * NW n)
        rw [Nat.mul_assoc]
        exact Nat.mul_le_mul_left _ (Nat.mul_le_mul_left _ (DW_le n))
    | thn d a b =>
      have h := (ih hp.2.1 (hm.take d)).mul (ih hp.2.2 (hm.drop d))
      refine h.to 6 ?_ ?_
      · show 6 * (DW n * DW n) = _; rw [Nat.mul_comm]
      · show _ ≤ 30 * (NW n * NW n)
        rw [Nat.mul_comm]
        exact Nat.mul_le_mul_right _ (by decide)
    | sum l =>
      have h : ∀ q ∈ l.map (fun q => worth (n + 1) q m), Bd (DW n) (NW n) q := fun q hq => by
        obtain ⟨p, hp', rfl⟩ := List.mem_map.mp hq
        exact ih (hp.2.2 p hp') hm
      have h2 := (Bd.rsum h).mono (N' := 3 * NW n) (by rw [List.length_map]; exact Nat.mul_le_mul_right _ hp.2.1)
      refine h2.to (6 * DW n) ?_ ?_
      · show 6 * (DW n * DW n) = _; simp only [Nat.mul_left_comm]
      · show _ ≤ 30 * (NW n * NW n)
        rw [show 3 * NW n * (6 * DW n) = 18 * (NW n * DW n) from Nat.mul_mul_mul_comm 3 (NW n) 6 (DW n)]
        exact Nat.mul_le_mul (by decide) (Nat.mul_le_mul_left _ (DW_le n))
    | gre l =>
      have h : ∀ q ∈ l.map (fun q => worth (n + 1) q m), Bd (DW n) (NW n) q := fun q hq => by
        obtain ⟨p, hp', rfl⟩ := List.mem_map.mp hq
        exact ih (hp.2.2 p hp') hm
      have h2 := rmaxs_all (by simpa using hp.1) h
      refine h2.to (6 * DW n) ?_ ?_
      · show 6 * (DW n * DW n) = _; simp only [Nat.mul_left_comm]
      · show _ ≤ 30 * (NW n * NW n)
        rw [show NW n * (6 * DW n) = 6 * (NW n * DW n) by simp only [Nat.mul_left_comm]]
        exact Nat.mul_le_mul (by decide) (Nat.mul_le_mul_left _ (DW_le n))
end Hp
namespace Hp
set_option Elab.async false
set_option linter.all false
set_option maxRecDepth 100000
set_option maxHeartbeats 4000000
open PySem PySem.Spec PyProof.Rows L2 NdefX
theorem RowsAt.take {H : Hp} {xs : List V} {m : List (List Rat)} (h : RowsAt H xs m) : ∀ k, RowsAt H (xs.take k) (m.take k) := by
  induction h with
  | nil => intro k; simp; exact .nil
  | cons r t ih =>
    intro k
    cases k with
    | zero => exact .nil
    | succ k => exact .cons r (ih k)
theorem RowsAt.drop {H : Hp} {xs : List V} {m : List (List Rat)} (h : RowsAt H xs m) : ∀ k, RowsAt H (xs.drop k) (m.drop k) := by
  induction h with
  | nil => intro k; simp; exact .nil
  | cons r t ih =>
    intro k
    cases k with
    | zero => exact .cons r t
    | succ k => exact ih k
theorem DW_sz {n : Nat} (h : n ≤ 2) : (DW n).log2 < 1000 ∧ (NW n).log2 < 1000 := by
  have h2 : n = 0 ∨ n = 1 ∨ n = 2 := by omega
  rcases h2 with rfl | rfl | rfl <;> decide +kernel
theorem worth_sz {g n : Nat} (hg : g ≤ 3) (hn : n ≤ 2) {p : Pr} {m : List (List Rat)} (hp : PrOk g (n + 1) p) (hm : MkOk g m) : Sz (worth (n + 1) p m) :=
  (worth_bd hg hp hm).sz (DW_pos n) (Nat.lt_trans (DW_sz hn).1 (by decide)) (Nat.lt_trans (DW_sz hn).2 (by decide))
theorem kd_ne {a b : Str} (h : a ≠ b) : decide (V.str a = V.str b) = false := decide_eq_false fun z => h (V.str.inj z)
theorem kd_eq {a : Str} : decide (V.str a = V.str a) = true := decide_eq_true rfl
theorem u_if {b : Bool} {A B : Prop} (h1 : b = true → A) (h2 : b = false → B) : if b = true then A else B := by cases b; exact (by rw [if_neg (by decide)]; exact h2 rfl); exact (by rw [if_pos rfl]; exact h1 rfl)
def sp_worth_in (K : PySem.W.Frag) (n : Nat) : Sp := fun vs H Q _ => ∃ b v u ys mk p g, vs = [v, u] ∧ PrAt K g n H v p ∧ PrOk g n p ∧ g ≤ 3 ∧ n ≤ 3 ∧ SqK b H u ys ∧ RowsAt H ys mk ∧ MkOk g mk ∧ ∀ x H', Same H H' → Num H' x (worth n p mk) → Q x H'
section
variable {P : Program} {w : World} {K : PySem.W.Frag} {mg : Str → Option Value} {base : Heap}
theorem sc_worth_in : FnScope ["promise", "market", "kind", "ahead", "behind", "worths", "part", "day", "good", "count"] ["promise", "market"] (defScope s_worth_in) := ⟨rfl, rfl, rfl, by decide +kernel, rfl, by decide +kernel, by decide +kernel⟩
theorem c_worth_in (T : Wd K mg base) : ∀ n : Nat, Cal P w K mg base (8 + n) "worth_in" (sp_worth_in K n) []
  | 0 => by
    obtain ⟨fd, F⟩ := T.d_worth_in
    refine mkCal (k := 8 - 1) F T.g_worth_in sc_worth_in (F.bindsN fun _ _ _ _ _ _ us hl => match us, hl with | [_, _], _ => rfl) (fun vs H Q E h => ?_) (fun cdv A outer s H vs Q E hr h => ?_)
    · exfalso
      rcases h with ⟨b, v, u, ys, mk, p, g, rfl, hp, _⟩; exact hp
    · exfalso
      rcases h with ⟨b, v, u, ys, mk, p, g, rfl, hp, _⟩; exact hp
  | n + 1 => by
    have ih := c_worth_in T n
    obtain ⟨fd, F⟩ := T.d_worth_in
    refine mkCal (k := 8 + n) F T.g_worth_in sc_worth_in (F.bindsN fun _ _ _ _ _ _ us hl => match us, hl with | [_, _], _ => rfl) (fun vs H Q E h => ?_) (fun cdv A outer s H vs Q E hr h => ?_)
    · rcases h with ⟨b, v, u, ys, mk, p, g, rfl, hp, hok, hg, hn, sy, hy, hmk, k⟩ <;> rfl
    · rcases h with ⟨b, v, u, ys, mk, p, g, rfl, hp, hok, hg, hn, sy, hy, hmk, k⟩
      refine ⟨_, (pss_cons (ps_set (i := 2) sc_worth_in.nd rfl (Or.inl rfl) (pe_fld (pv 0) rfl))
        (pss_cons (ps_if (pt_cmpR op_eq (pv 2) pe_str (nomark _)) (pss_one (ps_ret (pe_c (c_multiplied T) hr (by omega) rfl (pa_cons (pe_lc (own := [("day", 7)]) rfl sc_worth_in.nd (pi_seq (pv 1)) (blkOk_by (own := [("day", 7)]) (N := ["promise", "market", "kind", "ahead", "behind", "worths", "part", "day", "good", "count"]) (sc := defScope s_worth_in) (by decide +kernel)) (fun _ _ _ _ _ => by exact (pg_name (i := 7) sc_worth_in.nd rfl (by first | exact Or.inl rfl | exact Or.inr rfl))) (fun _ _ _ _ _ => by exact pts_nil) (fun _ _ _ _ _ => by exact (pe_ix (ixK (K := K) rfl) (pv 7) (fldK (K := K) rfl (pv 0) rfl) (fun _ _ => rfl)))) pa_nil)))) pss_nil)
        (pss_cons (ps_if (pt_cmpR op_eq (pv 2) pe_str (nomark _)) (pss_one (ps_ret (pe_c (c_run_in T) hr (by omega) rfl (pa_cons (pe_fld (pv 0) rfl) (pa_cons (pv 1) pa_nil))))) pss_nil)
        (pss_cons (ps_if (pt_cmpR op_eq (pv 2) pe_str (nomark _)) (pss_one (ps_ret (pe_c (c_product T) hr (by omega) rfl (pa_cons (pe_fld (pv 0) rfl) (pa_cons (pe_c (ih) hr (by omega) rfl (pa_cons (pe_fld (pv 0) rfl) (pa_cons (pv 1) pa_nil))) pa_nil))))) pss_nil)
        (pss_cons (ps_if (pt_cmpR op_eq (pv 2) pe_str (nomark _)) (pss_cons (ps_par (i := 3) (j := 4) rfl sc_worth_in.nd rfl rfl (by decide) rfl rfl (pa_cons (pe_slice sl_any (pv 1) po_none (po_some (pe_fld (pv 0) rfl))) (pa_cons (pe_slice sl_any (pv 1) (po_some (pe_fld (pv 0) rfl)) po_none) pa_nil)) (by rfl))
        (pss_one (ps_ret (pe_c (c_product T) hr (by omega) rfl (pa_cons (pe_c (ih) hr (by omega) rfl (pa_cons (pe_fld (pv 0) rfl) (pa_cons (pv 3) pa_nil))) (pa_cons (pe_c (ih) hr (by omega) rfl (pa_cons (pe_fld (pv 0) rfl) (pa_cons (pv 4) pa_nil))) pa_nil)))))) pss_nil)
        (pss_cons (ps_if (pt_cmpR op_eq (pv 2) pe_str (nomark _)) (pss_one (ps_ret (pe_c (c_walk_worth_in T) hr (by omega) rfl (pa_cons (pe_fld (pv 0) rfl) (pa_cons (pe_fld (pv 0) rfl) (pa_cons (pv 1) pa_nil)))))) pss_nil)
        (pss_cons (ps_if (pt_cmpR op_eq (pv 2) pe_str (nomark _)) pss_never pss_nil)
        (pss_cons (ps_setLc (i := 5) (own := [("part", 6)]) rfl sc_worth_in.nd rfl rfl (sw_true rfl rfl rfl (by decide +kernel)) (pi_seq (pe_fld (pv 0) rfl)) (blkOk_by (own := [("part", 6)]) (N := ["promise", "market", "kind", "ahead", "behind", "worths", "part", "day", "good", "count"]) (sc := defScope s_worth_in) (by decide +kernel)) (fun _ _ _ _ _ => by exact (pg_name (i := 6) sc_worth_in.nd rfl (by first | exact Or.inl rfl | exact Or.inr rfl))) (fun _ _ _ _ _ => by exact pts_nil) (fun _ _ _ _ _ => by exact (pe_c (ih) hr (by omega) rfl (pa_cons (pv 6) (pa_cons (pv 1) pa_nil)))))
        (pss_one (ps_ret (pe_ifExp (pt_cmpR op_eq (pv 2) pe_str (nomark _)) (pe_c (c_total T) hr (by omega) rfl (pa_cons (pv 5) pa_nil)) (pe_c (c_greatest_of T) hr (by omega) rfl (pa_cons (pv 5) pa_nil))))))))))))), ?_⟩
      obtain ⟨kk, fs, inn, m, l, hb, hm, hl, hp⟩ := hp
      obtain ⟨a, dx, rfl, hi⟩ := id hb.ins
      have pc := T.pc kk
      have cl := pc.ok.cls
      have hylen := hy.length
      refine ⟨_, rfl, a, _, dx, fs, _, rfl, hi, cl, pc.na "kind" (by simp), hb.kind, ?_⟩
      refine ⟨_, rfl, rfl, _, rfl, ?_⟩
      cases p with
      | hold i =>
        obtain ⟨rfl, rfl, hig, lg⟩ := hp
        refine itt kd_eq ?_
        refine u_ret (u_call1 ?_)
        refine lc_seq (H1 := H) ?_ sy (by have := hmk.1; omega) (fun D j H' z => ∀ d, mk[j]? = some d → Num H' z (d.getD i 0)) (fun D j H1 H2 z c h d hd => (h d hd).mono c.n) ?_ ?_ (fun _ => rfl)
        · exact gives_var rfl
        · intro D j x H' R hx hD s1 hDn hR
          obtain ⟨d, hd, zs, sz, hz⟩ := paired_get hy hx
          have hdl := (hmk.2 d (mem_get hd)).1
          have hj : i < zs.length := by rw [hz.length, hdl]; exact hig
          have hg' : zs[i]? = some zs[i] := by simp
          obtain ⟨q, hq, hn'⟩ := paired_get hz hg'
          refine ⟨_, rfl, _, rfl, a, _, dx, fs, _, rfl, s1 _ _ hi, cl, pc.na "good" (by simp [PKind.own]), lg, ixOf (i := i) (sz.same s1) hg' (hR _ _ (Same.refl _) fun d' hd' => ?_)⟩
          rw [hd] at hd'; cases hd'
          rw [List.getD_eq_getElem?_getD, hq]
          exact hn'.mono s1.n
        · intro D H' zs hD s1 hDz hl2 hF
          refine ⟨true, _, zs, _, rfl, SqK.lst hDz, paired_of (by simp [hl2, hylen]) fun j z r hz hr => ?_, ?_, fun x H2 s2 hx2 => k x H2 (s1.trans s2) hx2⟩
          · rw [List.getElem?_map] at hr
            obtain ⟨d, hd, rfl⟩ := Option.map_eq_some_iff.mp hr
            exact hF j z hz d hd
          · exact szprod_of (L := 3) (worth_hold_bd hok hmk) (by rw [List.length_map]; exact hmk.1) (by decide) (by decide) (by decide) (by decide) (by decide)
      | mix s =>
        obtain ⟨rfl, rfl, vs, ls, xs, sxs, hxs⟩ := hp
        refine itf (kd_ne (by decide)) ⟨_, rfl, rfl, _, rfl, itt kd_eq ?_⟩
        have hmx : MixB g s := hok
        refine ⟨_, rfl, a, _, dx, fs, _, rfl, hi, cl, pc.na "shares" (by simp [PKind.own]), ls, _, rfl, ?_⟩
        refine ⟨b, _, _, xs, ys, s, mk, rfl, sxs, hxs, sy, hy, by have := hmk.1; omega, by rw [hxs.length, hmx.1]; omega, mix_sz hmx, fun d hd => ⟨day_sz (hmk.2 d hd), day_sum hg hmx (hmk.2 d hd)⟩, ?_, k⟩
        exact szprod_of (L := 3) (worth_mix_bd hg hmx hmk) (by rw [List.length_map]; exact hmk.1) (by decide) (by decide) (by decide) (by decide) (by decide)
      | walk ms as ws =>
        obtain ⟨rfl, rfl, vm, vw, l1, h1, l2, h2⟩ := hp
        refine itf (kd_ne (by decide)) ⟨_, rfl, rfl, _, rfl, itf (kd_ne (by decide)) ⟨_, rfl, rfl, _, rfl, itf (kd_ne (by decide)) ⟨_, rfl, rfl, _, rfl, itf (kd_ne (by decide)) ⟨_, rfl, rfl, _, rfl, itt kd_eq ?_⟩⟩⟩⟩
        obtain ⟨hma, hwl, hwb⟩ := hok
        refine ⟨_, rfl, a, _, dx, fs, _, rfl, hi, cl, pc.na "machine" (by simp [PKind.own]), l1, _, rfl, a, _, dx, fs, _, rfl, hi, cl, pc.na "weights" (by simp [PKind.own]), l2, _, rfl, ?_⟩
        have hL := hmk.1
        refine ⟨b, _, _, _, ys, ws, mk, ms, as, g, 2, 6, 15120, 181440, rfl, h1, h2, sy, hy, hwl, hma.1, by have := hma.2.1; omega, hma.2.2.2.1, by have := hma.2.2.2.2.1; omega, fun q hq => (hwb q hq).2, fun d hd => ⟨day_sz (hmk.2 d hd), fun s hs => ⟨by rw [(hma.2.2.1 s hs).1]; omega, mix_sz (hma.2.2.1 s hs), day_sum hg (hma.2.2.1 s hs) (hmk.2 d hd), day_dot hg (hma.2.2.1 s hs) (hmk.2 d hd)⟩⟩, by decide, by decide, ?_, ?_, by decide, by decide, k⟩
        · exact Nat.lt_of_le_of_lt (log2_le_of_le (Nat.mul_le_mul_left 2 (Nat.pow_le_pow_right (by decide) hL))) (by decide)
        · exact Nat.lt_of_le_of_lt (log2_le_of_le (Nat.mul_le_mul_left 6 (Nat.pow_le_pow_right (by decide) hL))) (by decide)
      | times q p =>
        obtain ⟨rfl, vq, vp, l1, h1, l2, rfl, h2⟩ := hp
        refine itf (kd_ne (by decide)) ⟨_, rfl, rfl, _, rfl, itf (kd_ne (by decide)) ⟨_, rfl, rfl, _, rfl, itt kd_eq ?_⟩⟩
        obtain ⟨h0, hqb, hpo⟩ := hok
        cases n with
        | zero => exact absurd hpo (fun z => z)
        | succ n =>
        refine ⟨_, rfl, a, _, dx, fs, _, rfl, hi, cl, pc.na "number" (by simp [PKind.own]), l1, _, rfl, a, _, dx, fs, _, rfl, hi, cl, pc.na "part" (by simp [PKind.own]), l2, _, rfl, ?_⟩
        refine ⟨b, _, _, ys, mk, p, g, rfl, h2, hpo, hg, by omega, sy, hy, hmk, fun x H1 s1 hx => ?_⟩
        exact ⟨_, _, _, _, rfl, h1.mono s1.n, hx, hqb.sz (by decide) (by decide) (by decide), worth_sz hg (by omega) hpo hmk, fun y H2 s2 hy2 => k y H2 (s1.trans s2) hy2⟩
      | thn d pa pb =>
        obtain ⟨rfl, va, vb, l1, l2, l3, rfl, h1, h2⟩ := hp
        refine itf (kd_ne (by decide)) ⟨_, rfl, rfl, _, rfl, itf (kd_ne (by decide)) ⟨_, rfl, rfl, _, rfl, itf (kd_ne (by decide)) ⟨_, rfl, rfl, _, rfl, itt kd_eq ?_⟩⟩⟩
        obtain ⟨hd3, hpa, hpb⟩ := hok
        cases n with
        | zero => exact absurd hpa (fun z => z)
        | succ n =>
        refine ⟨_, rfl, _, rfl, a, _, dx, fs, _, rfl, hi, cl, pc.na "days" (by simp [PKind.own]), l1, (d : Int), rfl, slOf sy fun p1 H1 s1 q1 => ?_⟩
        rw [cut_take] at q1
        refine ⟨_, rfl, _, rfl, a, _, dx, fs, _, rfl, s1 _ _ hi, cl, pc.na "days" (by simp [PKind.own]), l1, (d : Int), rfl, slOf (sy.same s1) fun p2 H2 s2 q2 => ?_⟩
        rw [cut_drop] at q2
        have s12 := s1.trans s2
        refine ⟨_, _, rfl, ?_⟩
        refine ⟨_, rfl, a, _, dx, fs, _, rfl, s12 _ _ hi, cl, pc.na "first" (by simp [PKind.own]), l2, _, rfl, ?_⟩
        refine ⟨b, _, _, _, _, pa, g, rfl, h1.n s12.n, hpa, hg, by omega, q1.same s2, (hy.take d).n s12.n, hmk.take d, fun x H3 s3 hx => ?_⟩
        have s13 := s12.trans s3
        refine ⟨_, rfl, a, _, dx, fs, _, rfl, s13 _ _ hi, cl, pc.na "last" (by simp [PKind.own]), l3, _, rfl, ?_⟩
        refine ⟨b, _, _, _, _, pb, g, rfl, h2.n s13.n, hpb, hg, by omega, q2.same s3, (hy.drop d).n s13.n, hmk.drop d, fun x2 H4 s4 hx2 => ?_⟩
        exact ⟨_, _, _, _, rfl, hx.mono s4.n, hx2, worth_sz hg (by omega) hpa (hmk.take d), worth_sz hg (by omega) hpb (hmk.drop d), fun y H5 s5 hy5 => k y H5 ((s13.trans s4).trans s5) hy5⟩
      | sum ps =>
        obtain ⟨rfl, hne, hl3, vp, l1, s1, h1⟩ := hp
        refine itf (kd_ne (by decide)) ⟨_, rfl, rfl, _, rfl, itf (kd_ne (by decide)) ⟨_, rfl, rfl, _, rfl, itf (kd_ne (by decide)) ⟨_, rfl, rfl, _, rfl, itf (kd_ne (by decide)) ⟨_, rfl, rfl, _, rfl, itf (kd_ne (by decide)) ⟨_, rfl, rfl, _, rfl, itf (kd_ne (by decide)) ?_⟩⟩⟩⟩⟩
        obtain ⟨hne', hl3', hpo⟩ := hok
        cases n with
        | zero =>
          cases ps with
          | nil => exact absurd rfl hne
          | cons a l => exact absurd (hpo a (by simp)) (fun z => z)
        | succ n =>
        have hpl := h1.length
        refine u_next ?_
        dsimp only
        refine u_seq (u_asg ?_)
        refine lc_seq (H1 := H) (b := false) (v := vp) (xs := inn) ?_ s1 (by omega) (fun D j H' z => ∀ p, ps[j]? = some p → Num H' z (worth (n + 1) p mk)) (fun D j H1 H2 z c h p hp => (h p hp).mono c.n) ?_ ?_ (fun _ => rfl)
        · intro R r
          exact ⟨_, rfl, a, _, dx, fs, _, rfl, hi, cl, pc.na "parts" (by simp [PKind.own]), l1, r⟩
        · intro D j x H' R hx hD s2 hDn hR
          obtain ⟨p, hp', hpx⟩ := paired_get h1 hx
          refine ⟨_, rfl, _, rfl, b, _, _, ys, mk, p, g, rfl, hpx.n s2.n, hpo p (mem_get hp'), hg, by omega, sy.same s2, hy.n s2.n, hmk, fun z H3 s3 hz => hR z H3 s3 fun p2 hp2 => ?_⟩
          rw [hp'] at hp2; cases hp2; exact hz
        · intro D H' zs hD s2 hDz hl2 hF
          have hb : ∀ q ∈ ps.map (fun q => worth (n + 1) q mk), Bd (DW n) (NW n) q := fun q hq => by
            obtain ⟨p, hp', rfl⟩ := List.mem_map.mp hq
            exact worth_bd hg (hpo p hp') hmk
          have hnums : Nums H' zs (ps.map fun q => worth (n + 1) q mk) := paired_of (by simp [hl2, hpl]) fun j z r hz hr => by
            rw [List.getElem?_map] at hr
            obtain ⟨p, hp', rfl⟩ := Option.map_eq_some_iff.mp hr
            exact hF j z hz p hp'
          have dz := DW_sz (n := n) (by omega)
          refine ⟨_, rfl, rfl, _, rfl, itt kd_eq ?_⟩
          refine ⟨_, rfl, true, _, zs, _, rfl, SqK.lst hDz, hnums, szsum_of (L := 3) hb (by rw [List.length_map]; exact hl3) (by decide) (DW_pos n) (Nat.lt_trans dz.1 (by decide)) ?_, fun x H3 s3 hx => k x H3 (s2.trans s3) hx⟩
          have := log2_mul_le 3 (NW n)
          have h3 : (3 : Nat).log2 = 1 := by decide
          omega
      | gre ps =>
        obtain ⟨rfl, hne, hl3, vp, l1, s1, h1⟩ := hp
        refine itf (kd_ne (by decide)) ⟨_, rfl, rfl, _, rfl, itf (kd_ne (by decide)) ⟨_, rfl, rfl, _, rfl, itf (kd_ne (by decide)) ⟨_, rfl, rfl, _, rfl, itf (kd_ne (by decide)) ⟨_, rfl, rfl, _, rfl, itf (kd_ne (by decide)) ⟨_, rfl, rfl, _, rfl, itf (kd_ne (by decide)) ?_⟩⟩⟩⟩⟩
        obtain ⟨hne', hl3', hpo⟩ := hok
        cases n with
        | zero =>
          cases ps with
          | nil => exact absurd rfl hne
          | cons a l => exact absurd (hpo a (by simp)) (fun z => z)
        | succ n =>
        have hpl := h1.length
        refine u_next ?_
        dsimp only
        refine u_seq (u_asg ?_)
        refine lc_seq (H1 := H) (b := false) (v := vp) (xs := inn) ?_ s1 (by omega) (fun D j H' z => ∀ p, ps[j]? = some p → Num H' z (worth (n + 1) p mk)) (fun D j H1 H2 z c h p hp => (h p hp).mono c.n) ?_ ?_ (fun _ => rfl)
        · intro R r
          exact ⟨_, rfl, a, _, dx, fs, _, rfl, hi, cl, pc.na "parts" (by simp [PKind.own]), l1, r⟩
        · intro D j x H' R hx hD s2 hDn hR
          obtain ⟨p, hp', hpx⟩ := paired_get h1 hx
          refine ⟨_, rfl, _, rfl, b, _, _, ys, mk, p, g, rfl, hpx.n s2.n, hpo p (mem_get hp'), hg, by omega, sy.same s2, hy.n s2.n, hmk, fun z H3 s3 hz => hR z H3 s3 fun p2 hp2 => ?_⟩
          rw [hp'] at hp2; cases hp2; exact hz
        · intro D H' zs hD s2 hDz hl2 hF
          have hb : ∀ q ∈ ps.map (fun q => worth (n + 1) q mk), Bd (DW n) (NW n) q := fun q hq => by
            obtain ⟨p, hp', rfl⟩ := List.mem_map.mp hq
            exact worth_bd hg (hpo p hp') hmk
          have hnums : Nums H' zs (ps.map fun q => worth (n + 1) q mk) := paired_of (by simp [hl2, hpl]) fun j z r hz hr => by
            rw [List.getElem?_map] at hr
            obtain ⟨p, hp', rfl⟩ := Option.map_eq_some_iff.mp hr
            exact hF j z hz p hp'
          have dz := DW_sz (n := n) (by omega)
          refine ⟨_, rfl, rfl, _, rfl, itf (kd_ne (by decide)) ?_⟩
          refine ⟨_, rfl, true, _, zs, _, rfl, SqK.lst hDz, hnums, by simpa using hne, bd_szl (DW_pos n) (Nat.lt_trans dz.1 (by decide)) (Nat.lt_trans dz.2 (by decide)) hb, fun x H3 s3 hx => k x H3 (s2.trans s3) hx⟩
end
end Hp
namespace Hp
set_option Elab.async false
set_option linter.all false
set_option maxRecDepth 100000
set_option maxHeartbeats 4000000
open PySem PySem.Spec PyProof.Rows L2 NdefX
/-- what stood ahead of a list's making stays while the list is changed -/
theorem SameB.back {D : Addr} {H H1 H' : Hp} (s : Same H H1) (n : H D = none) (b : SameB D H1 H') : Same H H' := fun a o h => b a o (ne_of_none h n) (s a o h)
theorem PrAt.inner {K : PySem.W.Frag} {g n : Nat} {H : Hp} {v : V} {p : Pr} (h : PrAt K g (n + 1) H v p) : ∃ k fs inn m l, PrB K H v k g inn m l fs ∧ inn.length ≤ 3 ∧ ∀ x ∈ inn, ∃ q, PrAt K g n H x q := by
  obtain ⟨k, fs, inn, m, l, hb, hm, hl, h⟩ := h
  refine ⟨k, fs, inn, m, l, hb, ?_⟩
  cases p with
  | hold i => obtain ⟨_, rfl, _⟩ := h; simp
  | mix ps => obtain ⟨_, rfl, _⟩ := h; simp
  | walk ms as ws => obtain ⟨_, rfl, _⟩ := h; simp
  | times q p =>
    obtain ⟨_, vq, vp, _, _, _, rfl, h6⟩ := h
    exact ⟨by simp, fun x hx => by rw [List.mem_singleton.mp hx]; exact ⟨_, h6⟩⟩
  | thn d a b =>
    obtain ⟨_, va, vb, _, _, _, rfl, h6, h7⟩ := h
    refine ⟨by simp, fun x hx => ?_⟩
    rcases List.mem_cons.mp hx with rfl | hx
    · exact ⟨_, h6⟩
    · rw [List.mem_singleton.mp hx]; exact ⟨_, h7⟩
  | sum ps =>
    obtain ⟨_, h2, h3, vp, h4, h5, h6⟩ := h
    exact ⟨by rw [h6.length]; exact h3, fun x hx => let ⟨y, _, f⟩ := paired_mem h6 x hx; ⟨y, f⟩⟩
  | gre ps =>
    obtain ⟨_, h2, h3, vp, h4, h5, h6⟩ := h
    exact ⟨by rw [h6.length]; exact h3, fun x hx => let ⟨y, _, f⟩ := paired_mem h6 x hx; ⟨y, f⟩⟩
/-- a promise of one of the kinds that we have -/
def KdAt (K : PySem.W.Frag) (H : Hp) (x : V) : Prop := ∃ k fs, InsAt H x (He.ga K (PKind.nm k)) fs ∧ fget fs "kind" = some (.str (PKind.kd k))
theorem KdAt.n {K : PySem.W.Frag} {H H' : Hp} {x : V} (h : KdAt K H x) (e : SameN H H') : KdAt K H' x := by
  obtain ⟨k, fs, a, b⟩ := h
  exact ⟨k, fs, a.n e, b⟩
theorem kd_best (k : PKind) : k.kd ≠ ("best" : Str) := by cases k <;> decide
def sp_spread (K : PySem.W.Frag) (n : Nat) : Sp := fun vs H Q _ => ∃ v p g, vs = [v] ∧ PrAt K g n H v p ∧ n ≤ 3 ∧ ∀ D H' xs, Same H H' → H' D = some (.lst xs) → xs.length ≤ 4 ^ n → (∀ x ∈ xs, KdAt K H' x) → Q (.ref D) H'
section
variable {P : Program} {w : World} {K : PySem.W.Frag} {mg : Str → Option Value} {base : Heap}
theorem sc_spread : FnScope ["promise", "found", "part"] ["promise"] (defScope s_spread) := ⟨rfl, rfl, rfl, by decide +kernel, rfl, by decide +kernel, by decide +kernel⟩
theorem c_spread (T : Wd K mg base) : ∀ n : Nat, Cal P w K mg base (1 + n) "spread" (sp_spread K n) []
  | 0 => by
    obtain ⟨fd, F⟩ := T.d_spread
    refine mkCal (k := 1 - 1) F T.g_spread sc_spread (F.bindsN fun _ _ _ _ _ _ us hl => match us, hl with | [_], _ => rfl) (fun vs H Q E h => ?_) (fun cdv A outer s H vs Q E hr h => ?_)
    · exfalso
      rcases h with ⟨v, p, g, rfl, hp, _⟩; exact hp
    · exfalso
      rcases h with ⟨v, p, g, rfl, hp, _⟩; exact hp
  | n + 1 => by
    have ih := c_spread T n
    obtain ⟨fd, F⟩ := T.d_spread
    refine mkCal (k := 1 + n) F T.g_spread sc_spread (F.bindsN fun _ _ _ _ _ _ us hl => match us, hl with | [_], _ => rfl) (fun vs H Q E h => ?_) (fun cdv A outer s H vs Q E hr h => ?_)
    · rcases h with ⟨v, p, g, rfl, hp, hn, k⟩ <;> rfl
    · rcases h with ⟨v, p, g, rfl, hp, hn, k⟩
      refine ⟨_, (pss_cons (ps_set (i := 1) sc_spread.nd rfl (Or.inl rfl) (pe_lst (pa_cons (pv 0) pa_nil)))
        (pss_cons (ps_for PassesOwn.never rfl (pi_seq (pe_fld (pv 0) rfl)) (pg_name (i := 2) sc_spread.nd rfl (Or.inl rfl))
        (pss_one (ps_expr (pe_bm PySem.F.plainAttrs_list PySem.F.slot_list_extend PySem.F.type_list_extend mt_extend (pv 1) (pa_cons (pe_c (ih) hr (by omega) rfl (pa_cons (pv 2) pa_nil)) pa_nil)))))
        (pss_one (ps_ret (pv 1))))), ?_⟩
      obtain ⟨kk, fs, inn, m, l, hb, hil, hpi⟩ := hp.inner
      obtain ⟨a, dx, rfl, hi⟩ := id hb.ins
      obtain ⟨vi, li, si⟩ := hb.inner
      have pc := T.pc kk
      have h4 : 1 ≤ 4 ^ n := Nat.pow_pos (by decide)
      have hpow : 4 ^ n ≤ 64 := by
        have := Nat.pow_le_pow_right (n := 4) (by decide) (by omega : n ≤ 3)
        exact this
      refine ⟨_, rfl, (by show 1 ≤ sizeLine; decide), fun D nD => ?_⟩
      have s1 := Same.of_new (o := .lst [V.ref a]) nD
      have e1 := s1 _ _ hi
      have eD : (L2.upd H D (.lst [V.ref a])) D = some (.lst [V.ref a]) := upd_same
      generalize L2.upd H D (.lst [V.ref a]) = H1 at s1 e1 eD ⊢
      refine for_seq (H1 := H1) (v := vi) (b := false) (xs := inn) ?_ (si.same s1) (fun i σ' H' => ∃ y xs, σ' = [some (.ref a), some (.ref D), y] ∧ SameB D H1 H' ∧ H' D = some (.lst xs) ∧ xs.length ≤ 1 + i * 4 ^ n ∧ ∀ x ∈ xs, KdAt K H' x) ?_ ?_ ?_ ?_
      · intro R r
        exact ⟨_, rfl, a, _, dx, fs, _, rfl, e1, pc.ok.cls, pc.na "inner" (by simp), li, r⟩
      · refine ⟨_, _, rfl, SameB.of (Same.refl _), eD, by simp, fun x hx => ?_⟩
        rw [List.mem_singleton.mp hx]
        exact ⟨kk, fs, ⟨a, dx, rfl, e1⟩, hb.kind⟩
      · rintro i σ' H' _ ⟨y, xs, rfl, sb, hD, hl, hk⟩
        exact si.same (SameB.back s1 nD sb)
      · rintro i x σ' H' hx ⟨y, xs, rfl, sb, hD, hl, hk⟩
        have hi3 : i < inn.length := (List.getElem?_eq_some_iff.mp hx).1
        obtain ⟨q, hq⟩ := hpi x (mem_get hx)
        have sH := SameB.back s1 nD sb
        refine ⟨_, rfl, .inl ⟨rfl, xs, SqL.of hD⟩, _, rfl, x, q, g, rfl, hq.n sH.n, by omega, fun D2 H2 zs s2 hD2 hz hk2 => ?_⟩
        have hb3 : i * 4 ^ n ≤ 2 * 4 ^ n := Nat.mul_le_mul_right _ (by omega)
        refine ⟨D, D2, xs, zs, rfl, rfl, s2 _ _ hD, hD2, ?_, ?_⟩
        · exact Nat.le_trans (by omega : xs.length + zs.length ≤ 1000) (by decide)
        · refine ⟨_, _, rfl, (sb.trans (SameB.of s2)).trans SameB.upd, upd_same, ?_, fun x hx => ?_⟩
          · rw [List.length_append, Nat.succ_mul]; omega
          · have sn : SameN H2 (L2.upd H2 D (.lst (xs ++ zs))) := SameN.lst (s2 _ _ hD)
            rcases List.mem_append.mp hx with h | h
            · exact ((hk x h).n s2.n).n sn
            · exact (hk2 x h).n sn
      · rintro σ' H' ⟨y, xs, rfl, sb, hD, hl, hk⟩
        refine ⟨_, rfl, k D H' xs (SameB.back s1 nD sb) hD ?_ hk⟩
        have : inn.length * 4 ^ n ≤ 3 * 4 ^ n := Nat.mul_le_mul_right _ hil
        rw [Nat.pow_succ]; omega
def sp_best_many  : Sp :=  fun vs H Q _ => ∃ v p g n, vs = [v] ∧ PrAt K g n H v p ∧ n ≤ 3 ∧ ∀ H', Same H H' → Q (.int 0) H'
theorem sc_best_many : FnScope ["promise", "each"] ["promise"] (defScope s_best_many) := ⟨rfl, rfl, rfl, by decide +kernel, rfl, by decide +kernel, by decide +kernel⟩
theorem c_best_many (T : Wd K mg base) : Cal P w K mg base 5 "best_many" (sp_best_many (K := K)) [] := by
  obtain ⟨fd, F⟩ := T.d_best_many
  refine mkCal (k := 5 - 1) F T.g_best_many sc_best_many (F.bindsN fun _ _ _ _ _ _ us hl => match us, hl with | [_], _ => rfl) (fun vs H Q E h => ?_) (fun cdv A outer s H vs Q E hr h => ?_)
  · rcases h with ⟨v, p, g, n, rfl, hp, hn, k⟩ <;> rfl
  · rcases h with ⟨v, p, g, n, rfl, hp, hn, k⟩
    refine ⟨_, (pss_one (ps_ret (pe_callB call_len_seq (by rfl) T.f_len (by decide +kernel) (pa_cons (pe_lc (own := [("each", 1)]) rfl sc_best_many.nd (pi_seq (pe_c (c_spread T n) hr (by omega) rfl (pa_cons (pv 0) pa_nil))) (blkOk_by (own := [("each", 1)]) (N := ["promise", "each"]) (sc := defScope s_best_many) (by decide +kernel)) (fun _ _ _ _ _ => by exact (pg_name (i := 1) sc_best_many.nd rfl (by first | exact Or.inl rfl | exact Or.inr rfl))) (fun _ _ _ _ _ => by exact (pts_one (pt_cmpR op_eq (fldK (K := K) rfl (pv 1) rfl) pe_str (nomark _)))) (fun _ _ _ _ _ => by exact (pv 1))) pa_nil)))), ?_⟩
    refine u_ret (u_cb1 ?_)
    refine lcg_seqG (b := true) (fun v' H1 xs => Same H H1 ∧ SqK true H1 v' xs ∧ xs.length ≤ 100000 ∧ ∀ x ∈ xs, KdAt K H1 x) ?_ (fun v' H1 xs h => ⟨h.2.1, h.2.2.1⟩) (fun v' H1 xs D i H' acc => Same H1 H' ∧ SqK true H' v' xs ∧ acc = []) (fun v' H1 xs D i H' acc h => h.2.1)
      (fun v' H1 xs D h hD => ⟨Same.of_new hD, h.2.1.same (Same.of_new hD), rfl⟩) ?_ ?_ (fun _ => rfl)
    · intro R hR
      refine ⟨_, rfl, v, p, g, rfl, hp, hn, fun D H' xs s1 hD hl hk => hR _ _ xs ⟨s1, SqK.lst hD, ?_, hk⟩⟩
      have := Nat.pow_le_pow_right (n := 4) (by decide) hn
      exact Nat.le_trans (Nat.le_trans hl this) (by decide)
    · rintro v' H1 xs D i x H' acc R Z ⟨s1, sv, hl, hk⟩ hx hD ha hDa ⟨s2, sv2, rfl⟩ hR hZ
      obtain ⟨kk, fs, ⟨b, dxb, rfl, hb⟩, kd⟩ := hk x (mem_get hx)
      refine ⟨_, rfl, b, _, dxb, fs, _, rfl, s2 _ _ hb, (T.pc kk).ok.cls, (T.pc kk).na "kind" (by simp), kd, rfl, _, rfl, ?_⟩
      exact itf (kd_ne (kd_best kk)) (hZ _ hDa ⟨s2, sv2, rfl⟩)
    · rintro v' H1 xs D H' acc ⟨s1, sv, hl, hk⟩ hD hDa ⟨s2, sv2, rfl⟩
      exact ⟨D, [], rfl, .inl (SqL.of hDa), k _ (s1.trans s2)⟩
def sp_has_best_in  : Sp :=  fun vs H Q _ => ∃ v p g n, vs = [v] ∧ PrAt K g n H v p ∧ n ≤ 3 ∧ ∀ H', Same H H' → Q (.bl false) H'
theorem sc_has_best_in : FnScope ["promise"] ["promise"] (defScope s_has_best_in) := ⟨rfl, rfl, rfl, by decide +kernel, rfl, by decide +kernel, by decide +kernel⟩
theorem c_has_best_in (T : Wd K mg base) : Cal P w K mg base 6 "has_best_in" (sp_has_best_in (K := K)) [] := by
  obtain ⟨fd, F⟩ := T.d_has_best_in
  refine mkCal (k := 6 - 1) F T.g_has_best_in sc_has_best_in (F.bindsN fun _ _ _ _ _ _ us hl => match us, hl with | [_], _ => rfl) (fun vs H Q E h => ?_) (fun cdv A outer s H vs Q E hr h => ?_)
  · rcases h with ⟨v, p, g, n, rfl, hp, hn, k⟩ <;> rfl
  · rcases h with ⟨v, p, g, n, rfl, hp, hn, k⟩
    refine ⟨_, (pss_one (ps_ret (pe_cmpR op_gt (pe_c (c_best_many T) hr (by decide) rfl (pa_cons (pv 0) pa_nil)) pe_int (nomark _)))), ?_⟩
    exact ⟨_, rfl, v, p, g, n, rfl, hp, hn, fun H1 s1 => ⟨_, _, rfl, rfl, k _ s1⟩⟩
def sp_need_no_best  : Sp :=  fun vs H Q _ => ∃ v p g n, vs = [v] ∧ PrAt K g n H v p ∧ n ≤ 3 ∧ ∀ H', Same H H' → Q .non H'
theorem sc_need_no_best : FnScope ["promise"] ["promise"] (defScope s_need_no_best) := ⟨rfl, rfl, rfl, by decide +kernel, rfl, by decide +kernel, by decide +kernel⟩
theorem c_need_no_best (T : Wd K mg base) : Cal P w K mg base 7 "need_no_best" (sp_need_no_best (K := K)) [] := by
  obtain ⟨fd, F⟩ := T.d_need_no_best
  refine mkCal (k := 7 - 1) F T.g_need_no_best sc_need_no_best (F.bindsN fun _ _ _ _ _ _ us hl => match us, hl with | [_], _ => rfl) (fun vs H Q E h => ?_) (fun cdv A outer s H vs Q E hr h => ?_)
  · rcases h with ⟨v, p, g, n, rfl, hp, hn, k⟩ <;> rfl
  · rcases h with ⟨v, p, g, n, rfl, hp, hn, k⟩
    refine ⟨_, (pss_one (ps_if (pt_val (pe_c (c_has_best_in T) hr (by decide) rfl (pa_cons (pv 0) pa_nil))) pss_never pss_nil)), ?_⟩
    exact ⟨_, rfl, v, p, g, n, rfl, hp, hn, fun H1 s1 => ⟨_, rfl, iteF (k _ s1)⟩⟩
end
end Hp
namespace Hp
set_option Elab.async false
set_option linter.all false
set_option maxRecDepth 100000
set_option maxHeartbeats 4000000
open PySem PySem.Spec PyProof.Rows L2 NdefX
/-- one row more: a product and a word -/
def stepZ (row : List Rat) (z : Rat × List Nat) : List (Rat × List Nat) := (List.range row.length).map fun i => (z.1 * row.getD i 0, z.2 ++ [i])
def stepW (f : List (Rat × List Nat)) (row : List Rat) : List (Rat × List Nat) := f.flatMap (stepZ row)
def ways (ps : List (List Rat)) : List (Rat × List Nat) := ps.foldl stepW [(1, [])]
theorem ways_take {ps : List (List Rat)} {i : Nat} {r : List Rat} (h : ps[i]? = some r) : ways (ps.take (i + 1)) = stepW (ways (ps.take i)) r := foldl_take_snoc stepW _ h
theorem stepW_take {f : List (Rat × List Nat)} {row : List Rat} {i : Nat} {z : Rat × List Nat} (h : f[i]? = some z) : stepW (f.take (i + 1)) row = stepW (f.take i) row ++ stepZ row z := by
  unfold stepW
  rw [take_snoc h, List.flatMap_append]; simp
theorem stepW_len (row : List Rat) : ∀ f : List (Rat × List Nat), (stepW f row).length = f.length * row.length
  | [] => by simp [stepW]
  | z :: f => by
    have := stepW_len row f
    unfold stepW at this ⊢
    rw [List.flatMap_cons, List.length_append, this, List.length_cons, Nat.succ_mul]
    simp [stepZ]; omega
theorem ways_len {g : Nat} : ∀ (i : Nat) {ps : List (List Rat)}, (∀ r ∈ ps, r.length = g) → i ≤ ps.length → (ways (ps.take i)).length = g ^ i
  | 0, ps, _, _ => by simp [ways]
  | i + 1, ps, h, hi => by
    have e : ps[i]? = some (ps[i]'(by omega)) := by simp
    rw [ways_take e, stepW_len, ways_len i h (by omega), h _ (List.getElem_mem _), Nat.pow_succ]
theorem ways_bd {C N : Nat} : ∀ (i : Nat) {ps : List (List Rat)}, (∀ r ∈ ps, ∀ q ∈ r, Bd C N q) → i ≤ ps.length → ∀ z ∈ ways (ps.take i), Bd (C ^ i) (N ^ i) z.1
  | 0, ps, _, _ => fun z hz => by
    have : z = (1, []) := by simpa [ways] using hz
    rw [this]; exact Bd.one (by simp)
  | i + 1, ps, h, hi => fun z hz => by
    have e : ps[i]? = some (ps[i]'(by omega)) := by simp
    rw [ways_take e] at hz
    unfold stepW at hz
    obtain ⟨z0, hz0, hz1⟩ := List.mem_flatMap.mp hz
    unfold stepZ at hz1
    obtain ⟨j, hj, rfl⟩ := List.mem_map.mp hz1
    have hj' : j < (ps[i]'(by omega)).length := by simpa using hj
    have h1 := ways_bd i h (by omega) z0 hz0
    exact h1.mul (getD_mem (h _ (List.getElem_mem _)) hj')
theorem ways_word {g : Nat} : ∀ (i : Nat) {ps : List (List Rat)}, (∀ r ∈ ps, r.length = g) → i ≤ ps.length → ∀ z ∈ ways (ps.take i), z.2.length = i ∧ ∀ j ∈ z.2, j < g
  | 0, ps, _, _ => fun z hz => by
    have : z = (1, []) := by simpa [ways] using hz
    rw [this]; simp
  | i + 1, ps, h, hi => fun z hz => by
    have e : ps[i]? = some (ps[i]'(by omega)) := by simp
    rw [ways_take e] at hz
    unfold stepW at hz
    obtain ⟨z0, hz0, hz1⟩ := List.mem_flatMap.mp hz
    unfold stepZ at hz1
    obtain ⟨j, hj, rfl⟩ := List.mem_map.mp hz1
    have hj' : j < (ps[i]'(by omega)).length := by simpa using hj
    rw [h _ (List.getElem_mem _)] at hj'
    obtain ⟨h1, h2⟩ := ways_word i h (by omega) z0 hz0
    refine ⟨by simp [h1], fun k hk => ?_⟩
    rcases List.mem_append.mp hk with hk | hk
    · exact h2 k hk
    · rw [List.mem_singleton.mp hk]; exact hj'
/-- a pair of a product and a word -/
def WayAt (H : Hp) (v : V) (z : Rat × List Nat) : Prop := ∃ vq vw, SqK false H v [vq, vw] ∧ Num H vq z.1 ∧ SqK false H vw (z.2.map fun i => V.int ((i : Nat) : Int))
theorem WayAt.n {H H' : Hp} {v : V} {z : Rat × List Nat} (h : WayAt H v z) (e : SameN H H') : WayAt H' v z := by
  obtain ⟨vq, vw, a, b, c⟩ := h
  exact ⟨vq, vw, a.n e, b.mono e, c.n e⟩
theorem WaysAt.n {H H' : Hp} {xs : List V} {f : List (Rat × List Nat)} (h : Paired (WayAt H) xs f) (e : SameN H H') : Paired (WayAt H') xs f := Paired.mapP h fun _ _ q => q.n e
theorem paired_append {α β : Type} {F : α → β → Prop} {a c : List α} {b d : List β} (h : Paired F a b) (h2 : Paired F c d) : Paired F (a ++ c) (b ++ d) := by
  induction h with
  | nil => exact h2
  | cons r t ih => exact .cons r ih
/-- a step: a number, its good -/
def StepAt (H : Hp) (v : V) (z : Rat × Nat) : Prop := ∃ vq, SqK false H v [vq, .int ((z.2 : Nat) : Int)] ∧ Num H vq z.1
theorem StepAt.n {H H' : Hp} {v : V} {z : Rat × Nat} (h : StepAt H v z) (e : SameN H H') : StepAt H' v z := by
  obtain ⟨vq, a, b⟩ := h
  exact ⟨vq, a.n e, b.mono e⟩
def steps (row : List Rat) : List (Rat × Nat) := (List.range row.length).map fun i => (row.getD i 0, i)
theorem range_take (n i : Nat) (h : i < n) : (List.range n).take (i + 1) = (List.range n).take i ++ [i] := take_snoc (by simp [h])
section
variable {P : Program} {w : World} {K : PySem.W.Frag} {mg : Str → Option Value} {base : Heap}
def sp_ways_by  : Sp :=  fun vs H Q _ => ∃ b v xs ps g C N, vs = [v] ∧ SqK b H v xs ∧ RowsAt H xs ps ∧ ps.length ≤ 3 ∧ g ≤ 3 ∧ (∀ r ∈ ps, r.length = g ∧ ∀ q ∈ r, q ≠ 0 ∧ Bd C N q) ∧ 0 < C ∧ 0 < N ∧ (C ^ 3).log2 < 4000 ∧ (N ^ 3).log2 < 400000 ∧ ∀ D H' ys, Same H H' → H' D = some (.lst ys) → Paired (WayAt H') ys (ways ps) → Q (.ref D) H'
theorem sc_ways_by : FnScope ["portions", "found", "row", "steps", "good", "number", "mine", "word"] ["portions"] (defScope s_ways_by) := ⟨rfl, rfl, rfl, by decide +kernel, rfl, by decide +kernel, by decide +kernel⟩
theorem c_ways_by (T : Wd K mg base) : Cal P w K mg base 4 "ways_by" sp_ways_by [] := by
  obtain ⟨fd, F⟩ := T.d_ways_by
  refine mkCal (k := 4 - 1) F T.g_ways_by sc_ways_by (F.bindsN fun _ _ _ _ _ _ us hl => match us, hl with | [_], _ => rfl) (fun vs H Q E h => ?_) (fun cdv A outer s H vs Q E hr h => ?_)
  · rcases h with ⟨b, v, xs, ps, g, C, N, rfl, sx, hx, hl3, hg, hr3, C0, N0, szC, szN, k⟩ <;> rfl
  · rcases h with ⟨b, v, xs, ps, g, C, N, rfl, sx, hx, hl3, hg, hr3, C0, N0, szC, szN, k⟩
    refine ⟨_, (pss_cons (ps_set (i := 1) sc_ways_by.nd rfl (Or.inl rfl) (pe_lst (pa_cons (pe_tup (pa_cons pe_int (pa_cons (pe_tup pa_nil) pa_nil))) pa_nil)))
  (pss_cons (ps_for PassesOwn.never rfl (pi_seq (pv 0)) (pg_name (i := 2) sc_ways_by.nd rfl (Or.inl rfl))
  (pss_cons (ps_set (i := 3) sc_ways_by.nd rfl (Or.inr rfl) (pe_lc (own := [("good", 4), ("number", 5)]) rfl sc_ways_by.nd (pi_enumS (by rfl) T.f_enumerate (pa_cons (pv 2) pa_nil)) (blkOk_by (own := [("good", 4), ("number", 5)]) (N := ["portions", "found", "row", "steps", "good", "number", "mine", "word"]) (sc := defScope s_ways_by) (by decide +kernel)) (fun _ _ _ _ _ => by exact (by refine pg_pair (K := K) (i := 4) (j := 5) ?_ ?_ ?_ ?_ ?_ ?_ ?_ <;> first | exact sc_ways_by.nd | rfl)) (fun _ _ _ _ _ => by exact (pts_one (pt_cmpR (neDK (K := K) rfl (u64 hr)) (pv 5) pe_int (nomark _)))) (fun _ _ _ _ _ => by exact (pe_tup (pa_cons (pv 5) (pa_cons (pv 4) pa_nil))))))
  (pss_one (ps_setLc2 (i := 1) (own := [("mine", 6), ("word", 7), ("number", 5), ("good", 4)]) rfl sc_ways_by.nd rfl rfl (sw_true rfl rfl rfl (by decide +kernel)) (pi_seq (pv 1)) (blkOk_by (own := [("mine", 6), ("word", 7), ("number", 5), ("good", 4)]) (N := ["portions", "found", "row", "steps", "good", "number", "mine", "word"]) (sc := defScope s_ways_by) (by decide +kernel)) (vs1 := [5, 4]) (by decide) (fun _ _ _ _ _ => by exact (by refine pg_pair (K := K) (i := 6) (j := 7) ?_ ?_ ?_ ?_ ?_ ?_ ?_ <;> first | exact sc_ways_by.nd | rfl)) (fun _ _ _ _ _ => by exact pts_nil) (fun _ _ _ _ _ => by exact (seqK (K := K) rfl (pv 3))) (fun _ _ _ _ _ => by exact (by refine pg_pair (K := K) (i := 5) (j := 4) ?_ ?_ ?_ ?_ ?_ ?_ ?_ <;> first | exact sc_ways_by.nd | rfl)) (fun _ _ _ _ _ => by exact pts_nil) (fun _ _ _ _ _ => by exact (pe_tup (pa_cons (pe_c (c_product T) hr (by decide) rfl (pa_cons (pv 6) (pa_cons (pv 5) pa_nil))) (pa_cons (pe_tup (starK (K := K) rfl (pv 7) (pa_cons (pv 4) pa_nil))) pa_nil))))))))
  (pss_one (ps_ret (pv 1))))), ?_⟩
    have hlx := hx.length
    have hlen : ∀ r ∈ ps, r.length = g := fun r hr => (hr3 r hr).1
    have hbd : ∀ r ∈ ps, ∀ q ∈ r, Bd C N q := fun r hr q hq => ((hr3 r hr).2 q hq).2
    have szw : ∀ {i}, i ≤ ps.length → ∀ z ∈ ways (ps.take i), Sz z.1 := fun {i} hi z hz => (ways_bd i hbd hi z hz).sz (Nat.pow_pos C0) (pow_log C0 (by omega) szC) (pow_log N0 (by omega) szN)
    have szq : ∀ r ∈ ps, ∀ q ∈ r, Sz q := fun r hr q hq => (hbd r hr q hq).sz C0 (by have := pow_log (k := 1) C0 (by decide) szC; rwa [Nat.pow_one] at this) (by have := pow_log (k := 1) N0 (by decide) szN; rwa [Nat.pow_one] at this)
    refine ⟨(by show 0 ≤ sizeLine; decide), fun t0 nt0 => ?_⟩
    have s0 := Same.of_new (o := .tup []) nt0
    refine ⟨(by show 2 ≤ sizeLine; decide), fun t1 nt1 => ?_⟩
    have s1 := Same.of_new (o := .tup [V.int 1, V.ref t0]) nt1
    refine ⟨(by show 1 ≤ sizeLine; decide), fun F nF => ?_⟩
    have s2 := Same.of_new (o := .lst [V.ref t1]) nF
    have s012 := (s0.trans s1).trans s2
    have w0 : Paired (WayAt (L2.upd (L2.upd (L2.upd H t0 (.tup [])) t1 (.tup [V.int 1, V.ref t0])) F (.lst [V.ref t1]))) [V.ref t1] (ways []) :=
      .cons ⟨.int 1, .ref t0, ⟨t1, rfl, s2 _ _ upd_same⟩, Num.int _ 1, ⟨t0, rfl, s2 _ _ (s1 _ _ upd_same)⟩⟩ .nil
    have hF0 : (L2.upd (L2.upd (L2.upd H t0 (.tup [])) t1 (.tup [V.int 1, V.ref t0])) F (.lst [V.ref t1])) F = some (.lst [V.ref t1]) := upd_same
    generalize L2.upd (L2.upd (L2.upd H t0 (.tup [])) t1 (.tup [V.int 1, V.ref t0])) F (.lst [V.ref t1]) = H0 at s012 w0 hF0 ⊢
    refine for_seq (gives_var rfl) (sx.same s012) (fun i σ' H' => ∃ F ys x y, σ' = [some v, some (.ref F), x, y, none, none, none, none] ∧ Same H H' ∧ H' F = some (.lst ys) ∧ Paired (WayAt H') ys (ways (ps.take i))) ⟨F, _, _, _, rfl, s012, hF0, w0⟩ (fun i σ' H' _ ⟨_, _, _, _, _, s, _⟩ => sx.same s) ?_ ?_
    · rintro i x σ' H' hxi ⟨F, ys, y1, y2, rfl, sH, hF, hw⟩
      obtain ⟨row, hrow, zs, sz, hz⟩ := paired_get hx hxi
      have hi3 : i < ps.length := (List.getElem?_eq_some_iff.mp hrow).1
      have hrl := hlen row (mem_get hrow)
      have hzl := hz.length
      have hwl := ways_len i hlen (by omega)
      have hgi : g ^ i ≤ 27 := Nat.le_trans (Nat.pow_le_pow_left hg i) (Nat.le_trans (Nat.pow_le_pow_right (by decide) (by omega : i ≤ 3)) (by decide))
      refine u_seq (u_asg ?_)
      refine lcg_enum (H1 := H') (v := x) (b := false) (xs := zs) ?_ (sz.same sH) (by omega) (fun D j H2 acc => Same H' H2 ∧ Paired (StepAt H2) acc ((steps row).take j)) ?_ (fun D hD => ⟨Same.of_new hD, .nil⟩) ?_ ?_ (fun _ _ => rfl)
      · exact gives_var rfl
      · exact fun D j H2 acc h => (sz.same sH).same h.1
      · rintro D j u T2 H2 acc R Z hu hD hal hDa hT2 ⟨s3, ha⟩ hR hZ
        obtain ⟨q, hq, hqn⟩ := paired_get hz hu
        have s4 := Same.of_new (o := .tup [V.int (j : Int), u]) hT2
        have hqn2 := ((hqn.mono sH.n).mono s3.n).mono s4.n
        have q0 := ((hr3 row (mem_get hrow)).2 q (mem_get hq)).1
        obtain ⟨dt, hd1, hd2, hd3⟩ := hqn2.dp0 (K := K)
        refine ⟨_, rfl, dt, .int 0, hd1, .int 0, hd2, rfl, _, rfl, ?_⟩
        rw [hd3, decide_eq_false q0]
        refine iteT ⟨_, rfl, _, rfl, (by show 2 ≤ sizeLine; decide), fun t nt => ?_⟩
        have s5 := Same.of_new (o := .tup [u, V.int (j : Int)]) nt
        have sDt := (s4.trans s5)
        refine hR _ _ (sDt _ _ hDa) ?_
        have sn : SameN (L2.upd (L2.upd H2 T2 (.tup [V.int (j : Int), u])) t (.tup [u, V.int (j : Int)])) (L2.upd (L2.upd (L2.upd H2 T2 (.tup [V.int (j : Int), u])) t (.tup [u, V.int (j : Int)])) D (.lst (acc ++ [.ref t]))) := SameN.lst (sDt _ _ hDa)
        refine ⟨SameB.back ((s3.trans sDt)) hD SameB.upd, ?_⟩
        have hsj : (steps row)[j]? = some (q, j) := by
          have hj : j < row.length := (List.getElem?_eq_some_iff.mp hq).1
          unfold steps
          rw [List.getElem?_map, List.getElem?_range hj, Option.map_some, List.getD_eq_getElem?_getD, hq]; rfl
        rw [take_snoc hsj]
        refine paired_append (Paired.mapP ha fun _ _ z => (z.n sDt.n).n sn) (.cons ⟨u, ?_, (hqn2.mono s5.n).mono sn⟩ .nil)
        exact SqK.n ⟨t, rfl, upd_same⟩ sn
      · rintro D H2 acc hD hDa ⟨s3, ha⟩
        have hst : (steps row).take zs.length = steps row := List.take_of_length_le (by simp [steps, hzl])
        rw [hst] at ha
        have hal := ha.length
        have hsl : (steps row).length = g := by simp [steps, hrl]
        have hF2 := s3 _ _ hF
        have hw2 := WaysAt.n hw s3.n
        refine u_gname ?_
        dsimp only
        refine u_asg ?_
        refine lc2_seq (H1 := H2) (v := .ref F) (b := true) (xs := ys) (tl2 := tVar 3) ?_ (SqK.lst hF2) (fun E i' H3 acc' => Same H2 H3 ∧ Paired (WayAt H3) acc' (stepW ((ways (ps.take i)).take i') row)) (fun E i' j H3 acc' => Same H2 H3 ∧ (∃ z, (ways (ps.take i))[i']? = some z ∧ j ≤ g ∧ i' ≤ 27 ∧ Paired (WayAt H3) acc' (stepW ((ways (ps.take i)).take i') row ++ (stepZ row z).take j))) ?_ ?_ ?_ ?_ ?_
        · exact gives_var rfl
        · exact fun E i' H3 acc' h => (SqK.lst hF2).same h.1
        · exact fun E hE => ⟨Same.of_new hE, by simp [stepW]; exact .nil⟩
        · rintro E i' j H3 acc' ⟨_, z, hz', hj, hi27, hp⟩
          rw [hp.length, List.length_append, stepW_len, List.length_take, List.length_take, hrl]
          have h1 : min i' (ways (ps.take i)).length * g ≤ 27 * 3 := Nat.mul_le_mul (by omega) hg
          have h2 : min j (stepZ row z).length ≤ 3 := by omega
          omega
        · rintro E i' u H3 acc' hu hE hEa ⟨s4, hp⟩
          obtain ⟨z, hz', vq, vw, su, hq, hvw⟩ := paired_get hw2 hu
          obtain ⟨pu, rfl, hpu⟩ := su.same s4
          have hi27 : i' ≤ 27 := by
            have := (List.getElem?_eq_some_iff.mp hz').1
            omega
          refine ⟨[some v, some (.ref F), some x, some (.ref D), none, none, some vq, some vw], rfl, ?_, .ref D, true, acc, ?_, (SqK.lst hDa).same s4, ⟨s4, z, hz', by omega, hi27, by simpa using hp⟩, ?_, ?_, ?_⟩
          · exact fun Q q => gPair_new hpu q
          · exact gives_var rfl
          · exact fun j H5 acc5 h => (SqK.lst hDa).same h.1
          · rintro j u2 H5 acc5 R hu2 hEa5 ⟨s5, z', hz2, hj, _, hp5⟩ hR
            rw [hz'] at hz2; cases hz2
            obtain ⟨⟨q, gd⟩, hst2, vq2, su2, hq2⟩ := paired_get ha hu2
            obtain ⟨pu2, rfl, hpu2⟩ := su2.same s5
            have hjl : j < row.length := by
              have := (List.getElem?_eq_some_iff.mp hst2).1
              rw [hsl] at this; omega
            have hqe : q = row.getD j 0 ∧ gd = j := by
              unfold steps at hst2
              rw [List.getElem?_map, List.getElem?_range hjl] at hst2
              have := Option.some.inj hst2
              exact ⟨(congrArg Prod.fst this).symm, (congrArg Prod.snd this).symm⟩
            obtain ⟨rfl, rfl⟩ := hqe
            refine ⟨[some v, some (.ref F), some x, some (.ref D), some (.int (gd : Int)), some vq2, some vq, some vw], rfl, fun Q q => gPair_new hpu2 q, ?_⟩
            have hmem : row.getD gd 0 ∈ row := by
              rw [List.getD_eq_getElem?_getD, List.getElem?_eq_getElem hjl]; exact List.getElem_mem hjl
            refine ⟨_, rfl, _, rfl, _, _, z.1, row.getD gd 0, rfl, hq.mono s5.n, hq2.mono s5.n, szw (by omega) z (mem_get hz'), szq row (mem_get hrow) _ hmem, fun y H6 s6 hy => ?_⟩
            obtain ⟨pw, rfl, hpw⟩ := (hvw.same s5).same s6
            refine ⟨_, rfl, pw, _, rfl, .inl (SqT.of hpw), _, rfl, ?_, fun t nt => ?_⟩
            · rw [List.length_append, List.length_map]
              have hzw : z.2.length ≤ 1000 := by rw [(ways_word i hlen (by omega) z (mem_get hz')).1]; omega
              exact Nat.le_trans (by simp; omega : _ ≤ 1001) (by decide)
            have s7 := Same.of_new (o := .tup (z.2.map (fun i => V.int ((i : Nat) : Int)) ++ [V.int (gd : Int)])) nt
            refine ⟨(by show 2 ≤ sizeLine; decide), fun t2 nt2 => ?_⟩
            have s8 := Same.of_new (o := .tup [y, V.ref t]) nt2
            have s678 := (s6.trans s7).trans s8
            refine hR _ _ (s678 _ _ hEa5) ?_
            have sn : SameN (L2.upd (L2.upd H6 t (.tup (z.2.map (fun i => V.int ((i : Nat) : Int)) ++ [V.int (gd : Int)]))) t2 (.tup [y, V.ref t])) (L2.upd (L2.upd (L2.upd H6 t (.tup (z.2.map (fun i => V.int ((i : Nat) : Int)) ++ [V.int (gd : Int)]))) t2 (.tup [y, V.ref t])) E (.lst (acc5 ++ [.ref t2]))) := SameN.lst (s678 _ _ hEa5)
            refine ⟨SameB.back (s5.trans s678) hE SameB.upd, z, hz', by omega, hi27, ?_⟩
            have hzj : (stepZ row z)[gd]? = some (z.1 * row.getD gd 0, z.2 ++ [gd]) := by
              unfold stepZ
              rw [List.getElem?_map, List.getElem?_range hjl]; rfl
            rw [take_snoc hzj, ← List.append_assoc]
            refine paired_append (Paired.mapP hp5 fun _ _ z => (z.n s678.n).n sn) (.cons ⟨y, .ref t, SqK.n ⟨t2, rfl, upd_same⟩ sn, ((hy.mono s7.n).mono s8.n).mono sn, ?_⟩ .nil)
            refine SqK.n ⟨t, rfl, ?_⟩ sn
            rw [s8 _ _ upd_same]
            simp [sqO]
          · rintro H5 acc5 hEa5 ⟨s5, z', hz2, _, _, hp5⟩
            rw [hz'] at hz2; cases hz2
            refine ⟨s5, ?_⟩
            rw [stepW_take hz']
            have hst : (stepZ row z).take acc.length = stepZ row z := List.take_of_length_le (by rw [hal, hsl]; simp [stepZ, hrl])
            rwa [hst] at hp5
        · rintro E H3 acc' hE hEa ⟨s4, hp⟩
          refine ⟨E, acc', _, _, rfl, (sH.trans s3).trans s4, hEa, ?_⟩
          rw [ways_take hrow]
          rw [hw.length, take_all] at hp
          exact hp
    · rintro σ' H' ⟨F, ys, y1, y2, rfl, sH, hF, hw⟩
      rw [hlx, take_all] at hw
      exact ⟨_, rfl, k F H' ys sH hF hw⟩
end
end Hp
namespace Hp
set_option Elab.async false
set_option linter.all false
set_option maxRecDepth 100000
set_option maxHeartbeats 4000000
open PySem PySem.Spec PyProof.Rows L2 NdefX
section
variable {K : PySem.W.Frag} {tl : TE} {σ : L2.St} {H : Hp} {b : Bool} {D : Ends}
/-- a sequence of pairs that is made there is walked -/
theorem for_pairsX {i j : Nat} {tb : TS} (Good : V → Hp → List V → Prop) (he : ∀ R : VK, (∀ v H1 xs, Good v H1 xs → R v H1) → tl σ H R) (sq : ∀ v H1 xs, Good v H1 xs → SqK b H1 v xs) (Pv : V → Hp → List V → Nat → L2.St → Hp → Prop) (h0 : ∀ v H1 xs, Good v H1 xs → Pv v H1 xs 0 σ H1) (hl : ∀ v H1 xs i σ' H', Good v H1 xs → i ≤ xs.length → Pv v H1 xs i σ' H' → SqK b H' v xs)
    (hs : ∀ v H1 xs k x σ' H', Good v H1 xs → xs[k]? = some x → Pv v H1 xs k σ' H' → ∃ y z, SqK false H' x [y, z] ∧ tb { D with nx := Pv v H1 xs (k + 1), ct := Pv v H1 xs (k + 1), bk := D.nx } ((σ'.set i (some y)).set j (some z)) H') (hd : ∀ v H1 xs σ' H', Good v H1 xs → Pv v H1 xs xs.length σ' H' → D.nx σ' H') : tFor (iSeq K tl) (gPair K i j) tb D σ H := by
  cases b
  · refine .inr (he _ fun v H1 xs hv => ?_)
    obtain ⟨p, rfl, hp⟩ := sq v H1 xs hv
    refine ⟨p, rfl, ⟨xs, SqT.of hp⟩, for_it walk_tup (Pv (.ref p) H1 xs) (h0 _ _ _ hv) (fun i σ' H' hi q => ?_) (fun k x σ' H' H'' _ q y => ?_) (fun σ' H' => hd _ _ _ σ' H' hv)⟩
    · obtain ⟨p', e, h⟩ := hl _ _ _ i σ' H' hv hi q
      cases e; exact SqT.of h
    · obtain ⟨rfl, hx⟩ := y
      obtain ⟨y, z, ⟨T, rfl, hT⟩, q⟩ := hs _ _ _ k x σ' _ hv hx q
      exact gPair_new hT q
  · refine .inl (he _ fun v H1 xs hv => ?_)
    obtain ⟨p, rfl, hp⟩ := sq v H1 xs hv
    refine ⟨p, rfl, ⟨xs, SqL.of hp⟩, for_it walk_list (Pv (.ref p) H1 xs) (h0 _ _ _ hv) (fun i σ' H' hi q => ?_) (fun k x σ' H' H'' _ q y => ?_) (fun σ' H' => hd _ _ _ σ' H' hv)⟩
    · obtain ⟨p', e, h⟩ := hl _ _ _ i σ' H' hv hi q
      cases e; exact SqL.of h
    · obtain ⟨rfl, hx⟩ := y
      obtain ⟨y, z, ⟨T, rfl, hT⟩, q⟩ := hs _ _ _ k x σ' _ hv hx q
      exact gPair_new hT q
end
/-- the rows of a word -/
def rowsOf (rs : List (List Rat)) (w : List Nat) : List (List Rat) := w.map fun i => rs.getD i []
theorem rowsOf_append (rs : List (List Rat)) (a b : List Nat) : rowsOf rs (a ++ b) = rowsOf rs a ++ rowsOf rs b := List.map_append ..
/-- the sum over all words behind these rows -/
def over (n : Nat) (p : Pr) (rs : List (List Rat)) (ahead : List Nat) (ps : List (List Rat)) : Rat := rsum ((ways ps).map fun z => z.1 * worth n p (rowsOf rs (ahead ++ z.2)))
def RsOk (g : Nat) (rs : List (List Rat)) : Prop := rs.length = g ∧ ∀ r ∈ rs, DayOk g r
theorem RsOk.mk {g : Nat} {rs : List (List Rat)} (h : RsOk g rs) {w : List Nat} (hw : ∀ i ∈ w, i < g) (hl : w.length ≤ 3) : MkOk g (rowsOf rs w) := by
  refine ⟨by simp [rowsOf]; exact hl, fun d hd => ?_⟩
  unfold rowsOf at hd
  obtain ⟨i, hi, rfl⟩ := List.mem_map.mp hd
  have : i < rs.length := by rw [h.1]; exact hw i hi
  rw [List.getD_eq_getElem?_getD, List.getElem?_eq_getElem this]
  exact h.2 _ (List.getElem_mem this)
theorem big27 {D N : Nat} (hD : D.log2 < 2500) (hN : N.log2 < 2500) : D.log2 < 4000 ∧ (27 * N).log2 < 400000 := by
  have := log2_mul_le 27 N
  have h3 : (27 : Nat).log2 = 4 := by decide
  omega
section
variable {P : Program} {w : World} {K : PySem.W.Frag} {mg : Str → Option Value} {base : Heap}
/-- the rows of a word, as a comprehension makes them -/
theorem lc_rows {T : Wd K mg base} {σ : L2.St} {H : Hp} {vc vw : V} {b : Bool} {tl : TE} {Q : VK} {rs : List (List Rat)} {ws : List Rat} {wd : List Nat} (hc : CorAt K H vc rs ws) (he : Gives tl σ H vw H) (sw : SqK b H vw (wd.map fun i => V.int ((i : Nat) : Int))) (hw : ∀ i ∈ wd, i < rs.length) (hl : wd.length ≤ 100)
    {vs : List Nat} {kc : Nat} (hg : ∀ x : V, ((wipe σ vs).set 8 (some x))[kc]? = some (some vc)) (h8 : ∀ x : V, ((wipe σ vs).set 8 (some x))[8]? = some (some x)) (hwi : ∀ x, wipe ((wipe σ vs).set 8 (some x)) vs = wipe σ vs)
    (k : ∀ D H' zs, Same H H' → H' D = some (.lst zs) → RowsAt H' zs (rowsOf rs wd) → Q (.ref D) H') : tLc (iSeq K tl) (gName 8) tYes (tOp (rIx K) (tFld K (tVar kc) "rows") (tVar 8)) vs σ H Q := by
  obtain ⟨fs, vr, xr, vww, hi, l1, sr, hr, l2, _, _⟩ := hc
  obtain ⟨a, dx, rfl, hi'⟩ := id hi
  have hrl := hr.length
  refine lc_seq (H1 := H) (v := vw) he sw (by rw [List.length_map]; omega) (fun D i H' z => ∀ j, wd[i]? = some j → RowAt H' z (rs.getD j [])) (fun D i H1 H2 z c h j hj => (h j hj).n c.n) ?_ ?_ hwi
  · intro D i x H' R hx hD s1 hDn hR
    rw [List.getElem?_map] at hx
    obtain ⟨j, hj, rfl⟩ := Option.map_eq_some_iff.mp hx
    have hjl : j < xr.length := by rw [hrl]; exact hw j (List.mem_of_getElem? hj)
    have hg' : xr[j]? = some xr[j] := by simp
    obtain ⟨r, hr2, hrow⟩ := paired_get hr hg'
    refine ⟨_, hg _, a, _, dx, fs, _, rfl, s1 _ _ hi', T.c_Corner, T.n_Corner_rows, l1, _, h8 _, ixOf (i := j) (sr.same s1) hg' (hR _ _ (Same.refl _) fun j' hj' => ?_)⟩
    rw [hj] at hj'; cases hj'
    rw [List.getD_eq_getElem?_getD, hr2]
    exact hrow.n s1.n
  · intro D H' zs hD s1 hDz hl2 hF
    refine k D H' zs s1 hDz (paired_of (by rw [hl2, List.length_map]; simp [rowsOf]) fun i z r hz hr3 => ?_)
    unfold rowsOf at hr3
    rw [List.getElem?_map] at hr3
    obtain ⟨j, hj, rfl⟩ := Option.map_eq_some_iff.mp hr3
    exact hF i z hz j hj
def sp_summed_in  : Sp :=  fun vs H Q _ => ∃ vp vc va vo b b2 g n p rs ws ahead xs ps C N, vs = [vp, vc, va, vo] ∧ PrAt K g n H vp p ∧ PrOk g n p ∧ n ≤ 3 ∧ 1 ≤ g ∧ g ≤ 3 ∧ CorAt K H vc rs ws ∧ RsOk g rs ∧ SqK b H va (ahead.map fun i => V.int ((i : Nat) : Int)) ∧ (∀ i ∈ ahead, i < g) ∧ SqK b2 H vo xs ∧ RowsAt H xs ps ∧ ahead.length + ps.length ≤ 3 ∧ (∀ r ∈ ps, r.length = g ∧ ∀ q ∈ r, q ≠ 0 ∧ Bd C N q) ∧ 0 < C ∧ 0 < N ∧ (C ^ 3).log2 < 1000 ∧ (N ^ 3).log2 < 1000 ∧ ∀ x H', Same H H' → Num H' x (over n p rs ahead ps) → Q x H'
theorem sc_summed_in : FnScope ["promise", "corner", "ahead", "portions", "front", "found", "number", "word", "good"] ["promise", "corner", "ahead", "portions"] (defScope s_summed_in) := ⟨rfl, rfl, rfl, by decide +kernel, rfl, by decide +kernel, by decide +kernel⟩
theorem c_summed_in (T : Wd K mg base) : Cal P w K mg base 13 "summed_in" (sp_summed_in (K := K)) [] := by
  obtain ⟨fd, F⟩ := T.d_summed_in
  refine mkCal (k := 13 - 1) F T.g_summed_in sc_summed_in (F.bindsN fun _ _ _ _ _ _ us hl => match us, hl with | [_, _, _, _], _ => rfl) (fun vs H Q E h => ?_) (fun cdv A outer s H vs Q E hr h => ?_)
  · rcases h with ⟨vp, vc, va, vo, b, b2, g, n, p, rs, ws, ahead, xs, ps, C, N, rfl, hp, hok, hn, hg1, hg, hcor, hrs, sa, ha, so, hx, hal, hr3, C0, N0, szC, szN, k⟩ <;> rfl
  · rcases h with ⟨vp, vc, va, vo, b, b2, g, n, p, rs, ws, ahead, xs, ps, C, N, rfl, hp, hok, hn, hg1, hg, hcor, hrs, sa, ha, so, hx, hal, hr3, C0, N0, szC, szN, k⟩
    refine ⟨_, (pss_cons (ps_setLc (i := 4) (own := [("good", 8)]) rfl sc_summed_in.nd rfl rfl (sw_true rfl rfl rfl (by decide +kernel)) (pi_seq (pv 2)) (blkOk_by (own := [("good", 8)]) (N := ["promise", "corner", "ahead", "portions", "front", "found", "number", "word", "good"]) (sc := defScope s_summed_in) (by decide +kernel)) (fun _ _ _ _ _ => by exact (pg_name (i := 8) sc_summed_in.nd rfl (by first | exact Or.inl rfl | exact Or.inr rfl))) (fun _ _ _ _ _ => by exact pts_nil) (fun _ _ _ _ _ => by exact (pe_ix (ixK (K := K) rfl) (fldK (K := K) rfl (pv 1) rfl) (pv 8) (fun _ _ => rfl))))
  (pss_cons (ps_set (i := 5) sc_summed_in.nd rfl (Or.inl rfl) (pe_lst pa_nil))
  (pss_cons (ps_for PassesOwn.never rfl (pi_seq (pe_c (c_ways_by T) hr (by decide) rfl (pa_cons (pv 3) pa_nil))) (pg_tup rfl (pgs_cons (pg_name (i := 6) sc_summed_in.nd rfl (Or.inl rfl)) (pgs_cons (pg_name (i := 7) sc_summed_in.nd rfl (Or.inl rfl)) pgs_nil)))
  (pss_one (ps_expr (pe_bm PySem.F.plainAttrs_list PySem.F.slot_list_append PySem.F.type_list_append mt_append (pv 5) (pa_cons (pe_c (c_product T) hr (by decide) rfl (pa_cons (pv 6) (pa_cons (pe_c (c_worth_in T n) hr (by omega) rfl (pa_cons (pv 0) (pa_cons (pe_lst (StX.pa_star (pv 4) (StX.pa_star (pe_lc (own := [("good", 8)]) rfl sc_summed_in.nd (pi_seq (pv 7)) (blkOk_by (own := [("good", 8)]) (N := ["promise", "corner", "ahead", "portions", "front", "found", "number", "word", "good"]) (sc := defScope s_summed_in) (by decide +kernel)) (fun _ _ _ _ _ => by exact (pg_name (i := 8) sc_summed_in.nd rfl (by first | exact Or.inl rfl | exact Or.inr rfl))) (fun _ _ _ _ _ => by exact pts_nil) (fun _ _ _ _ _ => by exact (pe_ix (ixK (K := K) rfl) (fldK (K := K) rfl (pv 1) rfl) (pv 8) (fun _ _ => rfl)))) pa_nil))) pa_nil))) pa_nil))) pa_nil)))))
  (pss_one (ps_ret (pe_c (c_total T) hr (by decide) rfl (pa_cons (pv 5) pa_nil))))))), ?_⟩
    obtain ⟨n', rfl⟩ : ∃ n', n = n' + 1 := by
      cases n with
      | zero => exact absurd hp (fun z => z)
      | succ n => exact ⟨n, rfl⟩
    have hlen : ∀ r ∈ ps, r.length = g := fun r hr => (hr3 r hr).1
    have hbd : ∀ r ∈ ps, ∀ q ∈ r, Bd C N q := fun r hr q hq => ((hr3 r hr).2 q hq).2
    refine u_seq (u_asg ?_)
    refine lc_rows (T := T) (kc := 1) hcor (gives_var rfl) sa (by rw [hrs.1]; exact ha) (by omega) (fun _ => rfl) (fun _ => rfl) (fun _ => rfl) fun F H1 zs s1 hF hfr => ?_
    refine ⟨(by show 0 ≤ sizeLine; decide), fun D nD => ?_⟩
    have s2 := Same.of_new (o := .lst []) nD
    have hD0 : (L2.upd H1 D (.lst [])) D = some (.lst []) := upd_same
    have s12 := s1.trans s2
    have hF2 := s2 _ _ hF
    have hfr2 := hfr.n s2.n
    have FD : F ≠ D := fun e => by rw [e] at hF; rw [hF] at nD; cases nD
    generalize L2.upd H1 D (.lst []) = H2 at s2 hD0 s12 hF2 hfr2 ⊢
    have hwlen := ways_len ps.length hlen (Nat.le_refl _)
    rw [List.take_length] at hwlen
    have hwbd := ways_bd ps.length hbd (Nat.le_refl _)
    rw [List.take_length] at hwbd
    have hwwd := ways_word ps.length hlen (Nat.le_refl _)
    rw [List.take_length] at hwwd
    have hgi : g ^ ps.length ≤ 27 := Nat.le_trans (Nat.pow_le_pow_left hg _) (Nat.le_trans (Nat.pow_le_pow_right (by decide) (by omega : ps.length ≤ 3)) (by decide))
    have wsz : ∀ z ∈ ways ps, Sz (worth (n' + 1) p (rowsOf rs (ahead ++ z.2))) ∧ Bd (DW n') (NW n') (worth (n' + 1) p (rowsOf rs (ahead ++ z.2))) := fun z hz => by
      obtain ⟨h1, h2⟩ := hwwd z hz
      have hmk : MkOk g (rowsOf rs (ahead ++ z.2)) := hrs.mk (fun i hi => by
        rcases List.mem_append.mp hi with h | h
        · exact ha i h
        · exact h2 i h) (by rw [List.length_append, h1]; exact hal)
      exact ⟨worth_sz hg (by omega) hok hmk, worth_bd hg hok hmk⟩
    have cL := pow_log (k := ps.length) C0 (by omega : ps.length ≤ 3) szC
    have nL := pow_log (k := ps.length) N0 (by omega : ps.length ≤ 3) szN
    have dz := DW_sz (n := n') (by omega)
    have tb : ∀ q ∈ (ways ps).map (fun z => z.1 * worth (n' + 1) p (rowsOf rs (ahead ++ z.2))), Bd (C ^ ps.length * DW n') (N ^ ps.length * NW n') q := fun q hq => by
      obtain ⟨z, hz, rfl⟩ := List.mem_map.mp hq
      exact (hwbd z hz).mul (wsz z hz).2
    refine for_pairsX (b := true) (fun v' H3 ys => Same H2 H3 ∧ SqK true H3 v' ys ∧ v' ≠ .ref D ∧ Paired (WayAt H3) ys (ways ps)) ?_ (fun v' H3 ys h => h.2.1) (fun v' H3 ys i σ' H' => ∃ x y zs', σ' = [some vp, some vc, some va, some vo, some (.ref F), some (.ref D), x, y, none] ∧ SameB D H3 H' ∧ H' D = some (.lst zs') ∧ Nums H' zs' (((ways ps).map fun z => z.1 * worth (n' + 1) p (rowsOf rs (ahead ++ z.2))).take i)) ?_ ?_ ?_ ?_
    · intro R hR
      refine ⟨_, rfl, b2, vo, xs, ps, g, C, N, rfl, so.same s12, hx.n s12.n, by omega, hg, hr3, C0, N0, Nat.lt_trans szC (by decide), Nat.lt_trans szN (by decide), fun W H3 ys s3 hW hw => hR _ _ ys ⟨s3, SqK.lst hW, ?_, hw⟩⟩
      intro e
      cases e
      have h1 := s3 _ _ hD0
      rw [h1] at hW
      cases hW
      have := hw.length
      rw [hwlen] at this
      have : 0 < g ^ ps.length := Nat.pow_pos (by omega)
      simp at *; omega
    · rintro v' H3 ys ⟨s3, sv, hne, hw⟩
      exact ⟨_, _, [], rfl, SameB.of (Same.refl _), s3 _ _ hD0, by simp; exact .nil⟩
    · rintro v' H3 ys i σ' H' ⟨s3, ⟨W, rfl, hW⟩, hne, hw⟩ _ ⟨x, y, zs', rfl, sb, hD, hz⟩
      exact ⟨W, rfl, sb _ _ (fun e => hne (by rw [e])) hW⟩
    · rintro v' H3 ys i x σ' H' ⟨s3, sv, hne, hw⟩ hxi ⟨x1, y1, zs', rfl, sb, hD, hz⟩
      obtain ⟨z, hzz, vq, vw, su, hq, hvw⟩ := paired_get hw hxi
      have sn : SameN H3 H' := fun a o ha hno => sb a o (fun e => by rw [e, s3 _ _ hD0] at ha; cases ha; exact hno _ rfl) ha
      refine ⟨vq, vw, su.n sn, ?_⟩
      have sH : Same H H' := s1.trans (SameB.back s2 nD ((SameB.of s3).trans sb))
      have hF' : H' F = some (.lst zs) := sb _ _ FD (s3 _ _ hF2)
      refine ⟨_, rfl, .inl ⟨rfl, zs', SqL.of hD⟩, _, rfl, _, rfl, _, rfl, F, zs, rfl, .inr (SqL.of hF'), ?_⟩
      obtain ⟨h1, h2⟩ := hwwd z (mem_get hzz)
      refine lc_rows (T := T) (kc := 1) (hcor.n sH.n) (gives_var rfl) (hvw.n sn) (by rw [hrs.1]; exact h2) (by omega) (fun _ => rfl) (fun _ => rfl) (fun _ => rfl) fun E H5 zs5 s5 hE hE5 => ?_
      have hF5 := s5 _ _ hF'
      have hrows : RowsAt H5 (zs ++ (zs5 ++ [])) (rowsOf rs (ahead ++ z.2)) := by
        rw [List.append_nil, rowsOf_append]
        exact paired_append ((hfr2.n s3.n).n sn |>.n s5.n) hE5
      refine ⟨E, zs5, rfl, .inr (SqL.of hE), ?_, fun q nq => ?_⟩
      · have e1 := hrows.length
        have e2 : (rowsOf rs (ahead ++ z.2)).length ≤ 3 := by simp [rowsOf, h1]; exact hal
        exact Nat.le_trans (by omega : _ ≤ 3) (by decide)
      have s6 := Same.of_new (o := .lst (zs ++ (zs5 ++ []))) nq
      have s56 := s5.trans s6
      have sH6 := sH.trans s56
      have hmk : MkOk g (rowsOf rs (ahead ++ z.2)) := hrs.mk (fun i hi => by
        rcases List.mem_append.mp hi with h | h
        · exact ha i h
        · exact h2 i h) (by rw [List.length_append, h1]; exact hal)
      refine ⟨true, _, _, _, rowsOf rs (ahead ++ z.2), p, g, rfl, hp.n sH6.n, hok, hg, hn, SqK.lst upd_same, hrows.n s6.n, hmk, fun y H7 s7 hy => ?_⟩
      refine ⟨_, _, z.1, _, rfl, ((hq.mono sn).mono s56.n).mono s7.n, hy, ?_, (wsz z (mem_get hzz)).1, fun y2 H8 s8 hy2 => ?_⟩
      · exact (hwbd z (mem_get hzz)).sz (Nat.pow_pos C0) (Nat.lt_trans cL (by decide)) (Nat.lt_trans nL (by decide))
      have s568 := (s56.trans s7).trans s8
      have hD8 := s568 _ _ hD
      have hzl := hz.length
      refine ⟨D, zs', y2, rfl, rfl, hD8, ?_, ?_⟩
      · have : zs'.length ≤ 27 := by rw [hzl, List.length_take, List.length_map, hwlen]; omega
        exact Nat.lt_of_le_of_lt this (by decide)
      · have sn9 : SameN H8 (L2.upd H8 D (.lst (zs' ++ [y2]))) := SameN.lst hD8
        refine ⟨_, _, _, rfl, (sb.trans (SameB.of s568)).trans SameB.upd, upd_same, ?_⟩
        have hget : ((ways ps).map fun z => z.1 * worth (n' + 1) p (rowsOf rs (ahead ++ z.2)))[i]? = some (z.1 * worth (n' + 1) p (rowsOf rs (ahead ++ z.2))) := by rw [List.getElem?_map, hzz]; rfl
        rw [take_snoc hget]
        exact paired_append ((hz.mono s568.n).mono sn9) (.cons (hy2.mono sn9) .nil)
    · rintro v' H3 ys σ' H' ⟨s3, sv, hne, hw⟩ ⟨x, y, zs', rfl, sb, hD, hz⟩
      have hyl : ys.length = ((ways ps).map fun z => z.1 * worth (n' + 1) p (rowsOf rs (ahead ++ z.2))).length := by rw [hw.length, List.length_map]
      rw [hyl, take_all] at hz
      have sH : Same H H' := s1.trans (SameB.back s2 nD ((SameB.of s3).trans sb))
      have bg := big27 (D := C ^ ps.length * DW n') (N := N ^ ps.length * NW n') (by have := log2_mul_le (C ^ ps.length) (DW n'); omega) (by have := log2_mul_le (N ^ ps.length) (NW n'); omega)
      refine ⟨_, rfl, true, _, zs', _, rfl, SqK.lst hD, hz, szsum_of (L := 27) tb (by rw [List.length_map, hwlen]; exact hgi) (by decide) (Nat.mul_pos (Nat.pow_pos C0) (DW_pos n')) bg.1 bg.2, fun x H5 s5 hx5 => k x H5 (sH.trans s5) hx5⟩
end
end Hp
namespace Hp
set_option Elab.async false
set_option linter.all false
set_option maxRecDepth 100000
set_option maxHeartbeats 4000000
open PySem PySem.Spec PyProof.Rows L2 NdefX
/-- the rest behind a word -/
def rest (n : Nat) (p : Pr) (rs : List (List Rat)) (ws : List Rat) (d : Nat) (w : List Nat) : Rat := over n p rs w (List.replicate (d - w.length) ws)
/-- the weights, with their sizes -/
def WsOk (g : Nat) (C N : Nat) (ws : List Rat) : Prop := ws.length = g ∧ (∀ q ∈ ws, q ≠ 0 ∧ Bd C N q) ∧ 0 < C ∧ 0 < N ∧ (C ^ 3).log2 < 1000 ∧ (N ^ 3).log2 < 1000
theorem rows_rep {H : Hp} {v : V} {r : List Rat} (h : RowAt H v r) : ∀ k, RowsAt H (List.replicate k [v]).flatten (List.replicate k r)
  | 0 => .nil
  | k + 1 => .cons h (rows_rep h k)
section
variable {P : Program} {w : World} {K : PySem.W.Frag} {mg : Str → Option Value} {base : Heap}
def sp_rest_by  : Sp :=  fun vs H Q _ => ∃ vp vc vw b d g n p rs ws wd C N, vs = [vp, vc, .int ((d : Nat) : Int), vw] ∧ PrAt K g n H vp p ∧ PrOk g n p ∧ n ≤ 3 ∧ 1 ≤ g ∧ g ≤ 3 ∧ CorAt K H vc rs ws ∧ RsOk g rs ∧ WsOk g C N ws ∧ SqK b H vw (wd.map fun i => V.int ((i : Nat) : Int)) ∧ (∀ i ∈ wd, i < g) ∧ wd.length ≤ d ∧ d ≤ 3 ∧ ∀ x H', Same H H' → Num H' x (rest n p rs ws d wd) → Q x H'
theorem sc_rest_by : FnScope ["promise", "corner", "days", "word"] ["promise", "corner", "days", "word"] (defScope s_rest_by) := ⟨rfl, rfl, rfl, by decide +kernel, rfl, by decide +kernel, by decide +kernel⟩
theorem c_rest_by (T : Wd K mg base) : Cal P w K mg base 14 "rest_by" (sp_rest_by (K := K)) [] := by
  obtain ⟨fd, F⟩ := T.d_rest_by
  refine mkCal (k := 14 - 1) F T.g_rest_by sc_rest_by (F.bindsN fun _ _ _ _ _ _ us hl => match us, hl with | [_, _, _, _], _ => rfl) (fun vs H Q E h => ?_) (fun cdv A outer s H vs Q E hr h => ?_)
  · rcases h with ⟨vp, vc, vw, b, d, g, n, p, rs, ws, wd, C, N, rfl, hp, hok, hn, hg1, hg, hcor, hrs, ⟨hwl, hwb, C0, N0, szC, szN⟩, sw, hw, hwd, hd, k⟩ <;> rfl
  · rcases h with ⟨vp, vc, vw, b, d, g, n, p, rs, ws, wd, C, N, rfl, hp, hok, hn, hg1, hg, hcor, hrs, ⟨hwl, hwb, C0, N0, szC, szN⟩, sw, hw, hwd, hd, k⟩
    refine ⟨_, (pss_one (ps_ret (pe_c (c_summed_in T) hr (by decide) rfl (pa_cons (pv 0) (pa_cons (pv 1) (pa_cons (pv 3) (pa_cons (pe_op op_rep (pe_lst (pa_cons (pe_fld (pv 1) rfl) pa_nil)) (pe_op op_sub (pv 2) (pe_callB call_len_seq (by rfl) T.f_len (by decide +kernel) (pa_cons (pv 3) pa_nil)))) pa_nil))))))), ?_⟩
    obtain ⟨fs, vr, xr, vww, hi, l1, sr, hr, l2, hws, _⟩ := id hcor
    obtain ⟨a, dx, rfl, hi'⟩ := id hi
    obtain ⟨pw, rfl, hpw⟩ := id sw
    refine ⟨_, rfl, _, rfl, _, rfl, ?_⟩
    refine ⟨_, rfl, a, _, dx, fs, _, rfl, hi', T.c_Corner, T.n_Corner_weights, l2, (by show 1 ≤ sizeLine; decide), fun t nt => ?_⟩
    have s1 := Same.of_new (o := .lst [vww]) nt
    refine ⟨_, rfl, _, rfl, _, _, rfl, (sw.same s1).or, _, _, rfl, rfl, t, _, _, rfl, rfl, upd_same, by simp <;> omega, by simp <;> omega, ?_, fun t2 nt2 => ?_⟩
    · refine Nat.le_trans (?_ : _ ≤ 3) (by decide)
      simp; omega
    have s2 := Same.of_new (o := .lst (List.replicate ((d : Int) - ((wd.map fun i => V.int ((i : Nat) : Int)).length : Int)).toNat [vww]).flatten) nt2
    have e : ((d : Int) - ((wd.map fun i => V.int ((i : Nat) : Int)).length : Int)).toNat = d - wd.length := by simp
    rw [e] at s2 ⊢
    have s12 := s1.trans s2
    refine ⟨_, _, _, _, b, true, g, n, p, rs, ws, wd, _, List.replicate (d - wd.length) ws, C, N, rfl, hp.n s12.n, hok, hn, hg1, hg, hcor.n s12.n, hrs, sw.same s12, hw, SqK.lst upd_same, rows_rep (hws.n s12.n) _, by rw [List.length_replicate]; omega, fun r hr => ?_, C0, N0, szC, szN, fun x H3 s3 hx => k x H3 (s12.trans s3) hx⟩
    rw [List.eq_of_mem_replicate hr]
    exact ⟨hwl, hwb⟩
def sp_need_asked  : Sp :=  fun vs H Q _ => ∃ vp vc d g n p rs ws, vs = [vp, vc, .int ((d : Nat) : Int)] ∧ PrAt K g n H vp p ∧ CorAt K H vc rs ws ∧ rs.length = g ∧ d ≤ 1000 ∧ Q .non H
theorem sc_need_asked : FnScope ["promise", "corner", "days"] ["promise", "corner", "days"] (defScope s_need_asked) := ⟨rfl, rfl, rfl, by decide +kernel, rfl, by decide +kernel, by decide +kernel⟩
theorem c_need_asked (T : Wd K mg base) : Cal P w K mg base 5 "need_asked" (sp_need_asked (K := K)) [] := by
  obtain ⟨fd, F⟩ := T.d_need_asked
  refine mkCal (k := 5 - 1) F T.g_need_asked sc_need_asked (F.bindsN fun _ _ _ _ _ _ us hl => match us, hl with | [_, _, _], _ => rfl) (fun vs H Q E h => ?_) (fun cdv A outer s H vs Q E hr h => ?_)
  · rcases h with ⟨vp, vc, d, g, n, p, rs, ws, rfl, hp, hc, hg, hd, k⟩ <;> rfl
  · rcases h with ⟨vp, vc, d, g, n, p, rs, ws, rfl, hp, hc, hg, hd, k⟩
    refine ⟨_, (pss_cons (ps_expr (pe_c (c_need_promise0 T) hr (by decide) rfl (pa_cons (pv 0) pa_nil)))
  (pss_cons (ps_expr (pe_c (c_need_corner T) hr (by decide) rfl (pa_cons (pv 1) (pa_cons (pe_fld (pv 0) rfl) pa_nil))))
  (pss_one (ps_expr (pe_c (c_need_days T) hr (by decide) rfl (pa_cons (pv 2) pa_nil)))))), ?_⟩
    obtain ⟨kk, fs, inn, m, l, hb, _, _⟩ := hp.base
    obtain ⟨a, dx, rfl, hi⟩ := id hb.ins
    refine ⟨_, rfl, _, _, _, kk, g, inn, m, l, fs, rfl, hb, .inl rfl, ?_⟩
    refine ⟨_, rfl, _, rfl, a, _, dx, fs, _, rfl, hi, (T.pc kk).ok.cls, (T.pc kk).na "goods" (by simp), hb.goods, ?_⟩
    refine ⟨_, rs, ws, by rw [hg]; rfl, hc, ?_⟩
    exact ⟨_, rfl, _, rfl, by omega, by omega, k⟩
def sp_need_amounts  : Sp :=  fun vs H Q _ => ∃ b v xs qs g, vs = [v, .int ((g : Nat) : Int)] ∧ SqK b H v xs ∧ Nums H xs qs ∧ xs.length = g ∧ g ≤ 1000 ∧ ∀ p H', Same H H' → H' p = some (.tup xs) → Q (.ref p) H'
theorem sc_need_amounts : FnScope ["value", "goods", "each"] ["value", "goods"] (defScope s_need_amounts) := ⟨rfl, rfl, rfl, by decide +kernel, rfl, by decide +kernel, by decide +kernel⟩
theorem c_need_amounts (T : Wd K mg base) : Cal P w K mg base 4 "need_amounts" sp_need_amounts [] := by
  obtain ⟨fd, F⟩ := T.d_need_amounts
  refine mkCal (k := 4 - 1) F T.g_need_amounts sc_need_amounts (F.bindsN fun _ _ _ _ _ _ us hl => match us, hl with | [_, _], _ => rfl) (fun vs H Q E h => ?_) (fun cdv A outer s H vs Q E hr h => ?_)
  · rcases h with ⟨b, v, xs, qs, g, rfl, sx, hx, hl, hg, k⟩ <;> rfl
  · rcases h with ⟨b, v, xs, qs, g, rfl, sx, hx, hl, hg, k⟩
    refine ⟨_, (pss_cons (ps_if (PW.pt (pw_or (pt_not (pt_val (pe_c (c_is_list T) hr (by decide) rfl (pa_cons (pv 0) pa_nil)))) (pw_or (pt_cmpR op_ne (pe_callB call_len_seq (by rfl) T.f_len (by decide +kernel) (pa_cons (pv 0) pa_nil)) (pv 1) (nomark _)) (pw_or1 (pt_not (pt_val (pe_callB (cr_all rfl) (by rfl) T.f_all (by decide +kernel) (pa_cons (pe_lc (own := [("each", 2)]) rfl sc_need_amounts.nd (pi_seq (pv 0)) (blkOk_by (own := [("each", 2)]) (N := ["value", "goods", "each"]) (sc := defScope s_need_amounts) (by decide +kernel)) (fun _ _ _ _ _ => by exact (pg_name (i := 2) sc_need_amounts.nd rfl (by first | exact Or.inl rfl | exact Or.inr rfl))) (fun _ _ _ _ _ => by exact pts_nil) (fun _ _ _ _ _ => by exact (pe_c (c_is_number T) hr (by decide) rfl (pa_cons (pv 2) pa_nil)))) pa_nil)))))))) pss_never pss_nil)
  (pss_one (ps_ret (pe_c (c_kept_row T) hr (by decide) rfl (pa_cons (pv 0) pa_nil))))), ?_⟩
    obtain ⟨pv, rfl, _⟩ := id sx
    refine ⟨_, rfl, .inr ⟨_, _, rfl, sx.to, fun H1 s1 => ⟨_, rfl, iteF ?_⟩⟩⟩
    refine ⟨_, rfl, _, _, rfl, (sx.same s1).or, _, rfl, rfl, _, rfl, ?_⟩
    rw [decide_eq_true (show V.int (xs.length : Int) = V.int (g : Int) by rw [hl])]
    refine iteF ?_
    refine u_cb1 ?_
    refine lc_seq (H1 := H1) ?_ (sx.same s1) (by omega) (fun D i H' z => z = .bl true) (fun _ _ _ _ _ _ h => h) ?_ ?_ (fun _ => rfl)
    · exact gives_var rfl
    · intro D i x H' R hxi hD s3 hDn hR
      obtain ⟨q, hq, hxq⟩ := paired_get hx hxi
      exact ⟨_, rfl, x, q, rfl, hxq.mono (s1.trans s3).n, fun H4 s4 => hR _ _ s4 rfl⟩
    · intro D H' zs hD s3 hDz hl2 hF
      refine ⟨_, _, rfl, SqL.of (by rw [← all_true hF]; exact hDz), ?_⟩
      rw [all_rep]
      refine ⟨_, rfl, iteF ?_⟩
      have s13 := s1.trans s3
      exact ⟨_, rfl, b, _, xs, qs, rfl, sx.same s13, hx.mono s13.n, by omega, fun p H4 s4 _ hp => k p H4 (s13.trans s4) hp⟩
def sp_need_told  : Sp :=  fun vs H Q _ => ∃ vp vc d g n p rs ws z, vs = [vp, vc, .int ((d : Nat) : Int), .bl true, z] ∧ PrAt K g n H vp p ∧ n ≤ 3 ∧ CorAt K H vc rs ws ∧ rs.length = g ∧ g ≤ 3 ∧ d ≤ 3 ∧ ∀ H', Same H H' → Q .non H'
theorem sc_need_told : FnScope ["promise", "corner", "days", "is_fit", "part"] ["promise", "corner", "days", "is_fit", "part"] (defScope s_need_told) := ⟨rfl, rfl, rfl, by decide +kernel, rfl, by decide +kernel, by decide +kernel⟩
theorem c_need_told (T : Wd K mg base) : Cal P w K mg base 8 "need_told" (sp_need_told (K := K)) [] := by
  obtain ⟨fd, F⟩ := T.d_need_told
  refine mkCal (k := 8 - 1) F T.g_need_told sc_need_told (F.bindsN fun _ _ _ _ _ _ us hl => match us, hl with | [_, _, _, _, _], _ => rfl) (fun vs H Q E h => ?_) (fun cdv A outer s H vs Q E hr h => ?_)
  · rcases h with ⟨vp, vc, d, g, n, p, rs, ws, z, rfl, hp, hn, hc, hg, hg3, hd, k⟩ <;> rfl
  · rcases h with ⟨vp, vc, d, g, n, p, rs, ws, z, rfl, hp, hn, hc, hg, hg3, hd, k⟩
    refine ⟨_, (pss_cons (ps_expr (pe_c (c_need_no_best T) hr (by decide) rfl (pa_cons (pv 0) pa_nil)))
  (pss_cons (ps_if (pt_not (pt_val (pv 3))) pss_never pss_nil)
  (pss_one (ps_expr (pe_c (c_need_few_words T) hr (by decide) rfl (pa_cons (pe_fld (pv 1) rfl) (pa_cons (pv 2) pa_nil))))))), ?_⟩
    refine ⟨_, rfl, vp, p, g, n, rfl, hp, hn, fun H1 s1 => ?_⟩
    refine ⟨_, rfl, _, rfl, iteF ?_⟩
    obtain ⟨fs, vr, xr, vww, hi, l1, sr, hr, l2, hws, lg⟩ := hc.n s1.n
    obtain ⟨a, dx, rfl, hi'⟩ := id hi
    exact ⟨_, rfl, a, _, dx, fs, _, rfl, hi', T.c_Corner, T.n_Corner_goods, lg, _, rfl, g, d, by rw [hg]; rfl, hg3, hd, k _ s1⟩
end
end Hp
namespace Hp
set_option Elab.async false
set_option linter.all false
set_option maxRecDepth 100000
set_option maxHeartbeats 4000000
open PySem PySem.Spec PyProof.Rows L2 NdefX
theorem over_bd {g n : Nat} {p : Pr} {rs : List (List Rat)} {ahead : List Nat} {ps : List (List Rat)} {C N : Nat} (hok : PrOk g (n + 1) p) (hg : g ≤ 3) (hrs : RsOk g rs) (ha : ∀ i ∈ ahead, i < g) (hal : ahead.length + ps.length ≤ 3) (hr3 : ∀ r ∈ ps, r.length = g ∧ ∀ q ∈ r, q ≠ 0 ∧ Bd C N q) :
    Bd (C ^ ps.length * DW n) (27 * (N ^ ps.length * NW n)) (over (n + 1) p rs ahead ps) := by
  have hlen : ∀ r ∈ ps, r.length = g := fun r hr => (hr3 r hr).1
  have hbd : ∀ r ∈ ps, ∀ q ∈ r, Bd C N q := fun r hr q hq => ((hr3 r hr).2 q hq).2
  have hwlen := ways_len ps.length hlen (Nat.le_refl _)
  rw [List.take_length] at hwlen
  have hwbd := ways_bd ps.length hbd (Nat.le_refl _)
  rw [List.take_length] at hwbd
  have hwwd := ways_word ps.length hlen (Nat.le_refl _)
  rw [List.take_length] at hwwd
  have hgi : g ^ ps.length ≤ 27 := Nat.le_trans (Nat.pow_le_pow_left hg _) (Nat.le_trans (Nat.pow_le_pow_right (by decide) (by omega : ps.length ≤ 3)) (by decide))
  have tb : ∀ q ∈ (ways ps).map (fun z => z.1 * worth (n + 1) p (rowsOf rs (ahead ++ z.2))), Bd (C ^ ps.length * DW n) (N ^ ps.length * NW n) q := fun q hq => by
    obtain ⟨z, hz, rfl⟩ := List.mem_map.mp hq
    obtain ⟨h1, h2⟩ := hwwd z hz
    have hmk : MkOk g (rowsOf rs (ahead ++ z.2)) := hrs.mk (fun i hi => by
      rcases List.mem_append.mp hi with h | h
      · exact ha i h
      · exact h2 i h) (by rw [List.length_append, h1]; exact hal)
    exact (hwbd z hz).mul (worth_bd hg hok hmk)
  exact (Bd.rsum tb).mono (Nat.mul_le_mul_right _ (by rw [List.length_map, hwlen]; exact hgi))
/-- the sizes of a rest -/
def RD (C n : Nat) : Nat := C ^ 3 * DW n
def RN (C N n : Nat) : Nat := 27 * (N ^ 3 * C ^ 3 * NW n)
theorem rest_bd {g n d : Nat} {p : Pr} {rs : List (List Rat)} {ws : List Rat} {w : List Nat} {C N : Nat} (hok : PrOk g (n + 1) p) (hg : g ≤ 3) (hrs : RsOk g rs) (hws : WsOk g C N ws) (hw : ∀ i ∈ w, i < g) (hd : d ≤ 3) (hwd : w.length ≤ d) : Bd (RD C n) (RN C N n) (rest (n + 1) p rs ws d w) := by
  obtain ⟨hwl, hwb, C0, N0, _, _⟩ := hws
  have h := over_bd (ps := List.replicate (d - w.length) ws) hok hg hrs hw (by rw [List.length_replicate]; omega) (fun r hr => by rw [List.eq_of_mem_replicate hr]; exact ⟨hwl, hwb⟩)
  rw [List.length_replicate] at h
  have hk : d - w.length ≤ 3 := by omega
  refine h.to (C ^ (3 - (d - w.length))) ?_ ?_
  · unfold RD
    rw [Nat.mul_right_comm, ← Nat.pow_add, show d - w.length + (3 - (d - w.length)) = 3 by omega]
  · unfold RN
    rw [Nat.mul_assoc, Nat.mul_right_comm (N ^ _)]
    exact Nat.mul_le_mul_left _ (Nat.mul_le_mul_right _ (Nat.mul_le_mul (Nat.pow_le_pow_right N0 hk) (Nat.pow_le_pow_right C0 (by omega))))
theorem RD_sz {C N n : Nat} (hn : n ≤ 2) (hC : (C ^ 3).log2 < 1000) (hN : (N ^ 3).log2 < 1000) : (RD C n).log2 < 2100 ∧ (RN C N n).log2 < 3200 := by
  have dz := DW_sz hn
  have h1 := log2_mul_le (C ^ 3) (DW n)
  have h2 := log2_mul_le (N ^ 3 * C ^ 3) (NW n)
  have h3 := log2_mul_le (N ^ 3) (C ^ 3)
  have h4 := log2_mul_le 27 (N ^ 3 * C ^ 3 * NW n)
  have h5 : (27 : Nat).log2 = 4 := by decide
  unfold RD RN
  omega
theorem RD_pos {C n : Nat} (h : 0 < C) : 0 < RD C n := Nat.mul_pos (Nat.pow_pos h) (DW_pos n)
/-- drawn amounts -/
def AmOk (g : Nat) (am : List Rat) : Prop := am.length = g ∧ ∃ A M, 0 < A ∧ A.log2 < 3900 ∧ M.log2 < 50000 ∧ ∀ q ∈ am, Bd A M q
theorem AmOk.sz {g : Nat} {am : List Rat} (h : AmOk g am) : ∀ q ∈ am, Sz q := by
  obtain ⟨_, A, M, a0, a1, m1, hb⟩ := h
  exact fun q hq => (hb q hq).sz a0 (by omega) (by omega)
theorem AmOk.sum {g : Nat} {am : List Rat} (h : AmOk g am) (hg : g ≤ 3) : SzSum am := by
  obtain ⟨hl, A, M, a0, a1, m1, hb⟩ := h
  have h3 := log2_mul_le 3 M
  have h4 : (3 : Nat).log2 = 1 := by decide
  exact szsum_of (L := 3) hb (by omega) (by decide) a0 (by omega) (by omega)
theorem AmOk.dot {g : Nat} {am r : List Rat} (h : AmOk g am) (hg : g ≤ 3) (hr : DayOk g r) : SzSum (rmul am r) ∧ Sz (rdot am r) := by
  obtain ⟨hl, A, M, a0, a1, m1, hb⟩ := h
  have h1 : ∀ q ∈ rmul am r, Bd (A * 6) (M * 24) q := rmul_all fun x hx y hy => (hb x hx).mul (hr.2 y hy).2
  have h2 := log2_mul_le A 6
  have h3 := log2_mul_le M 24
  have h5 := log2_mul_le 3 (M * 24)
  have h6 : (6 : Nat).log2 = 2 := by decide
  have h7 : (24 : Nat).log2 = 4 := by decide
  have h8 : (3 : Nat).log2 = 1 := by decide
  refine ⟨szsum_of (L := 3) h1 (by rw [rmul_len]; omega) (by decide) (by omega) (by omega) (by omega), ?_⟩
  exact ((Bd.rsum h1).mono (N' := 3 * (M * 24)) (Nat.mul_le_mul_right _ (by rw [rmul_len]; omega))).sz (by omega) (by omega) (by omega)
/-- whether at a row less comes than the rest behind it -/
def short (n : Nat) (p : Pr) (rs : List (List Rat)) (ws : List Rat) (d : Nat) (w : List Nat) (am : List Rat) (i : Nat) : Bool := decide (rdot am (rs.getD i []) < rest n p rs ws d (w ++ [i]))
/-- a def that may raise -/
structure CalX (P : Program) (w : World) (K : PySem.W.Frag) (mg : Str → Option Value) (base : Heap) (k : Nat) (x : Str) (sp : Sp) (ks : List Str) (gV : List V → List V → List V) : Prop where
  ex : ∃ (f : Addr) (fd : FuncData) (ps : List Str) (g : List Value → List Value → List Value), FnOk P w K mg base (L2.CX P w) k f fd ps sp ∧ mg x = some (.ref f) ∧ PySem.W.keepIn K (.ref f) = true ∧ Binds K fd ps [] ∧ KBn K fd ps 0 ks g gV
theorem vals_rev {vs : List V} {us : List Value} (r : Vals vs us) : Vals vs.reverse us.reverse := by
  induction r with
  | nil => exact .nil
  | cons a t ih => rw [List.reverse_cons, List.reverse_cons]; exact ih.append (.cons a .nil)
section
variable {P : Program} {w : World} {K : PySem.W.Frag} {mg : Str → Option Value} {base : Heap}
def sp_robbed (K : PySem.W.Frag) : Sp := fun vs H Q E => ∃ vp vc vw va b b2 d g n p rs ws wd xs am C N, vs = [vp, vc, .int ((d : Nat) : Int), vw, va] ∧ PrAt K g n H vp p ∧ PrOk g n p ∧ n ≤ 3 ∧ 1 ≤ g ∧ g ≤ 3 ∧ CorAt K H vc rs ws ∧ RsOk g rs ∧ WsOk g C N ws ∧ SqK b H vw (wd.map fun i => V.int ((i : Nat) : Int)) ∧ (∀ i ∈ wd, i < g) ∧ wd.length < d ∧ d ≤ 3 ∧ SqK b2 H va xs ∧ Nums H xs am ∧ AmOk g am ∧
  (¬ rsum am < rest n p rs ws d wd → ∀ dd H', Same H H' → H' dd = some (.xd [(("part" : Str), V.str "amounts")]) → E (.ref (He.ga K "Misfit")) (some dd) H') ∧
  (rsum am < rest n p rs ws d wd → ∀ i H', Same H H' → i < g → short n p rs ws d wd am i = true → (∀ j, j < i → short n p rs ws d wd am j = false) → Q (.int ((i : Nat) : Int)) H') ∧
  (rsum am < rest n p rs ws d wd → ∀ H', Same H H' → (∀ i, i < g → short n p rs ws d wd am i = false) → Q .non H')
theorem sc_robbed_corner : FnScope ["promise", "corner", "days", "word", "amounts", "told", "mine", "good", "row"] ["promise", "corner", "days", "word", "amounts"] (defScope s_robbed_corner) := ⟨rfl, rfl, rfl, by decide +kernel, rfl, by decide +kernel, by decide +kernel⟩
theorem c_robbed (T : Wd K mg base) : CalX P w K mg base 16 "robbed_corner" (sp_robbed K) ["amounts", "word", "days", "corner", "promise"] (fun _ zs => zs.reverse) := by
  obtain ⟨fd, F⟩ := T.d_robbed_corner
  obtain ⟨fdM, psM, FM, bM⟩ := (i_Misfit (P := P) (w := w) T).ex
  refine ⟨_, fd, ["promise", "corner", "days", "word", "amounts"], fun _ ws => ws.reverse, F.ok (k := 15) sc_robbed_corner (fun vs H Q E h => ?_) (fun cdv A outer s H vs Q E hr h => ?_), T.g_robbed_corner, F.kp, F.bindsN fun _ _ _ _ _ _ us hl => match us, hl with | [_, _, _, _, _], _ => rfl, ?_⟩
  · rcases h with ⟨vp, vc, vw, va, b, b2, d, g, n, p, rs, ws, wd, xs, am, C, N, rfl, _⟩; rfl
  · rcases h with ⟨vp, vc, vw, va, b, b2, d, g, n, p, rs, ws, wd, xs, am, C, N, rfl, hp, hok, hn, hg1, hg, hcor, hrs, hws, sw, hw, hwd, hd, sa, hx, ham, k1, k2, k3⟩
    refine ⟨_, (pss_cons (ps_expr (pe_c (c_need_asked T) hr (by decide) rfl (pa_cons (pv 0) (pa_cons (pv 1) (pa_cons (pv 2) pa_nil)))))
  (pss_cons (ps_par (i := 5) (j := 6) rfl sc_robbed_corner.nd rfl rfl (by decide) rfl rfl (pa_cons (pe_c (c_need_word T) hr (by decide) rfl (pa_cons (pv 3) (pa_cons (pe_fld (pv 1) rfl) pa_nil))) (pa_cons (pe_c (c_need_amounts T) hr (by decide) rfl (pa_cons (pv 4) (pa_cons (pe_fld (pv 1) rfl) pa_nil))) pa_nil)) (by rfl))
  (pss_cons (ps_expr (pe_c (c_need_told T) hr (by decide) rfl (pa_cons (pv 0) (pa_cons (pv 1) (pa_cons (pv 2) (pa_cons (pe_cmpR op_lt (pe_callB call_len_seq (by rfl) T.f_len (by decide +kernel) (pa_cons (pv 5) pa_nil)) (pv 2) (nomark _)) (pa_cons pe_str pa_nil)))))))
  (pss_cons (ps_if (pt_not (pt_val (pe_c (c_below T) hr (by decide) rfl (pa_cons (pe_c (c_total T) hr (by decide) rfl (pa_cons (pv 6) pa_nil)) (pa_cons (pe_c (c_rest_by T) hr (by decide) rfl (pa_cons (pv 0) (pa_cons (pv 1) (pa_cons (pv 2) (pa_cons (pv 5) pa_nil))))) pa_nil))))) (pss_one (ps_raise rfl (takes_of rfl rfl rfl rfl) (pmk_oex T.mis.ox T.mis.ini T.mis.ty FM (hr.mono (by decide)) bM .nil pass0 rfl T.g_Misfit (pa_cons pe_str pa_nil)))) pss_nil)
  (pss_cons (ps_for (passes_of rfl) rfl (pi_enumS (by rfl) T.f_enumerate (pa_cons (pe_fld (pv 1) rfl) pa_nil)) (pg_tup rfl (pgs_cons (pg_name (i := 7) sc_robbed_corner.nd rfl (Or.inl rfl)) (pgs_cons (pg_name (i := 8) sc_robbed_corner.nd rfl (Or.inl rfl)) pgs_nil)))
  (pss_one (ps_if (pt_val (pe_c (c_below T) hr (by decide) rfl (pa_cons (pe_c (c_summed T) hr (by decide) rfl (pa_cons (pv 6) (pa_cons (pv 8) pa_nil))) (pa_cons (pe_c (c_rest_by T) hr (by decide) rfl (pa_cons (pv 0) (pa_cons (pv 1) (pa_cons (pv 2) (pa_cons (pe_tup (StX.pa_star (pv 5) (pa_cons (pv 7) pa_nil))) pa_nil))))) pa_nil)))) (pss_one (ps_ret (pv 7))) pss_nil)))
  (pss_one (ps_ret pe_non))))))), ?_⟩
    obtain ⟨n', rfl⟩ : ∃ n', n = n' + 1 := by
      cases n with
      | zero => exact absurd hp (fun z => z)
      | succ n => exact ⟨n, rfl⟩
    obtain ⟨fs, vr, xr, vww, hi, l1, sr, hr', l2, hwsr, lg⟩ := id hcor
    obtain ⟨a, dx, rfl, hi'⟩ := id hi
    have hgl : (rs.length : Int) = (g : Int) := by rw [hrs.1]
    rw [hgl] at lg
    refine ⟨_, rfl, _, rfl, _, rfl, vp, _, d, g, _, p, rs, ws, rfl, hp, hcor, hrs.1, by omega, ?_⟩
    refine ⟨_, rfl, _, rfl, a, _, dx, fs, _, rfl, hi', T.c_Corner, T.n_Corner_goods, lg, ?_⟩
    refine ⟨b, vw, wd.map fun i => ((i : Nat) : Int), (g : Int), _, rfl, ?_, ?_, ?_, fun pw H1 s1 hpw => ?_⟩
    · simpa [List.map_map, Function.comp_def] using sw
    · intro z hz
      obtain ⟨i, hi, rfl⟩ := List.mem_map.mp hz
      have := hw i hi
      omega
    · rw [List.length_map]; omega
    have hpw' : H1 pw = some (.tup (wd.map fun i => V.int ((i : Nat) : Int))) := by rw [hpw, List.map_map]; rfl
    refine ⟨_, rfl, _, rfl, a, _, dx, fs, _, rfl, s1 _ _ hi', T.c_Corner, T.n_Corner_goods, lg, ?_⟩
    refine ⟨b2, va, xs, am, g, rfl, sa.same s1, hx.mono s1.n, by rw [hx.length]; exact ham.1, by omega, fun pa H2 s2 hpa => ?_⟩
    have s12 := s1.trans s2
    have hpw2 := s2 _ _ hpw'
    refine ⟨_, _, rfl, ?_⟩
    refine ⟨_, rfl, _, rfl, _, rfl, _, rfl, pw, _, rfl, .inr (SqT.of hpw2), _, rfl, _, _, rfl, rfl, ?_⟩
    have hlt : decide (((wd.map fun i => V.int ((i : Nat) : Int)).length : Int) < (d : Int)) = true := dt (by rw [List.length_map]; omega)
    dsimp only
    rw [hlt]
    refine ⟨vp, _, d, g, _, p, rs, ws, _, rfl, hp.n s12.n, hn, hcor.n s12.n, hrs.1, hg, hd, fun H3 s3 => ?_⟩
    have s13 := s12.trans s3
    have hpw3 := s3 _ _ hpw2
    have hpa3 := s3 _ _ hpa
    have hx3 := hx.mono s13.n
    have rsz := RD_sz (n := n') (by omega) hws.2.2.2.2.1 hws.2.2.2.2.2
    have hrb := rest_bd (d := d) (w := wd) hok hg hrs hws hw hd (by omega)
    refine ⟨_, rfl, false, .ref pa, xs, am, rfl, SqK.tup hpa3, hx3, ham.sum hg, fun t H4 s4 ht => ?_⟩
    have s14 := s13.trans s4
    refine ⟨_, rfl, _, rfl, _, rfl, _, rfl, vp, _, .ref pw, false, d, g, _, p, rs, ws, wd, C, N, rfl, hp.n s14.n, hok, hn, hg1, hg, hcor.n s14.n, hrs, hws, SqK.tup (s4 _ _ hpw3), hw, by omega, hd, fun r H5 s5 hr5 => ?_⟩
    have s15 := s14.trans s5
    have szr : Sz (rest (n' + 1) p rs ws d wd) := hrb.sz (RD_pos hws.2.2.1) (by omega) (by omega)
    refine ⟨_, _, _, _, rfl, ht.mono s5.n, hr5, ?_, szr, fun H6 s6 => ⟨_, rfl, ?_⟩⟩
    · have := (ham.sum hg).2 am.length
      rwa [List.take_length] at this
    have s16 := s15.trans s6
    by_cases hlt2 : rsum am < rest (n' + 1) p rs ws d wd
    · rw [decide_eq_true hlt2]
      refine iteF (u_next ?_)
      dsimp only
      refine u_seq ?_
      have hpw6 := s6 _ _ (s5 _ _ (s4 _ _ hpw3))
      have hpa6 := s6 _ _ (s5 _ _ (s4 _ _ hpa3))
      have hrl : xr.length = g := by rw [hr'.length, hrs.1]
      refine for_enum (H1 := H6) (v := vr) (b := false) (xs := xr) ?_ (sr.same s16) (fun i σ' H' => ∃ x y, σ' = [some vp, some (.ref a), some (.int ((d : Nat) : Int)), some vw, some va, some (.ref pw), some (.ref pa), x, y] ∧ Same H6 H' ∧ ∀ j, j < i → short (n' + 1) p rs ws d wd am j = false) ?_ ?_ ?_ ?_
      · intro R r
        exact ⟨_, rfl, a, _, dx, fs, _, rfl, s16 _ _ hi', T.c_Corner, T.n_Corner_rows, l1, r⟩
      · exact ⟨_, _, rfl, Same.refl _, fun j hj => absurd hj (Nat.not_lt_zero _)⟩
      · rintro i σ' H' _ ⟨x, y, rfl, s7, _⟩
        exact (sr.same s16).same s7
      · rintro i x σ' H' T2 hxi ⟨x1, y1, rfl, s7, hsh⟩ hT2
        obtain ⟨row, hrow, zs, sz, hz⟩ := paired_get hr' hxi
        have hig : i < g := by
          have := (List.getElem?_eq_some_iff.mp hxi).1
          omega
        have s8 := Same.of_new (o := .tup [V.int (i : Int), x]) hT2
        have s18 := (s16.trans s7).trans s8
        have s68 := s7.trans s8
        have hrd := hrs.2 row (mem_get hrow)
        have dot := ham.dot hg hrd
        refine ⟨_, rfl, _, rfl, false, false, .ref pa, x, xs, zs, am, row, rfl, SqK.tup (s68 _ _ hpa6), sz.same s18, hx.mono s18.n, hz.mono s18.n, by rw [hx.length, ham.1]; omega, ham.sz, day_sz hrd, dot.1, fun y H7 s9 hy => ?_⟩
        have s19 := s18.trans s9
        have s69 := s68.trans s9
        refine ⟨_, rfl, _, rfl, _, rfl, _, rfl, pw, _, rfl, .inl (SqT.of (s69 _ _ hpw6)), _, rfl, ?_, fun t2 nt2 => ?_⟩
        · refine Nat.le_trans (?_ : _ ≤ 4) (by decide)
          simp; omega
        have s10 := Same.of_new (o := .tup (wd.map (fun i => V.int ((i : Nat) : Int)) ++ [V.int (i : Int)])) nt2
        have s110 := s19.trans s10
        have hwi : ∀ j ∈ wd ++ [i], j < g := fun j hj => by
          rcases List.mem_append.mp hj with h | h
          · exact hw j h
          · rw [List.mem_singleton.mp h]; exact hig
        refine ⟨vp, _, .ref t2, false, d, g, _, p, rs, ws, wd ++ [i], C, N, rfl, hp.n s110.n, hok, hn, hg1, hg, hcor.n s110.n, hrs, hws, ⟨t2, rfl, ?_⟩, hwi, by simp; omega, hd, fun r2 H8 s11 hr8 => ?_⟩
        · rw [upd_same]; simp [sqO]
        have hrb2 := rest_bd (d := d) (w := wd ++ [i]) hok hg hrs hws hwi hd (by simp; omega)
        refine ⟨_, _, _, _, rfl, (hy.mono s10.n).mono s11.n, hr8, dot.2, hrb2.sz (RD_pos hws.2.2.1) (by omega) (by omega), fun H9 s12' => ⟨_, rfl, ?_⟩⟩
        have hrg : rs.getD i [] = row := by rw [List.getD_eq_getElem?_getD, hrow]; rfl
        have hs6 := (((s69.trans s10).trans s11).trans s12')
        by_cases hsi : rdot am row < rest (n' + 1) p rs ws d (wd ++ [i])
        · rw [decide_eq_true hsi]
          refine iteT ⟨_, rfl, k2 hlt2 i H9 (s16.trans hs6) hig ?_ hsh⟩
          unfold short
          rw [hrg]; exact decide_eq_true hsi
        · rw [decide_eq_false hsi]
          refine iteF ⟨_, _, rfl, hs6, fun j hj => ?_⟩
          by_cases hji : j < i
          · exact hsh j hji
          · have e : j = i := by omega
            subst e
            unfold short
            rw [hrg]; exact decide_eq_false hsi
      · rintro σ' H' ⟨x, y, rfl, s7, hsh⟩
        rw [hrl] at hsh
        exact k3 hlt2 H' (s16.trans s7) hsh
    · rw [decide_eq_false hlt2]
      refine iteT ⟨by decide, fun e ne => ?_⟩
      refine ⟨e, _, rfl, upd_same, fun dd ndd hde => ⟨rfl, dd, [(("part" : Str), V.str "amounts")], upd_same, ?_, ?_, ?_⟩⟩
      · rw [upd_ne hde]; exact upd_same
      · have h := ndd
        rw [upd_ne hde] at h
        exact h
      · refine k1 hlt2 dd _ ?_ upd_same
        intro b o hb
        have hb6 := s16 _ _ hb
        have nbe : b ≠ e := fun z => by rw [z, ne] at hb6; cases hb6
        have nbd : b ≠ dd := fun z => by
          have h := ndd
          rw [upd_ne hde, ← z, hb6] at h; cases h
        rw [upd_ne nbd, del_ne nbe, upd_ne nbe, upd_ne nbd, upd_ne nbe]
        exact hb6
  · refine ⟨fun s us ws X h1 h2 => ?_, fun r1 r2 => ?_⟩
    · obtain ⟨oc, od, dV, kV, doc, pm, an, cdv, ct, osl, rfl, lk, hcd, hD, hK⟩ := F.ex
      rcases hD with ⟨_, rfl⟩ | ⟨e, _⟩
      · match us, ws, h1, h2 with
        | [], [_, _, _, _, _], _, _ => exact .of_eq rfl
      · exact absurd rfl e
    · exact vals_rev r2
end
end Hp
namespace Hp
set_option Elab.async false
set_option linter.all false
set_option maxRecDepth 100000
set_option maxHeartbeats 4000000
open PySem PySem.Spec PyProof.Rows L2 NdefX
section
variable {P : Program} {w : World} {K : PySem.W.Frag} {mg : Str → Option Value} {base : Heap}
def sp_law_is_refused  : Sp :=  fun vs H Q _ => ∃ vp vc vw va b b2 d g n p rs ws wd xs am C N, vs = [vp, vc, .int ((d : Nat) : Int), vw, va] ∧ PrAt K g n H vp p ∧ PrOk g n p ∧ n ≤ 3 ∧ 1 ≤ g ∧ g ≤ 3 ∧ CorAt K H vc rs ws ∧ RsOk g rs ∧ WsOk g C N ws ∧ SqK b H vw (wd.map fun i => V.int ((i : Nat) : Int)) ∧ (∀ i ∈ wd, i < g) ∧ wd.length < d ∧ d ≤ 3 ∧ SqK b2 H va xs ∧ Nums H xs am ∧ AmOk g am ∧ ¬ rsum am < rest n p rs ws d wd ∧ ∀ H', Same H H' → Q (.bl true) H'
theorem sc_law_is_refused : FnScope ["_law_promise_here", "_law_corner_here", "_law_days", "_law_word", "_law_amounts", "_law_found", "error"] ["_law_promise_here", "_law_corner_here", "_law_days", "_law_word", "_law_amounts"] (defScope s_law_is_refused) := ⟨rfl, rfl, rfl, by decide +kernel, rfl, by decide +kernel, by decide +kernel⟩
theorem c_law_is_refused (T : Wd K mg base) : Cal P w K mg base 18 "_law_is_refused" (sp_law_is_refused (K := K)) [] := by
  obtain ⟨fd, F⟩ := T.d_law_is_refused
  refine mkCal (k := 18 - 1) F T.g_law_is_refused sc_law_is_refused (F.bindsN fun _ _ _ _ _ _ us hl => match us, hl with | [_, _, _, _, _], _ => rfl) (fun vs H Q E h => ?_) (fun cdv A outer s H vs Q E hr h => ?_)
  · rcases h with ⟨vp, vc, vw, va, b, b2, d, g, n, p, rs, ws, wd, xs, am, C, N, rfl, hp, hok, hn, hg1, hg, hcor, hrs, hws, sw, hw, hwd, hd, sa, hx, ham, hge, k⟩ <;> rfl
  · rcases h with ⟨vp, vc, vw, va, b, b2, d, g, n, p, rs, ws, wd, xs, am, C, N, rfl, hp, hok, hn, hg1, hg, hcor, hrs, hws, sw, hw, hwd, hd, sa, hx, ham, hge, k⟩
    obtain ⟨fR, fdR, psR, _, FR, gR, kR, bR, _⟩ := (c_robbed (P := P) (w := w) T).ex
    refine ⟨_,  (pss_cons (ps_set (i := 5) sc_law_is_refused.nd rfl (Or.inl rfl) pe_non)
  (pss_cons (ps_try_as1 (i := 6) rfl rfl sc_law_is_refused.nd rfl rfl ⟨rfl, by decide, .inl T.g_Misfit⟩ (fun W pn xe tk po => pss_one (ps_expr (pe_callS FR (hr.mono (by decide)) rfl gR kR bR (passAt tk) (pa_cons (pv 0) (pa_cons (pv 1) (pa_cons (pv 2) (pa_cons (pv 3) (pa_cons (pv 4) pa_nil))))))))
    (fun a oe cls d pn hz hf => pss_one (ps_set (i := 5) sc_law_is_refused.nd rfl (Or.inl rfl) (pe_xf T.mis.xf T.mis.no hz hf (pv 6)))))
  (pss_one (ps_ret (pe_cmpR op_eq (pv 5) pe_str (nomark _)))))), ?_⟩
    refine ⟨_, rfl, _, rfl, _, rfl, _, rfl, _, rfl, vp, vc, vw, va, b, b2, d, g, n, p, rs, ws, wd, xs, am, C, N, rfl, hp, hok, hn, hg1, hg, hcor, hrs, hws, sw, hw, hwd, hd, sa, hx, ham, fun _ dd H1 s1 hdd => ?_, fun h => absurd h hge, fun h => absurd h hge⟩
    refine ⟨T.mis.ex, fun a na => ?_⟩
    refine ⟨_, rfl, rfl, rfl, dd, _, _, rfl, hdd, rfl, ?_⟩
    exact ⟨_, rfl, rfl, k H1 s1⟩
end
end Hp
/-! Set comprehensions of anything that a set takes. -/
namespace Hp
set_option Elab.async false
set_option linter.all false
set_option maxRecDepth 100000
set_option maxHeartbeats 4000000
open PySem PySem.Spec PyProof.Rows L2
/-- the rule of set.add over the tracked things SO -/
def AddR {τ : Type} (SO : Program → World → Addr → τ → HO) (Pre : Hp → V → τ → Prop) (Post : Hp → V → τ → τ → Prop) : Prop :=
  ∀ (X : Cx) (pins : List (Addr × Obj)) (σ : L2.St) (H : Hp) (s : Shared) (E : Value → Shared → Prop) (D : Addr) (st : τ) (y : V) (u : Value) (Q : Value → Shared → Prop), Inv X pins σ H s → X.A.units + 64 < cLine → H D = some (SO X.prog X.w D st) → RelV y u → Pre H y st →
    (∀ st' s', Post H y st st' → Inv X pins σ (L2.upd H D (SO X.prog X.w D st')) s' → Q .none s') → wpAny (model X.prog X.w) X.A (call (.builtin "set.add") [.ref D, u]) Q E s
/-- {elt for target in iter if ..} -/
def tScG {τ : Type} (SO : Program → World → Addr → τ → HO) (t0 : τ) (Pre : Hp → V → τ → Prop) (Post : Hp → V → τ → τ → Prop) (P : Program) (w : World) (wi : TI) (g : TG) (tt : TT) (te : TE) (vs : List Nat) : TE := fun σ H Q => wi σ H fun J H1 => ∀ D, H1 D = none → ∃ W : Nat → Nat → Hp → Prop, (∃ m, W 0 m (L2.upd H1 D (SO P w D t0))) ∧ ∀ i m H, W i m H →
  (J.stop i H ∧ Q (.ref D) H) ∨ (J.go i H ∧ ∃ Nx : Hp → Prop, (∀ H', Nx H' → ∃ m', m' < m ∧ W (i + 1) m' H') ∧ ∀ x H', J.yld i H x H' → g x (wipe σ vs) H' fun σ2 H2 => wipe σ2 vs = wipe σ vs ∧ tt σ2 H2 fun b H3 =>
    if b = true then te σ2 H3 fun y H4 => ∃ st, H4 D = some (SO P w D st) ∧ Pre H4 y st ∧ ∀ st', Post H4 y st st' → Nx (L2.upd H4 D (SO P w D st')) else Nx H3)
section
variable {X : Cx} {τ : Type} {SO : Program → World → Addr → τ → HO} {t0 : τ} {Pre : Hp → V → τ → Prop} {Post : Hp → V → τ → τ → Prop}
theorem scG_core {pins : List (Addr × Obj)} {s : Shared} {σ : L2.St} {H : Hp} {Q : VK} {elt tg iter : Expr} {ifs : List Expr} {scope : Scope} {own : List (PySem.Str × Nat)} {pos pos' : Pos} {wi : TI} {g : TG} {tt : TT} {te : TE} {use : Option (Value → Sem Unit)} {Qf : Value → Shared → Prop}
    (new : ∀ (P : Program) (w : World) (H : Hp) (h : Heap) (a : Addr), h.get? a = some { cls := .type "set", dict := none, data := .set #[] 0 (.fresh 0 0 (!w.params.followText "set-order")) } → ObjOk P w H h a (SO P w a t0))
    (add : AddR SO Pre Post) (hc : X.calm = true) (hN : X.N.Nodup) (I : Inv X pins σ H s) (hi : PI X tg iter wi) (ok : BlkOk X.N X.env.scope scope own)
    (hg : ∀ (s : Shared) (H : Hp) (C : Addr) (cl : List (PySem.Str × Addr)) (fp : List Addr), PG (X.blk s H scope (compEnvC scope cl C X.env) fp) tg g) (ht : ∀ (s : Shared) (H : Hp) (C : Addr) (cl : List (PySem.Str × Addr)) (fp : List Addr), PTs (X.blk s H scope (compEnvC scope cl C X.env) fp) ifs tt)
    (he : ∀ (s : Shared) (H : Hp) (C : Addr) (cl : List (PySem.Str × Addr)) (fp : List Addr), PE (X.blk s H scope (compEnvC scope cl C X.env) fp) elt te) (hs : ∀ x, foldedSetIterable iter X.env x = pure x)
    (hu : X.A.units + 64 < cLine) (h : tScG SO t0 Pre Post X.prog X.w wi g tt te (own.map (·.2)) σ H Q)
    (hRR : ∀ D C s' m H', Inv X pins σ H' s' → Q (.ref D) H' → s'.heap.Ns C m → FpOk X pins H' C → compPost (model X.prog X.w) X.A X.xe use Qf (.ref D) C (.ok .next) s') :
    wpAny (model X.prog X.w) X.A (comprehension (.SetComp elt [⟨tg, iter, ifs, 0⟩] scope pos) scope X.env pos' (newSet (.type "set")) false (eval iter X.env) use) Qf X.xe s := by
  have hfree : ∀ y ∈ scope.names, y.2 = .free → ∃ c, X.env.cells.lookup y.1 = some c := fun y hy e => by
    rcases ok.free y hy e with k | k
    · exact I.ok.has _ (.inl k)
    · exact I.ok.has _ (.inr k)
  refine wpAny_comprehension_free (use := use) rfl hs (closure_ok hfree) ok.kind (fun y hy e => by rw [ok.uniq y hy, e])
    (thn (hi.run pins s σ H _ I h) fun xv s1 hx => thn hx fun itv s2 h2 => ?_)
  obtain ⟨it, fp, tn, J, H2, e, I2, T, st2, f2, q⟩ := h2
  subst e
  refine PpSet.newSet_ok (newEnv_comp ?_)
  generalize hD : s2.heap.objs.size = D
  have hDn : H2 D = none := I2.hok.fresh (Nat.le_of_eq hD)
  obtain ⟨W, ⟨m0, w0⟩, turn⟩ := q D hDn
  -- the new list
  generalize hs3 : ({ s2 with heap := s2.heap.push { cls := .type "set", dict := none, data := .set #[] 0 (.fresh 0 0 (!X.w.params.followText "set-order")) } } : Shared) = s3
  have I3 : Inv X pins σ (upd H2 D (SO X.prog X.w D t0)) s3 := by
    rw [← hs3]
    refine I2.laid (t' := s2.toks) (fun b o e => Heap.get?_push_of_some _ e) (Nat.le_of_eq hD) ?_
    rw [← hD]
    exact new _ _ _ _ _ (Heap.get?_push_size _ rfl)
  have h3 : s3.heap = s2.heap.push { cls := .type "set", dict := none, data := .set #[] 0 (.fresh 0 0 (!X.w.params.followText "set-order")) } := by rw [← hs3]
  have sz : ∀ b ∈ fp, b < s2.heap.objs.size := fun b hb => by
    obtain ⟨o, e, _⟩ := T.obj _ _ st2 b hb
    exact Heap.lt_size e
  have f3 : ∀ b ∈ fp, FpOk X pins (upd H2 D (SO X.prog X.w D t0)) b ∧ b < s3.heap.objs.size := fun b hb => by
    have hlt := sz b hb
    refine ⟨⟨?_, (f2 b hb).2⟩, by rw [h3, Heap.size_push]; exact Nat.lt_succ_of_lt hlt⟩
    rw [upd_ne (by rw [← hD]; exact Nat.ne_of_lt hlt)]
    exact (f2 b hb).1
  have st3 : tn 0 s3.heap := T.keep _ _ _ st2 fun b _ o e => by rw [h3]; exact Heap.get?_push_of_some _ e
  have I4 := block_start I3 ok hN f3
  have pg := hg s3 (upd H2 D (SO X.prog X.w D t0)) s3.heap.objs.size (cellsFrom (s3.heap.objs.size + 1) scope.names (cloFrom X.env.cells scope.names [])) fp
  have pt := ht s3 (upd H2 D (SO X.prog X.w D t0)) s3.heap.objs.size (cellsFrom (s3.heap.objs.size + 1) scope.names (cloFrom X.env.cells scope.names [])) fp
  have pe := he s3 (upd H2 D (SO X.prog X.w D t0)) s3.heap.objs.size (cellsFrom (s3.heap.objs.size + 1) scope.names (cloFrom X.env.cells scope.names [])) fp
  show codeAny _ _ (.compStart (.SetComp elt [⟨tg, iter, ifs, 0⟩] scope pos) 0 (.ref it) (.ref D) (compEnvC scope (cellsFrom (s3.heap.objs.size + 1) scope.names (cloFrom X.env.cells scope.names [])) s3.heap.objs.size X.env)) (compPost (model X.prog X.w) X.A X.xe use Qf (.ref D) s3.heap.objs.size) { s3 with heap := pushCells (s3.heap.push { cls := .type "dict", data := .dict #[] }) scope.names }
  have nfp : ∀ b ∈ fp, (upd H2 D (SO X.prog X.w D t0)) b = none := fun b hb => (f3 b hb).1.1
  generalize hce : compEnvC scope (cellsFrom (s3.heap.objs.size + 1) scope.names (cloFrom X.env.cells scope.names [])) s3.heap.objs.size X.env = ce at I4 pg pt pe ⊢
  have cL : ce.locals = s3.heap.objs.size := by subst hce; rfl
  generalize hH3 : upd H2 D (SO X.prog X.w D t0) = H3 at I3 I4 pg pt pe w0 nfp f3
  generalize hs4 : ({ s3 with heap := pushCells (s3.heap.push { cls := .type "dict", data := .dict #[] }) scope.names } : Shared) = s4 at I4 ⊢
  have st4 : tn 0 s4.heap := T.keep _ _ _ st3 fun b _ o e => by rw [← hs4]; exact pushCells_keeps _ _ _ _ (Heap.get?_push_of_some _ e)
  have stat : ∀ {σ' : L2.St} {H' : Hp} {s' : Shared}, Inv (X.blk s3 H3 scope ce fp) [] σ' H' s' → (∀ b ∈ fp, H' b = none) → ∀ b ∈ fp, FpOk (X.blk s3 H3 scope ce fp) [] H' b := fun {σ' H' s'} I' hn b hb =>
    ⟨hn b hb, (I'.ok.exf b hb).1, I'.ok.exfs b hb, .inl hb, fun x c e => (I'.ok.exf b hb).2 x c e, fun p hp => absurd (show p ∈ ([] : List (Addr × Obj)) ++ [] from hp) (by simp)⟩
  have loop : codeAny (model X.prog X.w) X.A (.compLoop (.SetComp elt [⟨tg, iter, ifs, 0⟩] scope pos) 0 (.ref it) (.ref D) ce) (compPost (model X.prog X.w) X.A X.xe use Qf (.ref D) s3.heap.objs.size) s4 := by
    refine PpSet.compLoopS_any (fun n s' => ∃ i H', Inv (X.blk s3 H3 scope ce fp) [] (wipe σ (own.map (·.2))) H' s' ∧ tn i s'.heap ∧ (∀ b ∈ fp, H' b = none) ∧ W i n H') ?_ m0 ⟨0, H3, I4, st4, nfp, w0⟩
    rintro n s5 ⟨i, H5, I5, st5, n5, w5⟩
    rcases turn i n H5 w5 with ⟨stop, qq⟩ | ⟨go, Nx, hNx, step⟩
    · have td := T.done (X.blk s3 H3 scope ce fp) rfl rfl rfl hc i [] s5 _ H5 (fun _ _ => False) I5 (stat I5 n5) st5 stop
      refine thnF td fun r s6 ⟨hr, I6⟩ => ?_
      subst hr
      -- back in the def's context
      have I7 : Inv X pins σ H5 s6 := I3.call' (ch := fp) I6.os I6.base I6.hok I6.bare fun b hb => ⟨(f3 b hb).1.2.2.2.1, (f3 b hb).1.2.1, (f3 b hb).1.2.2.2.2.1, (f3 b hb).1.2.2.2.2.2⟩
      have nC : H5 s3.heap.objs.size = none := by
        have z : H5 ce.locals = none := I6.free
        rw [cL] at z
        exact z
      obtain ⟨m, hn, _⟩ := I6.loc
      have hn : s6.heap.Ns ce.locals m := hn
      rw [cL] at hn
      exact hRR D s3.heap.objs.size s6 m H5 I7 qq hn (I3.fpOk (Nat.le_refl _) nC)
    · have ti := T.item (X.blk s3 H3 scope ce fp) rfl rfl rfl hc i [] s5 _ H5 (fun _ _ => False) I5 (stat I5 n5) st5 go
      refine thnF ti fun r s6 ⟨u, hr, h6⟩ => ?_
      subst hr
      refine thnF h6 fun _ s7 ⟨x, H7, I7, r7, y7, st7, n7⟩ => ?_
      have I7' := I7.pinned (stat I7 n7) (T.obj _ _ st7)
      refine thnF (pg.run _ s7 _ H7 x u _ I7' r7 (step x H7 y7)) fun _ s8 ⟨σ8, H8, I8, hw8, q8⟩ => ?_
      refine thnF (pt.run _ s8 σ8 H8 _ I8 q8) fun b s9 ⟨H9, I9, q9⟩ => ?_
      -- the turn's end
      have fin : ∀ {s' : Shared} {H' : Hp}, Inv (X.blk s3 H3 scope ce fp) ([] ++ pinsAt fp s7.heap) σ8 H' s' → Nx H' → ∃ m, m < n ∧ ∃ i H', Inv (X.blk s3 H3 scope ce fp) [] (wipe σ (own.map (·.2))) H' s' ∧ tn i s'.heap ∧ (∀ b ∈ fp, H' b = none) ∧ W i m H' := fun {s' H'} I' nx => by
        obtain ⟨m', hm, w'⟩ := hNx H' nx
        have pin' : ∀ b ∈ fp, ∀ o, s7.heap.get? b = some o → s'.heap.get? b = some o ∧ H' b = none := fun b hb o e =>
          let z := I'.pin (b, o) (List.mem_append_right _ (List.mem_append_right _ (mem_pinsAt hb e)))
          ⟨z.1, z.2.1⟩
        have hl : (wipe σ (own.map (·.2))).length = σ8.length := by rw [← hw8, wipe_length]
        refine ⟨m', hm, i + 1, H', (I'.unpinned (pins := [])).weak hl (fun j v e => ?_), T.keep _ _ _ st7 fun b hb o e => (pin' b hb o e).1, fun b hb => ?_, w'⟩
        · rw [← hw8] at e
          exact (wipe_some e).1
        · obtain ⟨o, e, _⟩ := T.obj _ _ st7 b hb
          exact (pin' b hb o e).2
      cases b with
      | false =>
        simp only [Bool.false_eq_true, if_false] at q9 ⊢
        exact fin I9 q9
      | true =>
        simp only [if_true] at q9 ⊢
        refine thnF (pe.run _ s9 σ8 H9 _ I9 q9) fun z s10 ⟨yv, H10, I10, r10, st, hD10, hpre, nx⟩ => ?_
        exact add (X.blk s3 H3 scope ce fp) _ _ _ _ _ _ _ _ _ _ I10 hu hD10 r10 hpre fun st' s11 hpost I11 => fin I11 (nx st' hpost)
  exact PpSet.codeAny_compStart_set loop (T.self X.A 0 _ _ _ st4 loop)
/-- as a value -/
theorem pe_scG {elt tg iter : Expr} {ifs : List Expr} {scope : Scope} {own : List (PySem.Str × Nat)} {pos : Pos} {wi : TI} {g : TG} {tt : TT} {te : TE} (new : ∀ (P : Program) (w : World) (H : Hp) (h : Heap) (a : Addr), h.get? a = some { cls := .type "set", dict := none, data := .set #[] 0 (.fresh 0 0 (!w.params.followText "set-order")) } → ObjOk P w H h a (SO P w a t0))
    (add : AddR SO Pre Post) (hc : X.calm = true) (hN : X.N.Nodup) (hi : PI X tg iter wi) (ok : BlkOk X.N X.env.scope scope own)
    (hg : ∀ (s : Shared) (H : Hp) (C : Addr) (cl : List (PySem.Str × Addr)) (fp : List Addr), PG (X.blk s H scope (compEnvC scope cl C X.env) fp) tg g) (ht : ∀ (s : Shared) (H : Hp) (C : Addr) (cl : List (PySem.Str × Addr)) (fp : List Addr), PTs (X.blk s H scope (compEnvC scope cl C X.env) fp) ifs tt)
    (he : ∀ (s : Shared) (H : Hp) (C : Addr) (cl : List (PySem.Str × Addr)) (fp : List Addr), PE (X.blk s H scope (compEnvC scope cl C X.env) fp) elt te) (hu : X.A.units + 64 < cLine) (hs : ∀ x, foldedSetIterable iter X.env x = pure x := by intro _; rfl) :
    PE X (.SetComp elt [⟨tg, iter, ifs, 0⟩] scope pos) (tScG SO t0 Pre Post X.prog X.w wi g tt te (own.map (·.2))) := by
  refine ⟨fun pins s σ H Q I h => ?_⟩
  rw [PpSet.eval_SetComp]
  refine scG_core new add hc hN I hi ok hg ht he hs hu h fun D C s' m H' I' q hn f => ⟨m, hn, fun h'' sb => ?_⟩
  obtain ⟨f0, f1, f2, f3, f4, f5⟩ := f
  exact ⟨.ref D, H', I'.turned (t' := s'.toks) (fun b o hb e => (sb.2 b hb).trans e) f0 f1 f3 f4 f5, rfl, q⟩
end
end Hp
/-! Sets of ints, sets of tuples of ints: made by comprehensions; len. -/
namespace Hp
set_option Elab.async false
set_option linter.all false
set_option maxRecDepth 100000
set_option maxHeartbeats 4000000
open PySem PySem.Spec PyProof.Rows L2
/-! ### ints -/
/-- the set of the ints of L -/
def ISo (_ : Program) (w : World) (a : Addr) (L : List Int) : HO := SetO w a (fun j => decide (j ∈ L)) L.length
def IPre (_ : Hp) (y : V) (L : List Int) : Prop := (∃ k, y = .int k) ∧ L.length + 1 < 64
def IPost (_ : Hp) (y : V) (L L' : List Int) : Prop := ∃ k, y = .int k ∧ L' = if k ∈ L then L else L ++ [k]
theorem i_new (P : Program) (w : World) (H : Hp) (h : Heap) (a : Addr) (e : h.get? a = some { cls := .type "set", dict := none, data := .set #[] 0 (.fresh 0 0 (!w.params.followText "set-order")) }) : ObjOk P w H h a (ISo P w a []) := by
  refine setO_new (n := 0) ⟨_, #[], 0, _, e, ⟨rfl, rfl, rfl⟩, rfl, (fun e he => by simp at he), (by simp), (fun k => by simp), (by decide), (by rfl), rfl, List.Pairwise.nil, ?_⟩
  show _ ∨ (!w.params.followText "set-order") = true
  cases w.params.followText "set-order"
  · exact .inr rfl
  · exact .inl rfl
theorem i_add : AddR ISo IPre IPost := by
  intro X pins σ H s E D L y u Q I hu hD ry hp k
  obtain ⟨⟨i, rfl⟩, hl⟩ := hp
  obtain ⟨t, rfl⟩ := ry
  have R := setO_get I hD
  refine setR_add R (Nat.lt_trans hl (by decide)) fun h' sb new => ?_
  have he : ∃ u, h'.get? D = some u := by
    have ⟨o, _, _, _, ho, _⟩ := new
    exact ⟨o, ho⟩
  refine k (if i ∈ L then L else L ++ [i]) _ ⟨i, rfl, rfl⟩ (I.write (e := D) (t' := s.toks + 1) (by rw [hD]; trivial) (.inl rfl) (fun b u hb hu => (sb.2 b hb).trans hu) he (setO_new ?_))
  have e1 : (fun j => decide (j ∈ if i ∈ L then L else L ++ [i])) = fun j => decide (j ∈ L) || decide (j = i) := by
    funext j
    by_cases hi : i ∈ L
    · rw [if_pos hi]
      by_cases hj : j = i
      · subst hj; simp [hi]
      · simp [hj]
    · rw [if_neg hi]; simp
  have e2 : (if i ∈ L then L else L ++ [i]).length = if decide (i ∈ L) = true then L.length else L.length + 1 := by
    by_cases hi : i ∈ L
    · simp [hi]
    · simp [hi]
  rw [e1, e2]
  exact new
/-! ### tuples of ints -/
def TSo (P : Program) (w : World) (a : Addr) (L : List (Addr × List Int)) : HO := .ext fun h => ∃ o es ep t, h.get? a = some o ∧ o.ExactSet ∧ o.data = .set es ep t ∧ es.toList = L2.rowsOf P w L ∧ TabOk t (L.map fun p => thash P w p.2) ∧ (L.map (·.2)).Nodup ∧ t.plain = true ∧
  (w.params.followText "set-order" = true ∨ t.led = true) ∧ L.length * 5 < t.mask * 3 ∧ L.length < 64
def TPre (H : Hp) (y : V) (L : List (Addr × List Int)) : Prop := (∃ (a : Addr) (k : List Int), y = .ref a ∧ H a = some (.tup (k.map V.int))) ∧ (∀ p ∈ L, H p.1 = some (.tup (p.2.map V.int))) ∧ L.length + 1 < 64
def TPost (H : Hp) (y : V) (L L' : List (Addr × List Int)) : Prop := ∃ (a : Addr) (k : List Int), y = .ref a ∧ H a = some (.tup (k.map V.int)) ∧ (k ∈ L.map (·.2) → L' = L) ∧ (k ∉ L.map (·.2) → L'.Perm ((a, k) :: L))
theorem items_of (P : Program) (w : World) : ∀ {k : List Int} {us : List Value}, Vals (k.map V.int) us → ItemsAre (intKind P w) k us
  | [], us, r => by cases r; exact .nil
  | i :: k, us, r => by
    cases r with
    | @cons _ u _ us ra rt =>
      obtain ⟨t, rfl⟩ := ra
      exact .cons (intKind_is P w i t) (items_of P w rt)
theorem isT_of {P : Program} {w : World} {H : Hp} {h : Heap} (hok : HOk P w H h) {a : Addr} {k : List Int} (e : H a = some (.tup (k.map V.int))) : IsT P w h k a := by
  obtain ⟨_, us, r, o, h1, h2, n, h3⟩ := (show ObjOk P w H h a (.tup (k.map V.int)) from hok a _ e)
  exact ⟨o, us.toArray, n, h1, h2, h3, by simpa using items_of P w r⟩
theorem t_ok {P : Program} {w : World} {H : Hp} {h : Heap} {a : Addr} {L : List (Addr × List Int)} {es : Array (Int × Value)} {ep : Nat} {t : SetTable} (R : SetTR P w h a L es ep t) : ObjOk P w H h a (TSo P w a L) := by
  obtain ⟨o, ho, hex, hd⟩ := R.ob
  refine ⟨⟨o, es, ep, t, ho, hex, hd, R.rows, R.tab, R.nd, R.plain, R.led, R.room, R.few⟩, ⟨o, ho⟩, fun h1 h2 p k => ?_⟩
  obtain ⟨o, es, ep, t, ho, r⟩ := p
  exact ⟨o, es, ep, t, k o ho, r⟩
theorem t_get {P : Program} {w : World} {H : Hp} {h : Heap} (hok : HOk P w H h) {a : Addr} {L : List (Addr × List Int)} (e : H a = some (TSo P w a L)) (ht : ∀ p ∈ L, H p.1 = some (.tup (p.2.map V.int))) : ∃ es ep t, SetTR P w h a L es ep t := by
  obtain ⟨⟨o, es, ep, t, ho, hex, hd, h1, h2, h3, h4, h5, h6, h7⟩, _⟩ := (show ObjOk P w H h a (TSo P w a L) from hok a _ e)
  exact ⟨es, ep, t, ⟨o, ho, hex, hd⟩, h1, h2, h3, fun p hp => isT_of hok (ht p hp), h4, h5, h6, h7⟩
theorem t_new (P : Program) (w : World) (H : Hp) (h : Heap) (a : Addr) (e : h.get? a = some { cls := .type "set", dict := none, data := .set #[] 0 (.fresh 0 0 (!w.params.followText "set-order")) }) : ObjOk P w H h a (TSo P w a []) := t_ok (setTR_fresh e)
theorem t_add : AddR TSo TPre TPost := by
  intro X pins σ H s E D L y u Q I hu hD ry hp kk
  obtain ⟨⟨a, k, rfl, ha⟩, hL, hl⟩ := hp
  obtain rfl : u = Value.ref a := ry
  obtain ⟨es, ep, t, R⟩ := t_get I.hok hD hL
  have hx := isT_of I.hok ha
  obtain ⟨o, ho, hex, hd⟩ := R.ob
  refine wpAny_call_entry F.slot_set_add ⟨o, ho, hex.1⟩ F.entry_set_add ?_ (F.args_set_add_2 _ _)
  unfold Builtin.«set.add» Builtin.Frozenset.oneOther
  simp only [List.isEmpty_nil, bind_assoc]
  unfold Builtin.Frozenset.addrOf setAdd
  refine wpAny_bind (wpAny_pure ?_)
  try dsimp only
  refine wpAny_bind (wpAny_pure ?_)
  try dsimp only
  refine wpAny_bind ?_
  refine wpAny_holding ?_
  have hu1 : X.A.in1.units < cLine := by show X.A.units + 1 < cLine; omega
  refine wpAny_bind (wpAny_pyHash_tuple hu1 hx ?_)
  refine add_at (s := { s with toks := s.toks + (k.length + 1) }) R hx hu1 hl fun b h' L' es' ep' t' hsb R' c1 c2 => ?_
  show wpAny _ _ (ret Value.none) _ _ _
  refine wpAny_pure ⟨_, rfl, ?_⟩
  obtain ⟨o', ho', _, _⟩ := R'.ob
  exact kk L' _ ⟨a, k, rfl, ha, c1, c2⟩ (I.write (e := D) (t' := s.toks + (k.length + 1)) (by rw [hD]; trivial) (.inl rfl) (fun b u hb hu => (hsb.2 b hb).trans hu) ⟨o', ho'⟩ (t_ok R'))
/-! ### len -/
section
variable {X : Cx}
theorem len_iset : CallR X (.builtin "len") (fun xs H Q => ∃ a L, xs = [.ref a] ∧ H a = some (ISo X.prog X.w a L) ∧ L.length < 64 ∧ Q (.int (L.length : Int)) H) := by
  intro pins s σ H xs us Q I r h
  obtain ⟨a, L, rfl, ha, hl, q⟩ := h
  obtain ⟨u, rfl, rx⟩ := vals1 r
  cases rx
  obtain ⟨o, es, ep, t, ho, hex, hd, _, _, _, _, hf, hn, _⟩ := setO_get I ha
  refine call_len_set ho hex hd hf (by rw [hn]; omega) ⟨.int (L.length : Int), H, I.tok _, ⟨_, by rw [hn]⟩, q⟩
theorem len_tset : CallR X (.builtin "len") (fun xs H Q => ∃ a L, xs = [.ref a] ∧ H a = some (TSo X.prog X.w a L) ∧ (∀ p ∈ L, H p.1 = some (.tup (p.2.map V.int))) ∧ Q (.int (L.length : Int)) H) := by
  intro pins s σ H xs us Q I r h
  obtain ⟨a, L, rfl, ha, hL, q⟩ := h
  obtain ⟨u, rfl, rx⟩ := vals1 r
  cases rx
  obtain ⟨es, ep, t, R⟩ := t_get I.hok ha hL
  obtain ⟨o, ho, hex, hd⟩ := R.ob
  have hn := R.size
  have := R.few
  refine call_len_set ho hex hd R.fits (by rw [hn]; omega) ⟨.int (L.length : Int), H, I.tok _, ⟨_, by rw [hn]⟩, q⟩
end
/-! ### walked: pairs in a sequence -/
section
variable {τ : Type} {SO : Program → World → Addr → τ → HO} {t0 : τ} {Pre : Hp → V → τ → Prop} {Post : Hp → V → τ → τ → Prop} {P : Program} {w : World} {K : PySem.W.Frag} {tl : TE} {σ : L2.St} {H H1 : Hp} {v : V} {xs : List V} {b : Bool}
theorem scg_pairs {k l : Nat} {te : TE} {vs : List Nat} {Q : VK} (he : Gives tl σ H v H1) (sq : SqK b H1 v xs) (Pv : Addr → Nat → Hp → τ → Prop) (hG : ∀ D i H' st, Pv D i H' st → SqK b H' v xs) (h0 : ∀ D, H1 D = none → Pv D 0 (L2.upd H1 D (SO P w D t0)) t0)
    (hstep : ∀ D i x H' st (R : VK), xs[i]? = some x → H1 D = none → H' D = some (SO P w D st) → Pv D i H' st → (∀ y H4, H4 D = some (SO P w D st) → Pre H4 y st → (∀ st', Post H4 y st st' → Pv D (i + 1) (L2.upd H4 D (SO P w D st')) st') → R y H4) →
      ∃ y z, SqK false H' x [y, z] ∧ te (((wipe σ vs).set k (some y)).set l (some z)) H' R)
    (hd : ∀ D H' st, H1 D = none → H' D = some (SO P w D st) → Pv D xs.length H' st → Q (.ref D) H')
    (hw : ∀ x y, wipe (((wipe σ vs).set k (some x)).set l (some y)) vs = wipe σ vs) : tScG SO t0 Pre Post P w (iSeq K tl) (gPair K k l) tYes te vs σ H Q := by
  have core : ∀ {J : It} {G : Hp → Prop} {Y : Nat → Hp → V → Hp → Prop} (wk : Walk J xs.length G Y) (D : Addr) (hD : H1 D = none), (∀ j H' x H'', Y j H' x H'' → H'' = H' ∧ xs[j]? = some x) → (∀ i H'' st, Pv D i H'' st → G H'') →
      ∃ W : Nat → Nat → Hp → Prop, (∃ m, W 0 m (L2.upd H1 D (SO P w D t0))) ∧ ∀ i m H, W i m H →
  (J.stop i H ∧ Q (.ref D) H) ∨ (J.go i H ∧ ∃ Nx : Hp → Prop, (∀ H', Nx H' → ∃ m', m' < m ∧ W (i + 1) m' H') ∧ ∀ x H', J.yld i H x H' → gPair K k l x (wipe σ vs) H' fun σ2 H2 => wipe σ2 vs = wipe σ vs ∧ tYes σ2 H2 fun b H3 =>
    if b = true then te σ2 H3 fun y H4 => ∃ st, H4 D = some (SO P w D st) ∧ Pre H4 y st ∧ ∀ st', Post H4 y st st' → Nx (L2.upd H4 D (SO P w D st')) else Nx H3) := by
    intro J G Y wk D hD hY hG2
    refine ⟨fun i m H => m = xs.length - i ∧ i ≤ xs.length ∧ ∃ st, H D = some (SO P w D st) ∧ Pv D i H st, ⟨_, rfl, Nat.zero_le _, t0, upd_same, h0 D hD⟩, ?_⟩
    rintro i m H ⟨rfl, hi, st, ha, hp⟩
    have q := hG2 i H st hp
    by_cases hlt : i < xs.length
    · refine .inr ⟨wk.goes i H hlt q, fun H' => ∃ st, H' D = some (SO P w D st) ∧ Pv D (i + 1) H' st, fun H' p' => ⟨xs.length - (i + 1), by omega, rfl, hlt, p'⟩, fun x H' y => ?_⟩
      obtain ⟨rfl, hx⟩ := hY i H x H' (wk.yields i H x H' hlt q y)
      obtain ⟨y, z, ⟨T, rfl, hT⟩, q2⟩ := hstep D i x _ st (fun y H4 => ∃ st, H4 D = some (SO P w D st) ∧ Pre H4 y st ∧ ∀ st', Post H4 y st st' → ∃ st2, (L2.upd H4 D (SO P w D st')) D = some (SO P w D st2) ∧ Pv D (i + 1) (L2.upd H4 D (SO P w D st')) st2) hx hD ha hp
        fun y H4 h4 pr p4 => ⟨st, h4, pr, fun st' po => ⟨st', upd_same, p4 st' po⟩⟩
      exact gPair_new hT ⟨hw _ _, yes q2⟩
    · have e : i = xs.length := by omega
      subst e
      exact .inl ⟨wk.stops H q, hd D H st hD ha hp⟩
  obtain ⟨p, rfl, hp⟩ := sq
  cases b
  · refine .inr (he _ ⟨p, rfl, ⟨xs, SqT.of hp⟩, fun D hD => ?_⟩)
    exact core walk_tup D hD (fun j H' x H'' y => y) fun i H'' st q => by obtain ⟨p', e, h⟩ := hG D i H'' st q; cases e; exact SqT.of h
  · refine .inl (he _ ⟨p, rfl, ⟨xs, SqL.of hp⟩, fun D hD => ?_⟩)
    exact core walk_list D hD (fun j H' x H'' y => y) fun i H'' st q => by obtain ⟨p', e, h⟩ := hG D i H'' st q; cases e; exact SqL.of h
end
end Hp
namespace Hp
set_option Elab.async false
set_option linter.all false
set_option maxRecDepth 100000
set_option maxHeartbeats 4000000
open PySem PySem.Spec PyProof.Rows L2 NdefX
section
variable {σ : L2.St} {H : Hp} {D : Ends} {te : TE}
theorem u_ifN {t u : TS} (h : te σ H fun x H1 => ∃ c, x = .bl c ∧ if (!c) = true then t D σ H1 else u D σ H1) : tIfS (tNot (tB te)) t u D σ H := h
theorem u_ifT {t u : TS} (h : te σ H fun x H1 => ∃ c, x = .bl c ∧ if c = true then t D σ H1 else u D σ H1) : tIfS (tTest te) t u D σ H := h
end
section
variable {P : Program} {w : World} {K : PySem.W.Frag} {mg : Str → Option Value} {base : Heap}
def arKey (p : Nat × Nat) : List Int := [(p.1 : Int), (p.2 : Int)]
theorem arKey_inj {p q : Nat × Nat} (h : arKey p = arKey q) : p = q := by
  simp only [arKey, List.cons.injEq, and_true] at h
  obtain ⟨a, b⟩ := p
  obtain ⟨c, d⟩ := q
  have h1 := h.1
  have h2 := h.2
  dsimp only at h1 h2
  rw [show a = c by omega, show b = d by omega]
/-- the ints of a list without twins, all below m and each there -/
theorem len_of_cov {L : List Int} {m : Nat} (nd : L.Nodup) (h1 : ∀ k ∈ L, 0 ≤ k ∧ k < m) (h2 : ∀ i < m, (i : Int) ∈ L) : L.length = m := by
  have hp : L.Perm ((List.range m).map fun i : Nat => (i : Int)) := by
    refine (List.perm_ext_iff_of_nodup nd ?_).mpr fun k => ?_
    · exact List.Pairwise.map _ (fun a b h e => h (by omega)) List.nodup_range
    · constructor
      · intro hk
        have := h1 k hk
        exact List.mem_map.mpr ⟨k.toNat, List.mem_range.mpr (by omega), by omega⟩
      · intro hk
        obtain ⟨i, hi, rfl⟩ := List.mem_map.mp hk
        exact h2 i (List.mem_range.mp hi)
  rw [hp.length_eq]; simp
theorem not_mem_take_nodup {α : Type} : ∀ {l : List α} {i : Nat} {x : α}, l.Nodup → l[i]? = some x → x ∉ l.take i
  | [], i, x, _, h => by simp at h
  | a :: l, 0, x, _, _ => by simp
  | a :: l, i + 1, x, nd, h => by
    obtain ⟨h1, h2⟩ := List.nodup_cons.mp nd
    rw [List.getElem?_cons_succ] at h
    rw [List.take_succ_cons]
    intro z
    rcases List.mem_cons.mp z with rfl | z
    · exact h1 (List.mem_of_getElem? h)
    · exact not_mem_take_nodup h2 h z
def sp_are_arrows  : Sp :=  fun vs H Q _ => ∃ b v xs as m, vs = [v, .int ((m : Nat) : Int)] ∧ SqK b H v xs ∧ Paired (ArAt H) xs as ∧ as.Nodup ∧ as.length ≤ 20 ∧ (∀ a ∈ as, a.1 < m ∧ a.2 < m) ∧ (∀ i < m, ∃ j, (i, j) ∈ as) ∧ ∀ H', Same H H' → Q (.bl true) H'
theorem sc_are_arrows : FnScope ["value", "many", "pair", "each", "one", "other", "_"] ["value", "many"] (defScope s_are_arrows) := ⟨rfl, rfl, rfl, by decide +kernel, rfl, by decide +kernel, by decide +kernel⟩
theorem c_are_arrows (T : Wd K mg base) : Cal P w K mg base 3 "are_arrows" sp_are_arrows [] := by
  obtain ⟨fd, F⟩ := T.d_are_arrows
  refine mkCal (k := 3 - 1) F T.g_are_arrows sc_are_arrows (F.bindsN fun _ _ _ _ _ _ us hl => match us, hl with | [_, _], _ => rfl) (fun vs H Q E h => ?_) (fun cdv A outer s H vs Q E hr h => ?_)
  · rcases h with ⟨b, v, xs, as, m, rfl, sx, ha, nd, hl, hr2, hcov, k⟩ <;> rfl
  · rcases h with ⟨b, v, xs, as, m, rfl, sx, ha, nd, hl, hr2, hcov, k⟩
    refine ⟨_, (pss_cons (ps_if (PW.pt (pw_or (pt_not (pt_val (pe_c (c_is_list T) hr (by decide) rfl (pa_cons (pv 0) pa_nil)))) (pw_or1 (pt_not (pt_val (pe_callB (cr_all rfl) (by rfl) T.f_all (by decide +kernel) (pa_cons (pe_lc (own := [("pair", 2)]) rfl sc_are_arrows.nd (pi_seq (pv 0)) (blkOk_by (own := [("pair", 2)]) (N := ["value", "many", "pair", "each", "one", "other", "_"]) (sc := defScope s_are_arrows) (by decide +kernel)) (fun _ _ _ _ _ => by exact (pg_name (i := 2) sc_are_arrows.nd rfl (by first | exact Or.inl rfl | exact Or.inr rfl))) (fun _ _ _ _ _ => by exact pts_nil) (fun _ _ _ _ _ => by exact (pe_and (pe_c (c_is_list T) hr (by decide) rfl (pa_cons (pv 2) pa_nil)) (pe_one (pe_cmpR op_eq (pe_callB (lenK (K := K) rfl) (by rfl) T.f_len (by decide +kernel) (pa_cons (pv 2) pa_nil)) pe_int (nomark _)))))) pa_nil))))))) (pss_one (ps_ret pe_bl)) pss_nil)
  (pss_cons (ps_if (pt_not (pt_val (pe_callB (cr_all rfl) (by rfl) T.f_all (by decide +kernel) (pa_cons (pe_lc2 (own := [("pair", 2), ("each", 3)]) rfl sc_are_arrows.nd (pi_seq (pv 0)) (blkOk_by (own := [("pair", 2), ("each", 3)]) (N := ["value", "many", "pair", "each", "one", "other", "_"]) (sc := defScope s_are_arrows) (by decide +kernel)) (vs1 := [3]) (by decide) (fun _ _ _ _ _ => by exact (pg_name (i := 2) sc_are_arrows.nd rfl (by first | exact Or.inl rfl | exact Or.inr rfl))) (fun _ _ _ _ _ => by exact pts_nil) (fun _ _ _ _ _ => by exact (seqK (K := K) rfl (pv 2))) (fun _ _ _ _ _ => by exact (pg_name (i := 3) sc_are_arrows.nd rfl (by first | exact Or.inl rfl | exact Or.inr rfl))) (fun _ _ _ _ _ => by exact pts_nil) (fun _ _ _ _ _ => by exact (pe_c (c_is_within T) hr (by decide) rfl (pa_cons (pv 3) (pa_cons pe_int (pa_cons (pe_op op_sub (pv 1) pe_int) pa_nil)))))) pa_nil)))) (pss_one (ps_ret pe_bl)) pss_nil)
  (pss_cons (ps_if (pt_cmpR op_lt (pe_callB len_tset (by rfl) T.f_len (by decide +kernel) (pa_cons (pe_scG t_new t_add (own := [("one", 4), ("other", 5)]) rfl sc_are_arrows.nd (pi_seq (pv 0)) (blkOk_by (own := [("one", 4), ("other", 5)]) (N := ["value", "many", "pair", "each", "one", "other", "_"]) (sc := defScope s_are_arrows) (by decide +kernel)) (fun _ _ _ _ _ => by exact (by refine pg_pair (K := K) (i := 4) (j := 5) ?_ ?_ ?_ ?_ ?_ ?_ ?_ <;> first | exact sc_are_arrows.nd | rfl)) (fun _ _ _ _ _ => by exact pts_nil) (fun _ _ _ _ _ => by exact (pe_tup (pa_cons (pv 4) (pa_cons (pv 5) pa_nil)))) (u64 hr)) pa_nil)) (pe_callB call_len_seq (by rfl) T.f_len (by decide +kernel) (pa_cons (pv 0) pa_nil)) (nomark _)) (pss_one (ps_ret pe_bl)) pss_nil)
  (pss_one (ps_ret (pe_cmpR op_eq (pe_callB len_iset (by rfl) T.f_len (by decide +kernel) (pa_cons (pe_scG i_new i_add (own := [("one", 4), ("_", 6)]) rfl sc_are_arrows.nd (pi_seq (pv 0)) (blkOk_by (own := [("one", 4), ("_", 6)]) (N := ["value", "many", "pair", "each", "one", "other", "_"]) (sc := defScope s_are_arrows) (by decide +kernel)) (fun _ _ _ _ _ => by exact (by refine pg_pair (K := K) (i := 4) (j := 6) ?_ ?_ ?_ ?_ ?_ ?_ ?_ <;> first | exact sc_are_arrows.nd | rfl)) (fun _ _ _ _ _ => by exact pts_nil) (fun _ _ _ _ _ => by exact (pv 4)) (u64 hr)) pa_nil)) (pv 1) (nomark _))))))), ?_⟩
    have hlen := ha.length
    obtain ⟨pv, rfl, _⟩ := id sx
    refine ⟨_, rfl, .inr ⟨_, _, rfl, sx.to, fun H1 s1 => ⟨_, rfl, iteF ?_⟩⟩⟩
    refine u_cb1 ?_
    refine lc_seq (H1 := H1) ?_ (sx.same s1) (by omega) (fun D i H' z => z = .bl true) (fun _ _ _ _ _ _ h => h) ?_ ?_ (fun _ => rfl)
    · exact gives_var rfl
    · intro D i x H' R hxi hD s2 hDn hR
      obtain ⟨a, ha2, hax⟩ := paired_get ha hxi
      have sa : SqK false H' x [.int (a.1 : Int), .int (a.2 : Int)] := SqK.same hax (s1.trans s2)
      obtain ⟨px, rfl, _⟩ := id sa
      refine ⟨_, rfl, .inr ⟨_, _, rfl, sa.to, fun H3 s3 => ⟨_, rfl, iteT ?_⟩⟩⟩
      refine ⟨_, rfl, _, _, rfl, (sa.same s3).or, ?_⟩
      exact ⟨rfl, hR _ _ s3 (congrArg V.bl (decide_eq_true rfl))⟩
    · intro D H2 zs hD s2 hDz hl2 hF
      refine ⟨_, _, rfl, SqL.of (by rw [← all_true hF]; exact hDz), ?_⟩
      rw [all_rep]
      refine ⟨_, rfl, iteF ?_⟩
      have s12 := s1.trans s2
      -- every one within
      refine u_next ?_
      dsimp only
      refine u_seq (u_ifN (u_cb1 ?_))
      refine lc2_seq (H1 := H2) (v := .ref pv) (b := b) (xs := xs) (tl2 := tVar 2) ?_ (sx.same s12) (fun E i H3 acc => Same H2 H3 ∧ acc = List.replicate (2 * i) (.bl true) ∧ i ≤ 20) (fun E i j H3 acc => Same H2 H3 ∧ acc = List.replicate (2 * i + j) (.bl true) ∧ i ≤ 20 ∧ j ≤ 2) ?_ ?_ ?_ ?_ ?_
      · exact gives_var rfl
      · intro E i H3 acc h
        exact (sx.same s12).same h.1
      · intro E hE
        exact ⟨Same.of_new hE, rfl, by omega⟩
      · rintro E i j H3 acc ⟨_, rfl, h1, h2⟩
        simp; omega
      · rintro E i x H3 acc hxi hE hE3 ⟨s3, rfl, hi⟩
        obtain ⟨a, ha2, hax⟩ := paired_get ha hxi
        have ss := s12.trans s3
        have hi2 : i < xs.length := (List.getElem?_eq_some_iff.mp hxi).1
        have sa : SqK false H3 x [.int (a.1 : Int), .int (a.2 : Int)] := SqK.same hax ss
        refine ⟨[some (.ref pv), some (.int (m : Int)), some x, none, none, none, none], rfl, fun Q q => q, x, false, _, gives_var rfl, sa, ⟨s3, rfl, hi, by omega⟩, ?_, ?_, ?_⟩
        · rintro j H4 acc' ⟨s4, _⟩
          exact SqK.same hax (s12.trans s4)
        · rintro j y H4 acc' R hy hE4 ⟨s4, rfl, _, hj⟩ hR
          refine ⟨[some (.ref pv), some (.int (m : Int)), some x, some y, none, none, none], rfl, fun Q q => q, ?_⟩
          have hy2 : ∃ k : Nat, y = .int (k : Int) ∧ k < m := by
            have h2 := hr2 a (mem_get ha2)
            match j, hy with
            | 0, hy => simp at hy; exact ⟨a.1, hy.symm, h2.1⟩
            | 1, hy => simp at hy; exact ⟨a.2, hy.symm, h2.2⟩
          have hj2 : j < 2 := (List.getElem?_eq_some_iff.mp hy).1
          obtain ⟨k', rfl, hk⟩ := hy2
          refine ⟨_, rfl, _, rfl, _, _, rfl, rfl, (k' : Int), some 0, some ((m : Int) - 1), rfl, ?_⟩
          have e : inR (k' : Int) (some 0) (some ((m : Int) - 1)) = true := by simp [inR]; omega
          rw [e]
          refine hR _ _ hE4 ⟨fun a o h => by rw [upd_ne (ne_of_none h hE)]; exact s4 a o h, ?_, hi, by omega⟩
          · rw [← Nat.add_assoc, List.replicate_succ']
        · rintro H4 acc' hE4 ⟨s4, rfl, _⟩
          exact ⟨s4, rfl, by omega⟩
      · rintro E H3 acc hE hE3 ⟨s3, rfl, _⟩
        refine ⟨E, List.replicate (2 * xs.length) true, rfl, SqL.of (by rw [List.map_replicate]; exact hE3), ?_⟩
        rw [all_rep]
        refine ⟨_, rfl, iteF ?_⟩
        have s13 := s12.trans s3
        refine u_next ?_
        dsimp only
        refine u_seq (u_ifT (u_op (u_cb1 ?_)))
        -- no twins
        refine scg_pairs (v := .ref pv) (b := b) (xs := xs) (H1 := H3) ?_ (sx.same s13) (fun E i H4 L => Same H3 H4 ∧ L.length = i ∧ (L.map (·.2)).Perm ((as.take i).map arKey) ∧ ∀ p ∈ L, H4 p.1 = some (.tup (p.2.map V.int))) ?_ ?_ ?_ ?_ (fun _ _ => rfl)
        · exact gives_var rfl
        · exact fun E i H4 L h => (sx.same s13).same h.1
        · exact fun E hE => ⟨Same.of_new hE, rfl, by simp, fun p hp => by simp at hp⟩
        · rintro E i x H4 L R hxi hE hE4 ⟨s4, hL, hperm, hall⟩ hR
          obtain ⟨a, ha2, hax⟩ := paired_get ha hxi
          refine ⟨_, _, SqK.same hax (s13.trans s4), ?_⟩
          have hi2 : i < xs.length := (List.getElem?_eq_some_iff.mp hxi).1
          have hnk : arKey a ∉ L.map (·.2) := fun z => by
            obtain ⟨q, hq, e⟩ := List.mem_map.mp (hperm.mem_iff.mp z)
            cases arKey_inj e
            exact not_mem_take_nodup nd ha2 hq
          refine u_tup ⟨_, rfl, _, rfl, (by show 2 ≤ sizeLine; decide), fun t ht => ?_⟩
          have htE : t ≠ E := fun e => by rw [e, hE4] at ht; cases ht
          refine hR (.ref t) _ (by rw [upd_ne (Ne.symm htE)]; exact hE4) ⟨⟨t, arKey a, rfl, upd_same⟩, fun p hp => ?_, by omega⟩ ?_
          · rw [upd_ne (ne_of_none (hall p hp) ht)]; exact hall p hp
          · rintro L' ⟨a', k', e, ek, _, hpm⟩
            cases e
            rw [upd_same] at ek
            have e2 : arKey a = k' := by
              have := HO.tup.inj (Option.some.inj ek)
              exact (List.map_inj_right (fun x y h => V.int.inj h)).mp this
            subst e2
            have hpm := hpm hnk
            refine ⟨fun b o h => ?_, by rw [hpm.length_eq]; simp [hL], ?_, fun p hp => ?_⟩
            · rw [upd_ne (ne_of_none h hE), upd_ne (ne_of_none (s4 b o h) ht)]; exact s4 b o h
            · refine (hpm.map (·.2)).trans ?_
              rw [take_snoc ha2, List.map_append]
              exact (List.Perm.cons _ hperm).trans (List.perm_append_comm (l₁ := [arKey a]))
            · have hp2 := hpm.mem_iff.mp hp
              rcases List.mem_cons.mp hp2 with rfl | hp2
              · show (L2.upd _ E _) t = _
                rw [upd_ne htE, upd_same]; rfl
              · have h3 := hall p hp2
                have n1 : p.1 ≠ E := fun e => by rw [e, hE4] at h3; cases h3
                rw [upd_ne n1, upd_ne (ne_of_none h3 ht)]; exact h3
        · rintro E H4 L hE hE4 ⟨s4, hL, hperm, hall⟩
          refine ⟨_, _, rfl, hE4, hall, ?_⟩
          have s14 := s13.trans s4
          refine ⟨_, rfl, _, _, rfl, (sx.same s14).or, _, _, rfl, rfl, _, rfl, itf (by rw [hL]; simp) ?_⟩
          refine u_next ?_
          dsimp only
          refine u_ret (u_op (u_cb1 ?_))
          refine scg_pairs (v := .ref pv) (b := b) (xs := xs) (H1 := H4) ?_ (sx.same s14) (fun E i H5 L => Same H4 H5 ∧ L.Nodup ∧ L.length ≤ i ∧ i ≤ 20 ∧ (∀ k ∈ L, 0 ≤ k ∧ k < (m : Int)) ∧ ∀ j < i, ∀ a, as[j]? = some a → (a.1 : Int) ∈ L) ?_ ?_ ?_ ?_ (fun _ _ => rfl)
          · exact gives_var rfl
          · exact fun E i H5 L h => (sx.same s14).same h.1
          · exact fun F hF => ⟨Same.of_new hF, List.nodup_nil, by simp, by omega, fun k hk => by simp at hk, fun j hj => by omega⟩
          · rintro F i x H5 L5 R hxi hF hF5 ⟨s5, hnd, hln, h20, hin, hcv⟩ hR
            obtain ⟨a, ha2, hax⟩ := paired_get ha hxi
            have hi2 : i < xs.length := (List.getElem?_eq_some_iff.mp hxi).1
            refine ⟨_, _, SqK.same hax (s14.trans s5), _, rfl, ?_⟩
            refine hR _ _ hF5 ⟨⟨_, rfl⟩, by omega⟩ ?_
            rintro L' ⟨k', e, eL⟩
            cases e
            subst eL
            refine ⟨fun b o h => by rw [upd_ne (ne_of_none h hF)]; exact s5 b o h, ?_, ?_, by omega, ?_, ?_⟩
            · split
              · exact hnd
              · rename_i hn
                exact List.nodup_append.mpr ⟨hnd, by simp, fun x hx y hy e => by simp at hy; subst hy; subst e; exact hn hx⟩
            · split
              · omega
              · rw [List.length_append]; simp; omega
            · intro k hk
              have h1 := (hr2 a (mem_get ha2)).1
              have : k ∈ L5 ∨ k = (a.1 : Int) := by
                split at hk
                · exact .inl hk
                · rcases List.mem_append.mp hk with h | h
                  · exact .inl h
                  · simp at h; exact .inr h
              rcases this with h | rfl
              · exact hin k h
              · omega
            · intro j hj a' ha'
              by_cases hji : j < i
              · have := hcv j hji a' ha'
                split
                · exact this
                · exact List.mem_append_left _ this
              · have : j = i := by omega
                subst this
                rw [ha2] at ha'; cases ha'
                split
                · assumption
                · simp
          · rintro F H5 L5 hF hF5 ⟨s5, hnd, hln, h20, hin, hcv⟩
            have e := len_of_cov hnd hin (fun i hi => by
              obtain ⟨j, hj⟩ := hcov i hi
              obtain ⟨n, hn, e⟩ := List.mem_iff_getElem.mp hj
              exact hcv n (by omega) (i, j) (by rw [List.getElem?_eq_getElem hn, e]))
            refine ⟨_, _, rfl, hF5, by omega, _, rfl, rfl, ?_⟩
            have hk := k H5 (s14.trans s5)
            rw [decide_eq_true (show V.int (L5.length : Int) = V.int (m : Int) by rw [e])]
            exact hk
end
end Hp
namespace Hp
set_option Elab.async false
set_option linter.all false
set_option maxRecDepth 100000
set_option maxHeartbeats 4000000
open PySem PySem.Spec PyProof.Rows L2 NdefX
theorem paired_perm {α β : Type} {R : α → β → Prop} {xs ys : List α} (p : ys.Perm xs) : ∀ {as : List β}, Paired R xs as → ∃ as' : List β, as'.Perm as ∧ Paired R ys as' := by
  induction p with
  | nil => intro as h; cases h; exact ⟨[], .nil, .nil⟩
  | cons x _ ih =>
    intro as h
    cases h with
    | cons h t =>
      obtain ⟨as', p', h'⟩ := ih t
      exact ⟨_ :: as', p'.cons _, .cons h h'⟩
  | swap x y l =>
    intro as h
    cases h with
    | cons h1 t =>
      cases t with
      | cons h2 t => exact ⟨_ :: _ :: _, .swap _ _ _, .cons h2 (.cons h1 t)⟩
  | trans _ _ ih1 ih2 =>
    intro as h
    obtain ⟨a1, p1, h1⟩ := ih2 h
    obtain ⟨a2, p2, h2⟩ := ih1 h1
    exact ⟨a2, p2.trans p1, h2⟩
/-- the two ints of the pair at x -/
def kOf (H : Hp) : V → Int × Int
  | .ref t => match H t with
    | some (.tup [.int i, .int j]) => (i, j)
    | _ => (0, 0)
  | _ => (0, 0)
theorem kOf_at {H : Hp} {x : V} {p : Nat × Nat} (h : ArAt H x p) : ∃ t, x = .ref t ∧ H t = some (.tup [.int (kOf H x).1, .int (kOf H x).2]) := by
  obtain ⟨t, rfl, e⟩ := h
  refine ⟨t, rfl, ?_⟩
  show H t = some (.tup [.int (kOf H (.ref t)).1, .int (kOf H (.ref t)).2])
  have e2 : kOf H (.ref t) = ((p.1 : Int), (p.2 : Int)) := by
    show (match H t with
    | some (.tup [.int i, .int j]) => (i, j)
    | _ => ((0 : Int), (0 : Int))) = _
    rw [show H t = some (.tup [.int (p.1 : Int), .int (p.2 : Int)]) from e]
  rw [e2]; exact e
section
variable {P : Program} {w : World} {K : PySem.W.Frag} {mg : Str → Option Value} {base : Heap}
def sp_Machine_init  : Sp :=  fun vs H Q _ => ∃ a dx v u b b2 xs ms g us as, vs = [.ref a, v, u] ∧ H a = some (.ins (He.ga K "Machine") dx []) ∧ SqK b H v xs ∧ RowsAt H xs ms ∧ ms ≠ [] ∧ ms.length ≤ 6 ∧ (∀ m ∈ ms, m.length = g ∧ MixOk m) ∧ 1 ≤ g ∧ g ≤ 5 ∧ SqK b2 H u us ∧ Paired (ArAt H) us as ∧ as.Nodup ∧ as.length ≤ 20 ∧ (∀ p ∈ as, p.1 < ms.length ∧ p.2 < ms.length) ∧ (∀ i < ms.length, ∃ j, (i, j) ∈ as) ∧
  ∀ H' as', SameB a H H' → as'.Perm as → MacAt K H' (.ref a) g ms as' → Q .non H'
theorem sc_Machine_init : FnScope ["self", "mixes", "arrows", "mix", "at", "one", "other"] ["self", "mixes", "arrows"] (defScope s_Machine_init) := ⟨rfl, rfl, rfl, by decide +kernel, rfl, by decide +kernel, by decide +kernel⟩
theorem i_Machine (T : Wd K mg base) : Ini P w K mg base 8 (iAd K "Machine") (sp_Machine_init (K := K)) := by
  obtain ⟨fd, F⟩ := T.d_Machine_init
  refine mkIni (k := 8 - 1) F sc_Machine_init (F.bindsN fun _ _ _ _ _ _ us hl => match us, hl with | [_, _, _], _ => rfl) (fun vs H Q E h => ?_) (fun cdv A outer s H vs Q E hr h => ?_)
  · rcases h with ⟨a, dx, v, u, b, b2, xs, ms, g, us, as, rfl, ea, sx, hm, hne, hl6, hok, hg1, hg5, su, ha, nd, hl20, hin, hcov, kk⟩ <;> rfl
  · rcases h with ⟨a, dx, v, u, b, b2, xs, ms, g, us, as, rfl, ea, sx, hm, hne, hl6, hok, hg1, hg5, su, ha, nd, hl20, hin, hcov, kk⟩
    refine ⟨_, (pss_cons (ps_if (pt_not (pt_val (pe_c (c_are_mixes T) hr (by decide) rfl (pa_cons (pv 1) pa_nil)))) pss_never pss_nil)
        (pss_cons (ps_if (pt_not (pt_val (pe_c (c_are_arrows T) hr (by decide) rfl (pa_cons (pv 2) (pa_cons (pe_callB call_len_seq (by rfl) T.f_len (by decide +kernel) (pa_cons (pv 1) pa_nil)) pa_nil))))) pss_never pss_nil)
        (pss_cons (ps_fld (pv 0) (pe_callTy call_tuple_of (by rfl) T.f_tuple (by decide +kernel) (pa_cons (pe_lc (own := [("mix", 3)]) rfl sc_Machine_init.nd (pi_seq (pv 1)) (blkOk_by (own := [("mix", 3)]) (N := ["self", "mixes", "arrows", "mix", "at", "one", "other"]) (sc := defScope s_Machine_init) (by decide +kernel)) (fun _ _ _ _ _ => by exact (pg_name (i := 3) sc_Machine_init.nd rfl (by first | exact Or.inl rfl | exact Or.inr rfl))) (fun _ _ _ _ _ => by exact pts_nil) (fun _ _ _ _ _ => by exact (pe_c (c_kept_row T) hr (by decide) rfl (pa_cons (pv 3) pa_nil)))) pa_nil)) rfl)
        (pss_cons (ps_fld (pv 0) (pe_callTy call_tuple_of (by rfl) T.f_tuple (by decide +kernel) (pa_cons (pe_callB cr_sortedPO (by rfl) T.f_sorted (by decide +kernel) (pa_cons (pe_lc (own := [("one", 5), ("other", 6)]) rfl sc_Machine_init.nd (pi_seq (pv 2)) (blkOk_by (own := [("one", 5), ("other", 6)]) (N := ["self", "mixes", "arrows", "mix", "at", "one", "other"]) (sc := defScope s_Machine_init) (by decide +kernel)) (fun _ _ _ _ _ => by exact (by refine pg_pair (K := K) (i := 5) (j := 6) ?_ ?_ ?_ ?_ ?_ ?_ ?_ <;> first | exact sc_Machine_init.nd | rfl)) (fun _ _ _ _ _ => by exact pts_nil) (fun _ _ _ _ _ => by exact (pe_tup (pa_cons (pv 5) (pa_cons (pv 6) pa_nil))))) pa_nil)) pa_nil)) rfl)
        (pss_cons (ps_fld (pv 0) (pe_callB call_len_seq (by rfl) T.f_len (by decide +kernel) (pa_cons (pe_fld (pv 0) rfl) pa_nil)) rfl)
        (pss_cons (ps_fld (pv 0) (pe_callB call_len_seq (by rfl) T.f_len (by decide +kernel) (pa_cons (pe_ix ix_seq (pe_fld (pv 0) rfl) pe_int (fun _ _ => rfl)) pa_nil)) rfl)
        (pss_one (ps_fld (pv 0) (pe_callTy call_tuple_of (by rfl) T.f_tuple (by decide +kernel) (pa_cons (pe_lc (own := [("at", 4)]) rfl sc_Machine_init.nd (pi_range1 rfl T.f_range (pa_cons (pe_fld (pv 0) rfl) pa_nil)) (blkOk_by (own := [("at", 4)]) (N := ["self", "mixes", "arrows", "mix", "at", "one", "other"]) (sc := defScope s_Machine_init) (by decide +kernel)) (fun _ _ _ _ _ => by exact (pg_name (i := 4) sc_Machine_init.nd rfl (by first | exact Or.inl rfl | exact Or.inr rfl))) (fun _ _ _ _ _ => by exact pts_nil) (fun _ _ _ _ _ => by exact (pe_callTy (tupofK (K := K) rfl) (by rfl) T.f_tuple (by decide +kernel) (pa_cons (pe_lc (own := [("one", 5), ("other", 6)]) rfl sc_Machine_init.nd (seqK (K := K) rfl (fldK (K := K) rfl (pv 0) rfl)) (blkOk_by (own := [("one", 5), ("other", 6)]) (by kernel_rfl)) (fun _ _ _ _ _ => by exact (by refine pg_pair (K := K) (i := 5) (j := 6) ?_ ?_ ?_ ?_ ?_ ?_ ?_ <;> first | exact sc_Machine_init.nd | rfl)) (fun _ _ _ _ _ => by exact (pts_one (pt_cmpR op_eq (pv 5) (pv 4) (nomark _)))) (fun _ _ _ _ _ => by exact (pv 6))) pa_nil)))) pa_nil)) rfl)))))))), ?_⟩
    have hlm := hm.length
    have hla := ha.length
    obtain ⟨pv, rfl, hpv⟩ := id sx
    obtain ⟨pu, rfl, hpu⟩ := id su
    refine ⟨_, rfl, b, _, xs, ms, g, rfl, sx, hm, hne, hl6, hok, hg1, hg5, fun H1 s1 => ⟨_, rfl, iteF ?_⟩⟩
    refine ⟨_, rfl, _, rfl, _, _, rfl, (sx.same s1).or, b2, _, us, as, ms.length, by rw [hlm]; rfl, su.same s1, Paired.mapP ha fun _ _ q => SqK.same q s1, nd, hl20, hin, hcov, fun H2 s2 => ⟨_, rfl, iteF ?_⟩⟩
    have s12 := s1.trans s2
    refine u_next ?_
    dsimp only
    refine u_seq (u_fld (u_cb1 ?_))
    refine lc_seq (H1 := H2) ?_ (sx.same s12) (by omega) (fun D i H' z => ∀ m, ms[i]? = some m → RowAt H' z m) (fun D i H H' y c h m hm => (h m hm).n c.n) ?_ ?_ (fun _ => rfl)
    · exact gives_var rfl
    · intro D i x H' R hx hD s3 hDn hR
      obtain ⟨m, hm', zs, sz, hz⟩ := paired_get hm hx
      have ss := s12.trans s3
      refine ⟨_, rfl, false, x, zs, m, rfl, SqK.same sz ss, hz.mono ss.n, ?_, fun p H4 s4 hp0 hp => hR _ _ s4 fun m2 hm2 => ?_⟩
      · rw [hz.length, (hok m (mem_get hm')).1]; omega
      · rw [hm'] at hm2; cases hm2
        exact ⟨zs, SqK.tup hp, (hz.mono ss.n).mono s4.n⟩
    · intro D H3 zs hD s3 hDz hl2 hF
      refine ⟨D, zs, rfl, .inl ⟨SqL.of hDz, fun pm npm => ?_⟩⟩
      have s4 : Same H3 (L2.upd H3 pm (.tup zs)) := Same.of_new npm
      have hrows : RowsAt (L2.upd H3 pm (.tup zs)) zs ms := paired_of (by omega) fun j x m hx hm2 => (hF j x hx m hm2).n s4.n
      have hpm : (L2.upd H3 pm (.tup zs)) pm = some (.tup zs) := upd_same
      have s14 := (s12.trans s3).trans s4
      generalize L2.upd H3 pm (.tup zs) = H4 at s4 hrows hpm s14 ⊢
      have e4 := s14 _ _ ea
      have npa : pm ≠ a := fun z => by rw [z, e4] at hpm; cases hpm
      refine ⟨_, rfl, a, _, dx, _, rfl, e4, T.c_Machine, T.n_Machine_mixes, by decide, ?_⟩
      generalize ef1 : putF "mixes" (.ref pm) [] = f1
      have l1 : f1.length ≤ 1 := by rw [← ef1]; exact putF_len _ _ []
      have e5 : (L2.upd H4 a (.ins (He.ga K "Machine") dx f1)) a = some (.ins (He.ga K "Machine") dx f1) := upd_same
      have sb5 : SameB a H (L2.upd H4 a (.ins (He.ga K "Machine") dx f1)) := SameB.put (SameB.of s14)
      have sb45 : SameB a H4 (L2.upd H4 a (.ins (He.ga K "Machine") dx f1)) := SameB.upd
      have hpm5 := sb45 _ _ npa hpm
      have hrows5 : RowsAt _ zs ms := Paired.mapP hrows fun _ _ q => sb45.row e4 q
      generalize L2.upd H4 a (.ins (He.ga K "Machine") dx f1) = H5 at e5 sb5 sb45 hpm5 hrows5 ⊢
      have su5 : SqK b2 H5 (.ref pu) us := ⟨pu, rfl, sb5 _ _ (fun z => by rw [z, ea] at hpu; cases b2 <;> cases hpu) hpu⟩
      have ha5 : Paired (ArAt H5) us as := Paired.mapP ha fun _ _ q => sb5.sq ea q
      dsimp only
      refine u_seq (u_fld (u_cb1 (u_cb1 ?_)))
      refine lcg_pairs (H1 := H5) (v := .ref pu) (b := b2) (xs := us) ?_ su5 (by omega) (fun D i H' acc => Same H5 H' ∧ Paired (ArAt H') acc (as.take i)) (fun D i H' acc h => su5.same h.1) ?_ ?_ ?_ (fun _ _ => rfl)
      · exact gives_var rfl
      · exact fun D hD => ⟨Same.of_new hD, by rw [List.take_zero]; exact .nil⟩
      · rintro D i x H6 acc R Z hx hD hl hDa ⟨s6, hp6⟩ hR _
        obtain ⟨q, hq, hxq⟩ := paired_get ha5 hx
        refine ⟨_, _, SqK.same hxq s6, yesG ?_⟩
        refine u_tup ⟨_, rfl, _, rfl, (by show 2 ≤ sizeLine; decide), fun t ht => ?_⟩
        have s7 := Same.of_new (o := .tup [V.int (q.1 : Int), V.int (q.2 : Int)]) ht
        refine hR (.ref t) _ (s7 _ _ hDa) ⟨fun b o h => ?_, ?_⟩
        · rw [upd_ne (ne_of_none h hD)]; exact s7 _ _ (s6 _ _ h)
        · have sn := SameN.lst (ys := acc ++ [V.ref t]) (s7 _ _ hDa)
          rw [take_snoc hq]
          exact paired_append (ArsAt.n (ArsAt.n hp6 s7.n) sn) (.cons (ArAt.n (SqK.tup upd_same) sn) .nil)
      · rintro D H6 acc hD hDa ⟨s6, hp6⟩
        rw [hla, List.take_length] at hp6
        refine ⟨D, acc, kOf H6, rfl, SqL.of hDa, fun x hx => ?_, fun ys p hsrt hstb hp => ?_⟩
        · obtain ⟨i, hi, rfl⟩ := List.mem_iff_getElem.mp hx
          obtain ⟨q, _, hq⟩ := paired_get hp6 (List.getElem?_eq_getElem hi)
          exact kOf_at hq
        obtain ⟨as', hpm', hp7⟩ := paired_perm hstb.perm hp6
        have s7 := Same.of_new (o := .lst ys) hp
        refine ⟨p, ys, rfl, .inl ⟨SqL.of upd_same, fun pa npa2 => ?_⟩⟩
        have s8 := Same.of_new (o := .tup ys) npa2
        have s58 := (s6.trans s7).trans s8
        have hpa : (L2.upd (L2.upd H6 p (.lst ys)) pa (.tup ys)) pa = some (.tup ys) := upd_same
        have hp8 : Paired (ArAt (L2.upd (L2.upd H6 p (.lst ys)) pa (.tup ys))) ys as' := ArsAt.n (ArsAt.n hp7 s7.n) s8.n
        generalize L2.upd (L2.upd H6 p (.lst ys)) pa (.tup ys) = H8 at s58 hpa hp8 ⊢
        have e8 := s58 _ _ e5
        have nqa : pa ≠ a := fun z => by rw [z, e8] at hpa; cases hpa
        refine ⟨_, rfl, a, _, dx, _, rfl, e8, T.c_Machine, T.n_Machine_arrows, by omega, ?_⟩
        generalize ef2 : putF "arrows" (.ref pa) f1 = f2
        have l2 : f2.length ≤ 2 := by rw [← ef2]; have := putF_len "arrows" (.ref pa) f1; omega
        have e9 : (L2.upd H8 a (.ins (He.ga K "Machine") dx f2)) a = some (.ins (He.ga K "Machine") dx f2) := upd_same
        have sb9 : SameB a H (L2.upd H8 a (.ins (He.ga K "Machine") dx f2)) := SameB.put (sb5.trans (SameB.of s58))
        have sb89 : SameB a H8 (L2.upd H8 a (.ins (He.ga K "Machine") dx f2)) := SameB.upd
        have hpm9 := sb89 _ _ npa (s58 _ _ hpm5)
        have hpa9 := sb89 _ _ nqa hpa
        have hrows9 : RowsAt _ zs ms := Paired.mapP hrows5 fun _ _ q => sb89.row e8 (q.n s58.n)
        have har9 : Paired (ArAt _) ys as' := Paired.mapP hp8 fun _ _ q => sb89.sq e8 q
        generalize L2.upd H8 a (.ins (He.ga K "Machine") dx f2) = H9 at e9 sb9 sb89 hpm9 hpa9 hrows9 har9 ⊢
        have gm2 : f2.lookup ("mixes" : Str) = some (.ref pm) := by rw [← ef2, getN (by decide), ← ef1, getP]
        have ga2 : f2.lookup ("arrows" : Str) = some (.ref pa) := by rw [← ef2, getP]
        have c := T.c_Machine
        refine ⟨_, rfl, a, _, dx, _, _, rfl, e9, c, T.n_Machine_mixes, gm2, _, _, rfl, (SqK.tup hpm9).or, ?_⟩
        refine ⟨_, rfl, a, _, dx, _, rfl, e9, c, T.n_Machine_many, by omega, ?_⟩
        generalize ef3 : putF "many" (.int (zs.length : Int)) f2 = f3
        have l3 : f3.length ≤ 3 := by rw [← ef3]; have := putF_len "many" (.int (zs.length : Int)) f2; omega
        have e10 : (L2.upd H9 a (.ins (He.ga K "Machine") dx f3)) a = some (.ins (He.ga K "Machine") dx f3) := upd_same
        have sb10 : SameB a H (L2.upd H9 a (.ins (He.ga K "Machine") dx f3)) := SameB.put sb9
        have sbb : SameB a H9 (L2.upd H9 a (.ins (He.ga K "Machine") dx f3)) := SameB.upd
        have hpm10 := sbb _ _ npa hpm9
        have hpa10 := sbb _ _ nqa hpa9
        have hrows10 : RowsAt _ zs ms := Paired.mapP hrows9 fun _ _ q => sbb.row e9 q
        have har10 : Paired (ArAt _) ys as' := Paired.mapP har9 fun _ _ q => sbb.sq e9 q
        generalize L2.upd H9 a (.ins (He.ga K "Machine") dx f3) = H10 at e10 sb10 sbb hpm10 hpa10 hrows10 har10 ⊢
        have gm3 : f3.lookup ("mixes" : Str) = some (.ref pm) := by rw [← ef3, getN (by decide), gm2]
        have ga3 : f3.lookup ("arrows" : Str) = some (.ref pa) := by rw [← ef3, getN (by decide), ga2]
        have gn3 : f3.lookup ("many" : Str) = some (.int (zs.length : Int)) := by rw [← ef3, getP]
        have hz0 : 0 < zs.length := by
          cases ms with
          | nil => exact absurd rfl hne
          | cons a l => rw [hl2, hlm]; simp
        have h0 : zs[0]? = some zs[0] := by simp
        obtain ⟨m0, hm0, zs0, sz0, hzz⟩ := paired_get hrows10 h0
        obtain ⟨p0, ez, hp0⟩ := id sz0
        rw [ez] at h0 sz0
        have hz0l : (zs0.length : Int) = (g : Int) := by rw [hzz.length, (hok m0 (mem_get hm0)).1]
        refine ⟨_, rfl, a, _, dx, _, _, rfl, e10, c, T.n_Machine_mixes, gm3, ?_⟩
        refine ixOf (i := 0) (SqK.tup hpm10) h0 ⟨_, _, rfl, sz0.or, ?_⟩
        rw [hz0l]
        refine ⟨_, rfl, a, _, dx, _, rfl, e10, c, T.n_Machine_goods, by omega, ?_⟩
        generalize ef4 : putF "goods" (.int (g : Int)) f3 = f4
        have l4 : f4.length ≤ 4 := by rw [← ef4]; have := putF_len "goods" (.int (g : Int)) f3; omega
        have e11 : (L2.upd H10 a (.ins (He.ga K "Machine") dx f4)) a = some (.ins (He.ga K "Machine") dx f4) := upd_same
        have sb11 : SameB a H (L2.upd H10 a (.ins (He.ga K "Machine") dx f4)) := SameB.put sb10
        have sbc : SameB a H10 (L2.upd H10 a (.ins (He.ga K "Machine") dx f4)) := SameB.upd
        have hpm11 := sbc _ _ npa hpm10
        have hpa11 := sbc _ _ nqa hpa10
        have hrows11 : RowsAt _ zs ms := Paired.mapP hrows10 fun _ _ q => sbc.row e10 q
        have har11 : Paired (ArAt _) ys as' := Paired.mapP har10 fun _ _ q => sbc.sq e10 q
        generalize L2.upd H10 a (.ins (He.ga K "Machine") dx f4) = H11 at e11 sb11 sbc hpm11 hpa11 hrows11 har11 ⊢
        have gm4 : f4.lookup ("mixes" : Str) = some (.ref pm) := by rw [← ef4, getN (by decide), gm3]
        have ga4 : f4.lookup ("arrows" : Str) = some (.ref pa) := by rw [← ef4, getN (by decide), ga3]
        have gn4 : f4.lookup ("many" : Str) = some (.int (zs.length : Int)) := by rw [← ef4, getN (by decide), gn3]
        have gg4 : f4.lookup ("goods" : Str) = some (.int (g : Int)) := by rw [← ef4, getP]
        dsimp only
        refine u_fld (u_cb1 ?_)
        refine lc_rng1 (H1 := H11) (n := zs.length) ?_ (by omega) (fun D i H' z => True) (fun _ _ _ _ _ _ h => h) ?_ ?_ (fun _ => rfl)
        · intro R r
          exact ⟨_, rfl, a, _, dx, _, _, rfl, e11, c, T.n_Machine_many, gn4, r⟩
        · intro D1 i H12 R hi hD1 s12' hDn hR
          refine u_cb1 ?_
          refine lcg_pairs (H1 := H12) (v := .ref pa) (b := false) (xs := ys) ?_ (SqK.tup (s12' _ _ hpa11)) (by rw [har11.length, hpm'.length_eq]; omega) (fun D i H' acc => Same H12 H') (fun D i H' acc h => (SqK.tup (s12' _ _ hpa11)).same h) ?_ ?_ ?_ (fun _ _ => rfl)
          · intro R r
            exact ⟨_, rfl, a, _, dx, _, _, rfl, s12' _ _ e11, c, T.n_Machine_arrows, ga4, r⟩
          · exact fun D hD => Same.of_new hD
          · rintro D j x H13 acc R2 Z hx hD hl hDa s13 hR2 hZ
            obtain ⟨q, hq, hxq⟩ := paired_get har11 hx
            refine ⟨_, _, SqK.same hxq (s12'.trans s13), _, rfl, _, rfl, rfl, _, rfl, u_if (fun _ => ?_) (fun _ => ?_)⟩
            · refine ⟨_, rfl, hR2 _ _ hDa fun b o h => ?_⟩
              rw [upd_ne (ne_of_none h hD)]; exact s13 b o h
            · exact hZ _ hDa s13
          · rintro D H13 acc hD hDa s13
            refine ⟨D, acc, rfl, .inl ⟨SqL.of hDa, fun p hp => hR _ _ (s13.trans (Same.of_new hp)) trivial⟩⟩
        · intro D H12 zs2 hD s12' hDz hl2' _
          refine ⟨D, zs2, rfl, .inl ⟨SqL.of hDz, fun pl npl => ?_⟩⟩
          have s13 := s12'.trans (Same.of_new (o := .tup zs2) npl)
          refine ⟨_, rfl, a, _, dx, _, rfl, s13 _ _ e11, c, T.n_Machine_leads, by omega, ?_⟩
          have sb13 := sb11.trans (SameB.of s13)
          have sbd : SameB a (L2.upd H12 pl (.tup zs2)) (L2.upd (L2.upd H12 pl (.tup zs2)) a (.ins (He.ga K "Machine") dx (putF "leads" (.ref pl) f4))) := SameB.upd
          refine kk _ as' (sb13.trans sbd) hpm' ⟨_, .ref pm, zs, .ref pa, ys, ⟨a, dx, rfl, upd_same⟩, (getN (by decide) _ _).trans gm4, ?_, ?_, (getN (by decide) _ _).trans ga4, ?_, ?_, ?_, ?_⟩
          · exact SqK.tup (sbd _ _ npa (s13 _ _ hpm11))
          · exact Paired.mapP hrows11 fun _ _ q => sbd.row (s13 _ _ e11) (q.n s13.n)
          · exact SqK.tup (sbd _ _ nqa (s13 _ _ hpa11))
          · exact Paired.mapP har11 fun _ _ q => sbd.sq (s13 _ _ e11) (SqK.same q s13)
          · exact (getN (by decide) _ _).trans (by rw [gn4, hl2, hlm])
          · exact (getN (by decide) _ _).trans gg4
theorem m_Machine (T : Wd K mg base) : Mak P w K mg base 8 "Machine" (He.ga K "Machine") (sp_Machine_init (K := K)) [] := (i_Machine T).mak T.k_Machine T.g_Machine
end
end Hp
/-! Plain mathematics: the undoing of a square, row by row. -/
namespace Hp
set_option autoImplicit false
/-! ### sums -/
def sm : Nat → (Nat → Rat) → Rat
  | 0, _ => 0
  | n + 1, f => f 0 + sm n (fun i => f (i + 1))
theorem sm_congr {n : Nat} {f g : Nat → Rat} (h : ∀ i, i < n → f i = g i) : sm n f = sm n g := by
  induction n generalizing f g with
  | zero => rfl
  | succ n ih =>
    show f 0 + _ = g 0 + _
    rw [h 0 (by omega), ih fun i hi => h (i + 1) (by omega)]
theorem sm_add (n : Nat) (f g : Nat → Rat) : sm n (fun i => f i + g i) = sm n f + sm n g := by
  induction n generalizing f g with
  | zero => exact (Rat.add_zero 0).symm
  | succ n ih =>
    show (f 0 + g 0) + sm n (fun i => f (i + 1) + g (i + 1)) = (f 0 + sm n _) + (g 0 + sm n _)
    rw [ih (fun i => f (i + 1)) (fun i => g (i + 1))]
    grind
theorem sm_mul (n : Nat) (c : Rat) (f : Nat → Rat) : sm n (fun i => c * f i) = c * sm n f := by
  induction n generalizing f with
  | zero => simp [sm]
  | succ n ih =>
    show c * f 0 + sm n (fun i => c * f (i + 1)) = c * (f 0 + sm n _)
    rw [ih (fun i => f (i + 1))]
    grind
theorem sm_zero {n : Nat} {f : Nat → Rat} (h : ∀ i, i < n → f i = 0) : sm n f = 0 := by
  rw [sm_congr h]
  induction n with
  | zero => rfl
  | succ n ih =>
    show (0 : Rat) + sm n (fun _ => 0) = 0
    rw [ih fun i hi => h i (by omega), Rat.zero_add]
theorem sm_single {n j : Nat} {f : Nat → Rat} (hj : j < n) (h : ∀ i, i < n → i ≠ j → f i = 0) : sm n f = f j := by
  induction n generalizing f j with
  | zero => omega
  | succ n ih =>
    show f 0 + sm n (fun i => f (i + 1)) = f j
    cases j with
    | zero =>
      rw [sm_zero fun i hi => h (i + 1) (by omega) (by omega), Rat.add_zero]
    | succ j =>
      rw [ih (j := j) (f := fun i => f (i + 1)) (by omega) fun i hi hn => h (i + 1) (by omega) (by omega), h 0 (by omega) (by omega), Rat.zero_add]
theorem sm_swap (n m : Nat) (f : Nat → Nat → Rat) : sm n (fun i => sm m (fun j => f i j)) = sm m (fun j => sm n (fun i => f i j)) := by
  induction n generalizing f with
  | zero => exact (sm_zero fun _ _ => rfl).symm
  | succ n ih =>
    show sm m (fun j => f 0 j) + sm n (fun i => sm m (fun j => f (i + 1) j)) = sm m (fun j => f 0 j + sm n (fun i => f (i + 1) j))
    rw [ih fun i j => f (i + 1) j, sm_add]
theorem sm_sub (n : Nat) (f g : Nat → Rat) : sm n (fun i => f i - g i) = sm n f - sm n g := by
  have h := sm_add n f (fun i => (-1) * g i)
  rw [sm_mul] at h
  rw [show (fun i => f i - g i) = (fun i => f i + (-1) * g i) from by funext i; grind, h]
  grind
theorem rsum_sm (l : List Rat) : rsum l = sm l.length (fun i => l.getD i 0) := by
  induction l with
  | nil => rfl
  | cons a l ih =>
    show a + rsum l = sm (l.length + 1) _
    rw [ih]; rfl
theorem rdot_sm : ∀ (a b : List Rat), a.length = b.length → rdot a b = sm a.length (fun i => a.getD i 0 * b.getD i 0)
  | [], [], _ => rfl
  | x :: a, y :: b, h => by
    show x * y + rdot a b = sm (a.length + 1) _
    rw [rdot_sm a b (by simpa using h)]; rfl
/-! ### sizes -/
def Sx (k : Nat) (q : Rat) : Prop := ∃ D N : Nat, Bd D N q ∧ 0 < D ∧ D < 2 ^ k ∧ N < 2 ^ k
theorem Sx.mono {k l : Nat} {q : Rat} (h : Sx k q) (e : k ≤ l) : Sx l q := by
  obtain ⟨D, N, b, d, h1, h2⟩ := h
  have := Nat.pow_le_pow_right (n := 2) (by decide) e
  exact ⟨D, N, b, d, by omega, by omega⟩
theorem mul_lt2 {a b k l : Nat} (h1 : a < 2 ^ k) (h2 : b < 2 ^ l) : a * b < 2 ^ (k + l) := by
  rw [Nat.pow_add]
  exact Nat.mul_lt_mul'' h1 h2
theorem Sx.mul {k l : Nat} {p q : Rat} (h : Sx k p) (g : Sx l q) : Sx (k + l) (p * q) := by
  obtain ⟨D, N, b, d, h1, h2⟩ := h
  obtain ⟨E, M, b', d', h1', h2'⟩ := g
  exact ⟨D * E, N * M, b.mul b', Nat.mul_pos d d', mul_lt2 h1 h1', mul_lt2 h2 h2'⟩
theorem Sx.sub {k l : Nat} {p q : Rat} (h : Sx k p) (g : Sx l q) : Sx (k + l + 1) (p - q) := by
  obtain ⟨D, N, b, d, h1, h2⟩ := h
  obtain ⟨E, M, b', d', h1', h2'⟩ := g
  have x := b.scale E (Nat.le_refl _)
  have y := (b'.neg).to (D' := D * E) D (Nat.mul_comm _ _) (Nat.le_refl _)
  have z := x.add y
  rw [← Rat.sub_eq_add_neg] at z
  have e1 := mul_lt2 h1 h1'
  have e2 := mul_lt2 h2 h1'
  have e3 := mul_lt2 h2' h1
  rw [Nat.add_comm l k] at e3
  refine ⟨D * E, _, z, Nat.mul_pos d d', ?_, ?_⟩ <;> rw [Nat.pow_succ] <;> omega
theorem Sx.div {k l : Nat} {p q : Rat} (h : Sx k p) (g : Sx l q) (q0 : q ≠ 0) : Sx (k + l) (p / q) := by
  obtain ⟨D, N, ⟨a, ha, hb⟩, d, h1, h2⟩ := h
  obtain ⟨E, M, ⟨c, hc, hd⟩, d', h1', h2'⟩ := g
  have E0 : ((E : Int) : Rat) ≠ 0 := by
    intro z
    have := Rat.intCast_inj.mp (show ((E : Int) : Rat) = ((0 : Int) : Rat) from z)
    omega
  have c0 : c ≠ 0 := by
    rintro rfl
    rw [show ((0 : Int) : Rat) = 0 from rfl] at hc
    rcases Rat.mul_eq_zero.mp hc with z | z
    · exact q0 z
    · exact E0 z
  have hcn : 0 < c.natAbs := by omega
  refine ⟨D * c.natAbs, N * E, ⟨a * E * c.sign, ?_, ?_⟩, Nat.mul_pos d hcn, ?_, ?_⟩
  · have e1 : ((D * c.natAbs : Nat) : Int) = (D : Int) * (c * c.sign) := by
      rw [Int.natCast_mul, Int.mul_sign_self]
    rw [e1, Rat.intCast_mul, Rat.intCast_mul, Rat.intCast_mul, Rat.intCast_mul, ← ha, ← hc]
    have : p / q * q = p := Rat.div_mul_cancel q0
    generalize p / q = r at this
    subst this
    grind
  · rw [Int.natAbs_mul, Int.natAbs_mul, Int.natAbs_sign_of_ne_zero c0]
    simp only [Int.natAbs_natCast, Nat.mul_one]
    exact Nat.mul_le_mul_right _ hb
  · exact mul_lt2 h1 (by omega)
  · exact mul_lt2 h2 h1'
theorem Bd.nd {D N : Nat} {q : Rat} (h : Bd D N q) (h0 : 0 < D) : q.num.natAbs ≤ N ∧ q.den ≤ D := by
  obtain ⟨k, a, b⟩ := h
  have d0 : ((D : Int) : Rat) ≠ 0 := by
    intro z
    have := Rat.intCast_inj.mp (show ((D : Int) : Rat) = ((0 : Int) : Rat) from z)
    omega
  have e : q = Rat.divInt k D := by
    rw [Rat.divInt_eq_div, ← a]
    exact (Rat.mul_div_cancel d0).symm
  have dz : (D : Int) ≠ 0 := by omega
  constructor
  · have h1 := low_num (a := k) dz
    rw [e, ← h1]
    refine Nat.le_trans ?_ b
    rw [Int.fdiv_eq_ediv_of_dvd (lpart_dvd k D).1]
    obtain ⟨c, hc⟩ := (lpart_dvd k D).1
    have ne := lpart_ne (a := k) dz
    have h2 : k / lpart k D = c := Int.ediv_eq_of_eq_mul_right ne hc
    rw [h2]
    have h3 : k.natAbs = (lpart k D).natAbs * c.natAbs := by rw [← Int.natAbs_mul, ← hc]
    rw [h3]
    exact Nat.le_mul_of_pos_left _ (by omega)
  · have h1 := low_den (a := k) dz
    rw [e]
    have h2 : (D : Int).fdiv (lpart k D) = ((Rat.divInt k D).den : Int) := h1
    rw [Int.fdiv_eq_ediv_of_dvd (lpart_dvd k D).2] at h2
    obtain ⟨c, hc⟩ := (lpart_dvd k D).2
    have ne := lpart_ne (a := k) dz
    rw [Int.ediv_eq_of_eq_mul_right ne hc] at h2
    have h3 : (Rat.divInt k D).den = c.natAbs := by omega
    have h4 : D = (lpart k D).natAbs * c.natAbs := by
      rw [← Int.natAbs_mul, ← hc]; simp
    rw [h3]
    have : 0 < (lpart k D).natAbs := by omega
    rw [h4]
    exact Nat.le_mul_of_pos_left _ this
theorem log2_lt_of {a k : Nat} (h : a < 2 ^ k) (hk : 0 < k) : a.log2 < k := by
  by_cases h0 : a = 0
  · subst h0; simpa using hk
  · exact (Nat.log2_lt h0).mpr h
theorem Sx.sz {k : Nat} {q : Rat} (h : Sx k q) (hk : k ≤ 3000) : Sz q ∧ q.num.natAbs.log2 < 4000 := by
  obtain ⟨D, N, b, d, h1, h2⟩ := h.mono (l := 3000) hk
  obtain ⟨n1, n2⟩ := b.nd d
  have e1 := log2_lt_of (Nat.lt_of_le_of_lt n1 h2) (by decide)
  have e2 := log2_lt_of (Nat.lt_of_le_of_lt n2 h1) (by decide)
  refine ⟨⟨?_, ?_⟩, ?_⟩ <;> omega
end Hp
/-! Plain mathematics: the undoing of a square, row by row (what holds ahead of each turn). -/
namespace Hp
set_option autoImplicit false
def en (m : List (List Rat)) (i c : Nat) : Rat := (m.getD i []).getD c 0
theorem row_set {m : List (List Rat)} {p i : Nat} {r : List Rat} (hp : p < m.length) : (m.set p r).getD i [] = if i = p then r else m.getD i [] := by
  rw [List.getD_eq_getElem?_getD, List.getElem?_set]
  by_cases h : p = i
  · subst h; simp [hp]
  · rw [if_neg h, if_neg (Ne.symm h), List.getD_eq_getElem?_getD]
theorem en_set {m : List (List Rat)} {p i : Nat} {r : List Rat} (hp : p < m.length) (c : Nat) : en (m.set p r) i c = if i = p then r.getD c 0 else en m i c := by
  unfold en
  rw [row_set hp]
  split <;> rfl
theorem getD_memL {l : List Rat} {c : Nat} (h : c < l.length) : l.getD c 0 ∈ l := by
  rw [List.getD_eq_getElem?_getD, List.getElem?_eq_getElem h]
  exact List.getElem_mem _
theorem rless_en {a b : List Rat} (h : a.length = b.length) (x : Rat) (c : Nat) : (rless a b x).getD c 0 = a.getD c 0 - x * b.getD c 0 := by
  by_cases hc : c < a.length
  · have e1 : a[c]? = some a[c] := by simp
    have e2 : b[c]? = some (b[c]'(by omega)) := by simp
    simp only [List.getD_eq_getElem?_getD, rless_get e1 e2, e1, e2, Option.getD_some]
  · have e1 : a[c]? = none := by simp; omega
    have e2 : b[c]? = none := by simp; omega
    have e3 : (rless a b x)[c]? = none := by simp [rless_len]; omega
    simp only [List.getD_eq_getElem?_getD, e1, e2, e3, Option.getD_none]
    grind
theorem rdiv_en (a : List Rat) (h : Rat) (c : Nat) : (a.map fun q => q / h).getD c 0 = a.getD c 0 / h := by
  simp only [List.getD_eq_getElem?_getD, List.getElem?_map]
  cases a[c]? with
  | none => show (0 : Rat) = 0 / h; rw [Rat.div_def, Rat.zero_mul]
  | some q => rfl
/-- what holds ahead of the turn at -/
structure GI (R : List (List Rat)) (n a k : Nat) (m : List (List Rat)) : Prop where
  len : m.length = n
  wid : ∀ i, i < n → (m.getD i []).length = 2 * n
  orth : ∀ i, i < n → ∀ c, c < n → en m i c = sm n (fun j => en m i (n + j) * en R j c)
  ker : ∀ x : Nat → Rat, (∀ i, i < n → sm n (fun c => en m i c * x c) = 0) → ∀ c, c < n → x c = 0
  unit : ∀ i, i < n → ∀ c, c < a → en m i c = if i = c then 1 else 0
  sz : ∀ i, i < n → ∀ q ∈ m.getD i [], Sx k q
/-- what holds within a turn, the row at scaled, those before p done -/
structure GJ (R : List (List Rat)) (n a k p : Nat) (m : List (List Rat)) : Prop where
  len : m.length = n
  wid : ∀ i, i < n → (m.getD i []).length = 2 * n
  orth : ∀ i, i < n → ∀ c, c < n → en m i c = sm n (fun j => en m i (n + j) * en R j c)
  ker : ∀ x : Nat → Rat, (∀ i, i < n → sm n (fun c => en m i c * x c) = 0) → ∀ c, c < n → x c = 0
  unit : ∀ i, i < n → ∀ c, c < a → en m i c = if i = c then 1 else 0
  one : en m a a = 1
  zero : ∀ i, i < p → i < n → i ≠ a → en m i a = 0
  sza : ∀ q ∈ m.getD a [], Sx (2 * k) q
  szd : ∀ i, i < p → i < n → ∀ q ∈ m.getD i [], Sx (4 * k + 1) q
  szu : ∀ i, p ≤ i → i < n → i ≠ a → ∀ q ∈ m.getD i [], Sx k q
section
variable {R m : List (List Rat)} {n a k p : Nat}
theorem GI.heads (h : GI R n a k m) (ha : a < n) : ∃ i, a ≤ i ∧ i < n ∧ en m i a ≠ 0 := by
  apply Classical.byContradiction
  intro no
  have z : ∀ i, a ≤ i → i < n → en m i a = 0 := fun i h1 h2 => Classical.byContradiction fun hn => no ⟨i, h1, h2, hn⟩
  have h1 := h.ker (fun c => if c = a then 1 else if c < a then - en m c a else 0) (fun i hi => ?_) a ha
  · simp at h1
  · have e : sm n (fun c => en m i c * (if c = a then 1 else if c < a then - en m c a else 0)) = sm n (fun c => (if c = a then en m i a else 0) + (if c = i then (if i < a then - en m i a else 0) else 0)) := by
      refine sm_congr fun c hc => ?_
      by_cases hca : c = a
      · subst hca
        by_cases hci : c = i
        · subst hci; simp; grind
        · simp [hci]; grind
      · simp only [if_neg hca]
        by_cases hlt : c < a
        · rw [if_pos hlt, h.unit i hi c hlt]
          by_cases hci : c = i
          · subst hci; simp [hlt]; grind
          · simp [hci, Ne.symm hci]; grind
        · rw [if_neg hlt]
          by_cases hci : c = i
          · subst hci; simp [hlt]; grind
          · simp [hci]; grind
    rw [e, sm_add, sm_single ha (fun c _ hn => if_neg hn), sm_single hi (fun c _ hn => if_neg hn)]
    simp only [if_true]
    by_cases hia : i < a
    · rw [if_pos hia]; grind
    · rw [if_neg hia, z i (by omega) hi]; grind
/-- two rows change their places -/
theorem GI.swap (g : GI R n a k m) {h : Nat} (ha : a ≤ h) (hh : h < n) : GI R n a k ((m.set a (m.getD h [])).set h (m.getD a [])) := by
  have hl := g.len
  have hr : ∀ i, ((m.set a (m.getD h [])).set h (m.getD a [])).getD i [] = m.getD (if i = h then a else if i = a then h else i) [] := fun i => by
    rw [row_set (by simp; omega), row_set (by omega)]
    split
    · rfl
    · split <;> rfl
  have hs : ∀ i, i < n → (if i = h then a else if i = a then h else i) < n := fun i hi => by split; omega; split <;> omega
  have he : ∀ i c, en ((m.set a (m.getD h [])).set h (m.getD a [])) i c = en m (if i = h then a else if i = a then h else i) c := fun i c => by unfold en; rw [hr]
  refine ⟨by simp [hl], fun i hi => by rw [hr]; exact g.wid _ (hs i hi), fun i hi c hc => ?_, fun x hx => g.ker x fun i hi => ?_, fun i hi c hc => ?_, fun i hi q hq => ?_⟩
  · rw [he, g.orth _ (hs i hi) c hc]
    exact sm_congr fun j _ => by rw [he]
  · have := hx _ (hs i hi)
    rw [← this]
    refine sm_congr fun c _ => ?_
    rw [he]
    congr 2
    split
    · rename_i e; subst e; split <;> rename_i e2
      · exact e2.symm
      · simp
    · rename_i e1
      split
      · rename_i e; subst e; simp
      · rfl
  · rw [he, g.unit _ (hs i hi) c hc]
    by_cases h1 : i = h
    · subst h1
      rw [if_pos rfl, if_neg (by omega), if_neg (by omega)]
    · rw [if_neg h1]
      by_cases h2 : i = a
      · subst h2
        rw [if_pos rfl, if_neg (by omega), if_neg (by omega)]
      · rw [if_neg h2]
  · rw [hr] at hq
    exact g.sz _ (hs i hi) q hq
/-- a row is divided by its head -/
theorem GI.scale (g : GI R n a k m) (ha : a < n) (h0 : en m a a ≠ 0) : GJ R n a k 0 (m.set a ((m.getD a []).map fun q => q / en m a a)) := by
  have hl := g.len
  have he : ∀ i c, en (m.set a ((m.getD a []).map fun q => q / en m a a)) i c = if i = a then en m a c / en m a a else en m i c := fun i c => by
    rw [en_set (by omega), rdiv_en]; rfl
  have hdv : ∀ x : Rat, x / en m a a = x * (en m a a)⁻¹ := fun x => Rat.div_def _ _
  refine ⟨by simp [hl], fun i hi => ?_, fun i hi c hc => ?_, fun x hx => g.ker x fun i hi => ?_, fun i hi c hc => ?_, ?_, fun i hi => by omega, fun q hq => ?_, fun i hi => by omega, fun i _ hi hia q hq => ?_⟩
  · rw [row_set (by omega)]
    split
    · rename_i e; subst e; rw [List.length_map]; exact g.wid i hi
    · exact g.wid i hi
  · rw [he]
    by_cases e : i = a
    · subst e
      rw [if_pos rfl, g.orth i hi c hc, hdv, Rat.mul_comm, ← sm_mul]
      refine sm_congr fun j _ => ?_
      rw [he, if_pos rfl, hdv]
      grind
    · rw [if_neg e, g.orth i hi c hc]
      exact sm_congr fun j _ => by rw [he, if_neg e]
  · have := hx i hi
    by_cases e : i = a
    · subst e
      have e2 : sm n (fun c => en (m.set i ((m.getD i []).map fun q => q / en m i i)) i c * x c) = (en m i i)⁻¹ * sm n (fun c => en m i c * x c) := by
        rw [← sm_mul]
        refine sm_congr fun c _ => ?_
        rw [he, if_pos rfl, hdv]
        grind
      rw [e2] at this
      rcases Rat.mul_eq_zero.mp this with z | z
      · exfalso
        have := Rat.mul_inv_cancel _ h0
        rw [z] at this; simp at this
      · exact z
    · rw [← this]
      exact sm_congr fun c _ => by rw [he, if_neg e]
  · rw [he]
    by_cases e : i = a
    · subst e
      rw [if_pos rfl, g.unit i hi c hc, if_neg (by omega), Rat.div_def, Rat.zero_mul]
    · rw [if_neg e, g.unit i hi c hc]
  · rw [he, if_pos rfl]
    rw [hdv]; exact Rat.mul_inv_cancel _ h0
  · rw [row_set (by omega), if_pos rfl] at hq
    obtain ⟨y, hy, rfl⟩ := List.mem_map.mp hq
    have := g.sz a ha
    have h1 : Sx k (en m a a) := by
      refine this _ ?_
      have hw := g.wid a ha
      exact getD_memL (show _ < List.length _ by omega)
    have := (this y hy).div h1 h0
    exact this.mono (by omega)
  · rw [row_set (by omega), if_neg hia] at hq
    exact g.sz i hi q hq
theorem GJ.mem (g : GJ R n a k p m) {i c : Nat} (hi : i < n) (hc : c < n) : en m i c ∈ m.getD i [] := by
  have hw := g.wid i hi
  exact getD_memL (show _ < List.length _ by omega)
/-- a row is taken from another -/
theorem GJ.step (g : GJ R n a k p m) (ha : a < n) (hp : p < n) (hpa : p ≠ a) : GJ R n a k (p + 1) (m.set p (rless (m.getD p []) (m.getD a []) (en m p a))) := by
  have hl := g.len
  have hwl : (m.getD p []).length = (m.getD a []).length := by rw [g.wid p hp, g.wid a ha]
  have he : ∀ i c, en (m.set p (rless (m.getD p []) (m.getD a []) (en m p a))) i c = if i = p then en m p c - en m p a * en m a c else en m i c := fun i c => by
    rw [en_set (by omega), rless_en hwl]; rfl
  refine ⟨by simp [hl], fun i hi => ?_, fun i hi c hc => ?_, fun x hx => g.ker x fun i hi => ?_, fun i hi c hc => ?_, ?_, fun i hi hn hia => ?_, fun q hq => ?_, fun i hi hn q hq => ?_, fun i hpi hi hia q hq => ?_⟩
  · rw [row_set (by omega)]
    split
    · rw [rless_len, g.wid p hp, g.wid a ha]; omega
    · exact g.wid i hi
  · rw [he]
    by_cases e : i = p
    · subst e
      rw [if_pos rfl, g.orth i hi c hc, g.orth a ha c hc, ← sm_mul, ← sm_sub]
      refine sm_congr fun j _ => ?_
      rw [he, if_pos rfl]
      grind
    · rw [if_neg e, g.orth i hi c hc]
      exact sm_congr fun j _ => by rw [he, if_neg e]
  · have hxa := hx a ha
    have ea : sm n (fun c => en m a c * x c) = 0 := by
      rw [← hxa]
      exact sm_congr fun c _ => by rw [he, if_neg (Ne.symm hpa)]
    have := hx i hi
    by_cases e : i = p
    · subst e
      have e2 : sm n (fun c => en (m.set i (rless (m.getD i []) (m.getD a []) (en m i a))) i c * x c) = sm n (fun c => en m i c * x c) - en m i a * sm n (fun c => en m a c * x c) := by
        rw [← sm_mul, ← sm_sub]
        refine sm_congr fun c _ => ?_
        rw [he, if_pos rfl]
        grind
      rw [e2, ea] at this
      grind
    · rw [← this]
      exact sm_congr fun c _ => by rw [he, if_neg e]
  · rw [he]
    by_cases e : i = p
    · subst e
      rw [if_pos rfl, g.unit i hi c hc, g.unit a ha c hc, if_neg (show a ≠ c by omega)]
      grind
    · rw [if_neg e, g.unit i hi c hc]
  · rw [he, if_neg (Ne.symm hpa)]; exact g.one
  · rw [he]
    by_cases e : i = p
    · subst e
      rw [if_pos rfl, g.one]; grind
    · rw [if_neg e]; exact g.zero i (by omega) hn hia
  · rw [row_set (by omega), if_neg (Ne.symm hpa)] at hq
    exact g.sza q hq
  · rw [row_set (by omega)] at hq
    by_cases e : i = p
    · subst e
      rw [if_pos rfl] at hq
      unfold rless at hq
      obtain ⟨⟨y, z⟩, hyz, rfl⟩ := List.mem_map.mp hq
      obtain ⟨h1, h2⟩ := List.of_mem_zip hyz
      have s1 := g.szu i (Nat.le_refl _) hn hpa y h1
      have s2 := g.sza z h2
      have s3 := g.szu i (Nat.le_refl _) hn hpa _ (g.mem hn ha)
      exact (s1.sub (s3.mul s2)).mono (by omega)
    · rw [if_neg e] at hq
      exact g.szd i (by omega) hn q hq
  · rw [row_set (by omega), if_neg (by omega)] at hq
    exact g.szu i (by omega) hi hia q hq
theorem GJ.skip (g : GJ R n a k a m) : GJ R n a k (a + 1) m := by
  refine ⟨g.len, g.wid, g.orth, g.ker, g.unit, g.one, fun i hi hn hia => g.zero i (by omega) hn hia, g.sza, fun i hi hn q hq => ?_, fun i hi => g.szu i (by omega)⟩
  by_cases e : i = a
  · subst e; exact (g.sza q hq).mono (by omega)
  · exact g.szd i (by omega) hn q hq
theorem GJ.done (g : GJ R n a k n m) (ha : a < n) : GI R n (a + 1) (4 * k + 1) m := by
  refine ⟨g.len, g.wid, g.orth, g.ker, fun i hi c hc => ?_, fun i hi q hq => g.szd i hi hi q hq⟩
  by_cases e : c = a
  · subst e
    by_cases e2 : i = c
    · subst e2; rw [if_pos rfl]; exact g.one
    · rw [if_neg e2]; exact g.zero i hi hi e2
  · exact g.unit i hi c (by omega)
/-- weights that make 1 of each good -/
def WR (R : List (List Rat)) (n : Nat) (W : List Rat) : Prop := W.length = n ∧ ∀ c, c < n → sm n (fun j => W.getD j 0 * en R j c) = 1
theorem GI.weights (g : GI R n n k m) {W : List Rat} (hW : W.length = n) (hw : ∀ j, j < n → W.getD j 0 = sm n (fun i => en m i (n + j))) : WR R n W := by
  refine ⟨hW, fun c hc => ?_⟩
  have e1 : sm n (fun j => W.getD j 0 * en R j c) = sm n (fun j => sm n (fun i => en m i (n + j) * en R j c)) := by
    refine sm_congr fun j hj => ?_
    rw [hw j hj, Rat.mul_comm, ← sm_mul]
    exact sm_congr fun i _ => Rat.mul_comm _ _
  rw [e1, sm_swap]
  have e2 : sm n (fun i => sm n (fun j => en m i (n + j) * en R j c)) = sm n (fun i => if i = c then 1 else 0) := by
    refine sm_congr fun i hi => ?_
    rw [← g.orth i hi c hc, g.unit i hi c hc]
  rw [e2, sm_single hc (fun i _ hn => if_neg hn), if_pos rfl]
end
end Hp
/-! x == [] of lists of plain data. -/
namespace Hp
set_option Elab.async false
set_option linter.all false
set_option maxRecDepth 100000
set_option maxHeartbeats 4000000
open PySem PySem.Spec PyProof.Rows L2
section
variable {K : PySem.W.Frag} {H : Hp}
/-- plain data, at most j deep -/
def Dq (K : PySem.W.Frag) (H : Hp) (j : Nat) (v : V) : Prop := ∃ d, Dp K H v d ∧ PyData.canLay0 d = true ∧ PyData.depth d ≤ j
theorem Dq.all {j : Nat} : ∀ {xs : List V}, (∀ x ∈ xs, Dq K H j x) → ∃ ds, DpAll K H xs ds ∧ PyData.canLayAll0 ds = true ∧ PyData.depthAll ds ≤ j ∧ ds.length = xs.length
  | [], _ => ⟨[], .nil, rfl, Nat.zero_le _, rfl⟩
  | x :: xs, h => by
    obtain ⟨d, h1, h2, h3⟩ := h x (by simp)
    obtain ⟨ds, k1, k2, k3, k4⟩ := Dq.all (xs := xs) fun y hy => h y (by simp [hy])
    refine ⟨d :: ds, .cons h1 k1, ?_, ?_, by simp [k4]⟩
    · simp only [PyData.canLayAll0, h2, k2, Bool.and_self]
    · simp only [PyData.depthAll]; omega
theorem Dq.int (j : Nat) (i : Int) : Dq K H j (.int i) := ⟨.int i, .int i, rfl, Nat.zero_le _⟩
theorem Dq.num {v : V} {q : Rat} (h : Num H v q) : Dq K H 1 v := by
  rcases h with ⟨h, rfl⟩ | ⟨h, p, rfl, hp⟩
  · exact Dq.int 1 _
  · exact ⟨.tuple [.int q.num, .int q.den], .tup (SqT.of hp) (.cons (.int _) (.cons (.int _) .nil)), rfl, by simp [PyData.depth, PyData.depthAll]⟩
theorem Dq.seq {b : Bool} {v : V} {xs : List V} {j : Nat} (h : SqK b H v xs) (hx : ∀ x ∈ xs, Dq K H j x) : Dq K H (j + 1) v := by
  obtain ⟨ds, k1, k2, k3, _⟩ := Dq.all hx
  obtain ⟨p, rfl, hp⟩ := h
  cases b
  · refine ⟨.tuple ds, .tup (SqT.of hp) k1, by simp only [PyData.canLay0]; exact k2, by simp only [PyData.depth]; omega⟩
  · refine ⟨.list ds, .lst (SqL.of hp) k1, by simp only [PyData.canLay0]; exact k2, by simp only [PyData.depth]; omega⟩
theorem Dq.nums {xs : List V} {qs : List Rat} (h : Nums H xs qs) : ∀ x ∈ xs, Dq K H 1 x := fun x hx => by
  obtain ⟨i, hi, rfl⟩ := List.mem_iff_getElem.mp hx
  obtain ⟨q, _, hq⟩ := paired_get h (List.getElem?_eq_getElem hi)
  exact Dq.num hq
theorem eqNil {v e : V} {xs : List V} {j : Nat} {Q : VK} (h : SqK true H v xs) (he : SqK true H e []) (hx : ∀ x ∈ xs, Dq K H j x) (hj : j ≤ 60) (k : Q (.bl xs.isEmpty) H) : rEqD K v e H Q := by
  obtain ⟨ds, k1, k2, k3, k4⟩ := Dq.all hx
  obtain ⟨p, rfl, hp⟩ := h
  obtain ⟨q, rfl, hq⟩ := he
  refine ⟨.list ds, .list [], .lst (SqL.of hp) k1, .lst (SqL.of hq) .nil, ?_, by decide, ?_⟩
  · show (PyData.canLay0 (.list ds) && decide (PyData.depth (.list ds) ≤ 64)) = true
    rw [Bool.and_eq_true]
    exact ⟨by simp only [PyData.canLay0]; exact k2, decide_eq_true (by simp only [PyData.depth]; omega)⟩
  · cases xs with
    | nil =>
      cases ds with
      | nil => exact k
      | cons d ds => simp at k4
    | cons x xs =>
      cases ds with
      | nil => simp at k4
      | cons d ds => exact k
theorem neNil {v e : V} {xs : List V} {j : Nat} {Q : VK} (h : SqK true H v xs) (he : SqK true H e []) (hx : ∀ x ∈ xs, Dq K H j x) (hj : j ≤ 60) (k : Q (.bl (!xs.isEmpty)) H) : rNeD K v e H Q := by
  obtain ⟨d, e', a, b, c, f, g⟩ := eqNil (Q := fun v H' => ∃ c, v = .bl c ∧ Q (.bl (!c)) H') h he hx hj ⟨_, rfl, k⟩
  obtain ⟨c', e1, g⟩ := g
  refine ⟨d, e', a, b, c, f, ?_⟩
  cases e1
  exact g
end
end Hp
namespace Hp
set_option Elab.async false
set_option linter.all false
set_option maxRecDepth 100000
set_option maxHeartbeats 4000000
open PySem PySem.Spec PyProof.Rows L2 NdefX
/-- at x, not at F: a list of these numbers -/
def LsN (F : Addr) (H : Hp) (x : V) (r : List Rat) : Prop := ∃ t zs, x = .ref t ∧ t ≠ F ∧ H t = some (.lst zs) ∧ Nums H zs r
theorem LsN.sb {F : Addr} {H H' : Hp} {x : V} {r : List Rat} {ys : List V} (h : LsN F H x r) (sb : SameB F H H') (hF : H F = some (.lst ys)) : LsN F H' x r := by
  obtain ⟨t, zs, rfl, n, h1, h2⟩ := h
  exact ⟨t, zs, rfl, n, sb _ _ n h1, h2.mono (Chg.n ⟨sb, ys, hF⟩)⟩
theorem LsN.ch {F : Addr} {H H' : Hp} {x : V} {r : List Rat} (h : LsN F H x r) (c : Chg F H H') : LsN F H' x r := by
  obtain ⟨t, zs, rfl, n, h1, h2⟩ := h
  exact ⟨t, zs, rfl, n, c.1 _ _ n h1, h2.mono c.n⟩
theorem LsN.sq {F : Addr} {H : Hp} {x : V} {r : List Rat} (h : LsN F H x r) : ∃ zs, SqK true H x zs ∧ Nums H zs r := by
  obtain ⟨t, zs, rfl, _, h1, h2⟩ := h
  exact ⟨zs, SqK.lst h1, h2⟩
def kk : Nat → Nat
  | 0 => 5
  | n + 1 => 4 * kk n + 1
def unitAt (n i : Nat) : List Rat := (List.range n).map fun p => if i = p then 1 else 0
theorem unitAt_len (n i : Nat) : (unitAt n i).length = n := by simp [unitAt]
theorem unitAt_get {n i p : Nat} (h : p < n) : (unitAt n i).getD p 0 = if i = p then 1 else 0 := by
  unfold unitAt
  rw [List.getD_eq_getElem?_getD, List.getElem?_map, List.getElem?_range h]; rfl
/-- the square beside the unit rows -/
def wide (R : List (List Rat)) : List (List Rat) := (List.range R.length).map fun i => R.getD i [] ++ unitAt R.length i
theorem wide_get {R : List (List Rat)} {i : Nat} (h : i < R.length) : (wide R).getD i [] = R.getD i [] ++ unitAt R.length i := by
  unfold wide
  rw [List.getD_eq_getElem?_getD, List.getElem?_map, List.getElem?_range h]; rfl
theorem sx01 {k : Nat} (hk : 1 ≤ k) (b : Prop) [Decidable b] : Sx k (if b then 1 else 0) := by
  have h1 : 1 < 2 ^ k := Nat.one_lt_two_pow (by omega)
  by_cases h : b
  · rw [if_pos h]; exact ⟨1, 1, Bd.one (Nat.le_refl _), by decide, h1, h1⟩
  · rw [if_neg h]; exact ⟨1, 1, Bd.zero _ _, by decide, h1, h1⟩
theorem GI.start {R : List (List Rat)} {n : Nat} (hR : R.length = n) (hw : ∀ r ∈ R, r.length = n ∧ ∀ q ∈ r, Sx 5 q)
    (hk : ∀ x : Nat → Rat, (∀ i, i < n → sm n (fun c => en R i c * x c) = 0) → ∀ c, c < n → x c = 0) : GI R n 0 5 (wide R) := by
  subst hR
  have hm : ∀ i, i < R.length → R.getD i [] ∈ R := fun i hi => by
    rw [List.getD_eq_getElem?_getD, List.getElem?_eq_getElem hi]; exact List.getElem_mem _
  have e1 : ∀ i c, i < R.length → c < R.length → en (wide R) i c = en R i c := fun i c hi hc => by
    have hl := (hw _ (hm i hi)).1
    unfold en
    rw [wide_get hi, List.getD_eq_getElem?_getD, List.getElem?_append_left (by omega), ← List.getD_eq_getElem?_getD]
  have e2 : ∀ i c, i < R.length → c < R.length → en (wide R) i (R.length + c) = if i = c then 1 else 0 := fun i c hi hc => by
    have hl := (hw _ (hm i hi)).1
    unfold en
    rw [wide_get hi, List.getD_eq_getElem?_getD, List.getElem?_append_right (by omega), ← List.getD_eq_getElem?_getD, hl, Nat.add_sub_cancel_left, unitAt_get hc]
  refine ⟨by simp [wide], fun i hi => ?_, fun i hi c hc => ?_, fun x hx => hk x fun i hi => ?_, fun i hi c hc => by omega, fun i hi q hq => ?_⟩
  · rw [wide_get hi, List.length_append, unitAt_len, (hw _ (hm i hi)).1]; omega
  · rw [e1 i c hi hc]
    rw [sm_single (j := i) hi fun j hj hn => by rw [e2 i j hi hj, if_neg (Ne.symm hn)]; grind]
    rw [e2 i i hi hi, if_pos rfl]; grind
  · rw [← hx i hi]
    exact sm_congr fun c hc => by rw [e1 i c hi hc]
  · rw [wide_get hi] at hq
    rcases List.mem_append.mp hq with h | h
    · exact (hw _ (hm i hi)).2 q h
    · unfold unitAt at h
      obtain ⟨p, _, rfl⟩ := List.mem_map.mp h
      exact sx01 (by decide) _
theorem ixNn {n j : Nat} (hj : j < n) : ixN n (j : Int) = some j := by
  unfold ixN
  rw [if_pos (by omega), if_pos (by omega)]
  simp
theorem lsAt {F : Addr} {n : Nat} {H' : Hp} {ys : List V} {m : List (List Rat)} {p c : Nat} (hp : Paired (LsN F H') ys m) (hyl : ys.length = n) (hwd : ∀ i, i < n → (m.getD i []).length = 2 * n) (hpn : p < n) (hc : c < 2 * n) : ∃ y zs z, ys[p]? = some y ∧ SqK true H' y zs ∧ Nums H' zs (m.getD p []) ∧ zs[c]? = some z ∧ Num H' z (en m p c) := by
  have hy : ys[p]? = some (ys[p]'(by omega)) := by simp
  obtain ⟨r, hr1, hls⟩ := paired_get hp hy
  obtain ⟨zs, hz1, hz2⟩ := hls.sq
  have er : m.getD p [] = r := by rw [List.getD_eq_getElem?_getD, hr1]; rfl
  have hzl : zs.length = 2 * n := by rw [hz2.length, ← er]; exact hwd p hpn
  have hz : zs[c]? = some (zs[c]'(by omega)) := by simp
  obtain ⟨q, hq, hn⟩ := paired_get hz2 hz
  refine ⟨_, zs, _, hy, hz1, by rw [er]; exact hz2, hz, ?_⟩
  unfold en
  rw [er, List.getD_eq_getElem?_getD, hq]
  exact hn
theorem paired_drop {α β : Type} {F : α → β → Prop} {l : List α} {m : List β} (h : Paired F l m) (n : Nat) : Paired F (l.drop n) (m.drop n) := by
  induction h generalizing n with
  | nil => simp; exact .nil
  | cons r t ih =>
    cases n with
    | zero => exact .cons r t
    | succ n => exact ih n
/-- the pair a, b of a comprehension, a in a cell -/
theorem pg_pairC {X : Cx} {K : PySem.W.Frag} {i j : Nat} {x y : Str} {px py pos : Pos} {k : Nat} (hf : X.fn x = true) (hc : X.calm = true) (hN : X.N.Nodup) (hi : X.N[i]? = some x) (hj : X.N[j]? = some y) (hx : X.env.scope.names.lookup x = some .cell) (hy : X.env.scope.names.lookup y = some .local)
    (hK : X.K = K) : PG X (.Tuple [.Name x px, .Name y py] k pos) (gPair K i j) := by
  subst hK
  exact pg_tup hc (pgs_cons (pg_name hN hi (.inr hx) (.inl hf)) (pgs_cons (pg_name hN hj (.inl hy) (.inr hy)) pgs_nil))
theorem u_tC {σ : L2.St} {H : Hp} {v : V} {Q : VK} (h : Q v H) : tC v σ H Q := h
section
variable {P : Program} {w : World} {K : PySem.W.Frag} {mg : Str → Option Value} {base : Heap}
def sp_undone  : Sp :=  fun vs H Q _ => ∃ b v xs R n, vs = [v] ∧ SqK b H v xs ∧ RowsAt H xs R ∧ R.length = n ∧ 1 ≤ n ∧ n ≤ 3 ∧ (∀ r ∈ R, r.length = n ∧ ∀ q ∈ r, Sx 5 q) ∧ (∀ x : Nat → Rat, (∀ i, i < n → sm n (fun c => en R i c * x c) = 0) → ∀ c, c < n → x c = 0) ∧
  ∀ p H' ys m, Same H H' → H' p = some (.lst ys) → Paired (fun x r => ∃ zs, SqK true H' x zs ∧ Nums H' zs r) ys (m.map fun r => r.drop n) → GI R n n (kk n) m → Q (.ref p) H'
theorem sc_undone : FnScope ["rows", "many", "at", "place", "found", "heads", "head", "row", "number"] ["rows"] (defScope s_undone) := ⟨rfl, rfl, rfl, by decide +kernel, rfl, by decide +kernel, by decide +kernel⟩
theorem c_undone (T : Wd K mg base) : Cal P w K mg base 6 "undone" sp_undone [] := by
  obtain ⟨fd, F⟩ := T.d_undone
  refine mkCal (k := 6 - 1) F T.g_undone sc_undone (F.bindsN fun _ _ _ _ _ _ us hl => match us, hl with | [_], _ => rfl) (fun vs H Q E h => ?_) (fun cdv A outer s H vs Q E hr h => ?_)
  · rcases h with ⟨b, v, xs, R, n, rfl, sx, hx, hRl, hn1, hn3, hw, hker, k⟩ <;> rfl
  · rcases h with ⟨b, v, xs, R, n, rfl, sx, hx, hRl, hn1, hn3, hw, hker, k⟩
    refine ⟨_, (pss_cons (ps_set (i := 1) sc_undone.nd rfl (Or.inr rfl) (pe_callB call_len_seq (by rfl) T.f_len (by decide +kernel) (pa_cons (pv 0) pa_nil)))
  (pss_cons (ps_set (i := 4) sc_undone.nd rfl (Or.inr rfl) (pe_lc (own := [("at", 2), ("row", 7)]) rfl sc_undone.nd (pi_enumS (by rfl) T.f_enumerate (pa_cons (pv 0) pa_nil)) (blkOk_by (own := [("at", 2), ("row", 7)]) (N := ["rows", "many", "at", "place", "found", "heads", "head", "row", "number"]) (sc := defScope s_undone) (by decide +kernel)) (fun _ _ _ _ _ => by exact (by refine pg_pairC (K := K) (i := 2) (j := 7) ?_ ?_ ?_ ?_ ?_ ?_ ?_ ?_ <;> first | exact sc_undone.nd | rfl)) (fun _ _ _ _ _ => by exact pts_nil) (fun _ _ _ _ _ => by exact (pe_lst (starK (K := K) rfl (pv 7) (starK (K := K) rfl (pe_lc (own := [("place", 3)]) rfl sc_undone.nd (pi_range1 rfl T.f_range (pa_cons (pv 1) pa_nil)) (blkOk_by (own := [("place", 3)]) (by kernel_rfl)) (fun _ _ _ _ _ => by exact (pg_name (i := 3) sc_undone.nd rfl (by first | exact Or.inl rfl | exact Or.inr rfl))) (fun _ _ _ _ _ => by exact pts_nil) (fun _ _ _ _ _ => by exact (pe_callTy call_int1 (by rfl) T.f_int (by decide +kernel) (pa_cons (pe_cmpR op_eq (pv 2) (pv 3) (nomark _)) pa_nil)))) pa_nil))))))
  (pss_cons (ps_for PassesOwn.never rfl (pi_range1 rfl T.f_range (pa_cons (pv 1) pa_nil)) (pg_name (i := 2) sc_undone.nd rfl (Or.inr rfl))
  (pss_cons (ps_setLc (i := 5) (own := [("place", 3)]) rfl sc_undone.nd rfl rfl (sw_true rfl rfl rfl (by decide +kernel)) (pi_range2 rfl T.f_range (pa_cons (pv 2) (pa_cons (pv 1) pa_nil))) (blkOk_by (own := [("place", 3)]) (N := ["rows", "many", "at", "place", "found", "heads", "head", "row", "number"]) (sc := defScope s_undone) (by decide +kernel)) (fun _ _ _ _ _ => by exact (pg_name (i := 3) sc_undone.nd rfl (by first | exact Or.inl rfl | exact Or.inr rfl))) (fun _ _ _ _ _ => by exact (pts_one (pt_cmpR (neDK (K := K) rfl (u64 hr)) (pe_ix (ixK (K := K) rfl) (pe_ix (ixK (K := K) rfl) (pv 4) (pv 3) (fun _ _ => rfl)) (pv 2) (fun _ _ => rfl)) pe_int (nomark _)))) (fun _ _ _ _ _ => by exact (pv 3)))
  (pss_cons (ps_if (pt_cmpR (op_eqD (u64 hr)) (pv 5) (pe_lst pa_nil) (nomark _)) (pss_one (ps_ret pe_non)) pss_nil)
  (pss_cons (ps_asg (pe_tup (pa_cons (pe_ix ix_seq (pv 4) (pe_ix ix_seq (pv 5) pe_int (fun _ _ => rfl)) (fun _ _ => rfl)) (pa_cons (pe_ix ix_seq (pv 4) (pv 2) (fun _ _ => rfl)) pa_nil))) (pg_tup rfl (pgs_cons (pg_sub (pv 4) (pv 2) set_list) (pgs_cons (pg_sub (pv 4) (pe_ix ix_seq (pv 5) pe_int (fun _ _ => rfl)) set_list) pgs_nil))))
  (pss_cons (ps_set (i := 6) sc_undone.nd rfl (Or.inr rfl) (pe_ix ix_seq (pe_ix ix_seq (pv 4) (pv 2) (fun _ _ => rfl)) (pv 2) (fun _ _ => rfl)))
  (pss_cons (ps_asg (pe_lc (own := [("number", 8)]) rfl sc_undone.nd (pi_seq (pe_ix ix_seq (pv 4) (pv 2) (fun _ _ => rfl))) (blkOk_by (own := [("number", 8)]) (N := ["rows", "many", "at", "place", "found", "heads", "head", "row", "number"]) (sc := defScope s_undone) (by decide +kernel)) (fun _ _ _ _ _ => by exact (pg_name (i := 8) sc_undone.nd rfl (by first | exact Or.inl rfl | exact Or.inr rfl))) (fun _ _ _ _ _ => by exact pts_nil) (fun _ _ _ _ _ => by exact (pe_c (c_part_by T) hr (by decide) rfl (pa_cons (pv 8) (pa_cons (pv 6) pa_nil))))) (pg_sub (pv 4) (pv 2) set_list))
  (pss_one (ps_for PassesOwn.never rfl (pi_range1 rfl T.f_range (pa_cons (pv 1) pa_nil)) (pg_name (i := 3) sc_undone.nd rfl (Or.inl rfl))
  (pss_one (ps_if (pt_cmpR op_ne (pv 3) (pv 2) (nomark _)) (pss_one (ps_asg (pe_c (c_less_times T) hr (by decide) rfl (pa_cons (pe_ix ix_seq (pv 4) (pv 3) (fun _ _ => rfl)) (pa_cons (pe_ix ix_seq (pv 4) (pv 2) (fun _ _ => rfl)) (pa_cons (pe_ix ix_seq (pe_ix ix_seq (pv 4) (pv 3) (fun _ _ => rfl)) (pv 2) (fun _ _ => rfl)) pa_nil)))) (pg_sub (pv 4) (pv 3) set_list))) pss_nil))))))))))
  (pss_one (ps_ret (pe_lc (own := [("row", 7)]) rfl sc_undone.nd (pi_seq (pv 4)) (blkOk_by (own := [("row", 7)]) (N := ["rows", "many", "at", "place", "found", "heads", "head", "row", "number"]) (sc := defScope s_undone) (by decide +kernel)) (fun _ _ _ _ _ => by exact (pg_name (i := 7) sc_undone.nd rfl (by first | exact Or.inl rfl | exact Or.inr rfl))) (fun _ _ _ _ _ => by exact pts_nil) (fun _ _ _ _ _ => by exact (pe_slice (slLK (K := K) rfl) (pv 7) (po_some (pv 1)) po_none)))))))), ?_⟩
    have hxl := hx.length
    obtain ⟨pv, rfl, hpv⟩ := id sx
    have hstart := GI.start hRl hw hker
    refine ⟨_, rfl, _, _, rfl, sx.or, ?_⟩
    rw [show (xs.length : Int) = (n : Int) by rw [hxl, hRl]]
    dsimp only
    refine u_seq (u_asg ?_)
    refine lc_enum (H1 := H) (v := .ref pv) (b := b) (xs := xs) ?_ sx (by omega) (fun D i H' z => LsN D H' z ((wide R).getD i [])) (fun D i H1 H2 z c h => h.ch c) ?_ ?_ (fun _ _ => rfl)
    · exact gives_var rfl
    · intro D i x H' R2 hxi hD s1 hDn hR
      obtain ⟨r, hr', zs, sz, hz⟩ := paired_get hx hxi
      have hi : i < R.length := (List.getElem?_eq_some_iff.mp hr').1
      have hwr : (wide R).getD i [] = r ++ unitAt n i := by
        rw [wide_get hi, hRl, List.getD_eq_getElem?_getD, hr']; rfl
      obtain ⟨px, rfl, hpx⟩ := sz.same s1
      refine u_lst (u_star ⟨_, rfl, px, zs, rfl, .inl (SqT.of hpx), u_star ?_⟩)
      refine lc_rng1 (H1 := H') (n := n) (gives_var rfl) (by omega) (fun D2 p H2 z => z = .int (if i = p then 1 else 0)) (fun _ _ _ _ _ _ h => h) ?_ ?_ (fun _ => rfl)
      · intro D2 p H2 R3 hp hD2 s2 hDn2 hR3
        refine ⟨_, rfl, _, rfl, rfl, .inr ⟨_, rfl, hR3 _ _ (Same.refl _) ?_⟩⟩
        congr 1
        by_cases e : i = p
        · subst e; simp
        · have : V.int (i : Int) ≠ V.int (p : Int) := fun z => e (by have := V.int.inj z; omega)
          simp [e, this]
      · intro D2 H2 zs2 hD2 s2 hDz hl2 hF
        refine ⟨D2, zs2, rfl, .inr (SqL.of hDz), ?_⟩
        have hn2 : Nums H2 zs2 (unitAt n i) := paired_of (by rw [hl2, unitAt_len]) fun p z q hz hq => by
          rw [hF p z hz]
          have hpn : p < n := by
            have := (List.getElem?_eq_some_iff.mp hq).1
            rwa [unitAt_len] at this
          have e := unitAt_get (n := n) (i := i) hpn
          rw [List.getD_eq_getElem?_getD, hq, Option.getD_some] at e
          rw [e]
          by_cases h : i = p
          · simp only [if_pos h]; exact Num.int _ 1
          · simp only [if_neg h]; exact Num.int _ 0
        have hall : Nums H2 (zs ++ (zs2 ++ [])) (r ++ unitAt n i) := by
          rw [List.append_nil]
          exact paired_append ((hz.mono s1.n).mono s2.n) hn2
        have hlen : (zs ++ (zs2 ++ [])).length ≤ 6 := by
          rw [hall.length, List.length_append, unitAt_len, (hw r (mem_get hr')).1]; omega
        refine ⟨Nat.le_trans hlen (by decide), fun p np => hR _ _ (s2.trans (Same.of_new np)) ?_⟩
        rw [hwr]
        refine ⟨p, _, rfl, fun z => ?_, upd_same, hall.mono (Same.of_new np).n⟩
        subst z
        obtain ⟨o, ho⟩ := Option.ne_none_iff_exists'.mp hDn
        rw [s2 _ _ ho] at np; cases np
    · intro F H1 ys hD1 s1 hF hl2 hFall
      have hrows : Paired (LsN F H1) ys (wide R) := paired_of (by rw [hl2, hxl]; simp [wide]) fun j y r hy hr => by
        have := hFall j y hy
        rwa [List.getD_eq_getElem?_getD, hr] at this
      have hyl : ys.length = n := by rw [hl2, hxl, hRl]
      refine u_gname ?_
      dsimp only
      refine u_seq ?_
      refine for_rng1 (H1 := H1) (n := n) (gives_var rfl) (by omega) (fun i σ' H' => ∃ c2 c3 c5 c6 ys m, σ' = [some (.ref pv), some (.int (n : Int)), c2, c3, some (.ref F), c5, c6, none, none] ∧ SameB F H1 H' ∧ H' F = some (.lst ys) ∧ ys.length = n ∧ Paired (LsN F H') ys m ∧ GI R n i (kk i) m) ⟨_, _, _, _, ys, _, rfl, SameB.of (Same.refl _), hF, hyl, hrows, hstart⟩ ?_ ?_
      · clear hF hyl hrows hl2 hFall ys
        rintro i σ' H2 hi ⟨c2, c3, c5, c6, ys, m, rfl, sb2, hF2, hyl, hrw, gi⟩
        have hml := gi.len
        obtain ⟨i0, h1, h2, h3⟩ := gi.heads hi
        refine u_seq (u_asg ?_)
        refine lcg_rng2 (H1 := H2) (H2 := H2) (l := i) (n := n) (gives_var rfl) (gives_var rfl) (by omega) (by omega) (fun D j H' acc => Same H2 H' ∧ ∃ hs : List Nat, acc = hs.map (fun h : Nat => V.int (h : Int)) ∧ (∀ h ∈ hs, i ≤ h ∧ h < n ∧ en m h i ≠ 0) ∧ ∀ p, i ≤ p → p < i + j → en m p i ≠ 0 → hs ≠ []) (fun D hD => ⟨Same.of_new hD, [], rfl, fun h hh => by simp at hh, fun p h1 h2 => by omega⟩) ?_ ?_ (fun _ => rfl)
        · rintro D j H3 acc R3 Z hj hD hl hDa ⟨s3, hs, rfl, hin, hne⟩ hR hZ
          have hrw3 : Paired (LsN F H3) ys m := Paired.mapP hrw fun _ _ q => q.sb (SameB.of s3) hF2
          obtain ⟨y, zs, z, e1, e2, e3, e4, e5⟩ := lsAt (p := i + j) (c := i) hrw3 hyl gi.wid (by omega) (by omega)
          obtain ⟨py, rfl, hpy⟩ := id e2
          refine ⟨_, rfl, _, rfl, ixOf (i := i + j) (SqK.lst (s3 _ _ hF2)) e1 ⟨_, rfl, ixOf (i := i) e2 e4 (u_tC ?_)⟩⟩
          refine ne0 e5 ⟨_, rfl, u_if (fun hb => ?_) (fun hb => ?_)⟩
          · refine ⟨_, rfl, hR _ _ hDa ⟨fun b o h => ?_, hs ++ [i + j], by simp, fun h hh => ?_, fun p _ _ _ z => by simp at z⟩⟩
            · rw [upd_ne (ne_of_none h hD)]; exact s3 b o h
            · rcases List.mem_append.mp hh with hh | hh
              · exact hin h hh
              · simp at hh; subst hh
                exact ⟨by omega, by omega, fun z => by rw [z] at hb; simp at hb⟩
          · refine hZ _ hDa ⟨s3, hs, rfl, hin, fun p h1 h2 h3 => ?_⟩
            by_cases e : p = i + j
            · subst e
              simp [h3] at hb
            · exact hne p h1 (by omega) h3
        · rintro D H3 acc hD hDa ⟨s3, hs, rfl, hin, hne⟩
          have hrw3 : Paired (LsN F H3) ys m := Paired.mapP hrw fun _ _ q => q.sb (SameB.of s3) hF2
          have hne := hne i0 h1 (by omega) h3
          obtain ⟨h, hs', rfl⟩ := List.exists_cons_of_ne_nil hne
          obtain ⟨b1, b2, b3⟩ := hin h (by simp)
          refine u_gname ?_
          dsimp only
          refine u_seq (u_ifT (u_op ⟨_, rfl, (by show 0 ≤ sizeLine; decide), fun e he => ?_⟩))
          have s4 := s3.trans (Same.of_new (o := HO.lst []) he)
          have hDa4 : (L2.upd H3 e (HO.lst [])) D = some (.lst ((h :: hs').map fun h : Nat => V.int (h : Int))) := (Same.of_new he) _ _ hDa
          have he4 : (L2.upd H3 e (HO.lst [])) e = some (.lst []) := upd_same
          have ni : ∀ x ∈ (h :: hs').map (fun h : Nat => V.int (h : Int)), Dq K (L2.upd H3 e (HO.lst [])) 1 x := fun x hx => by
            obtain ⟨p, _, rfl⟩ := List.mem_map.mp hx
            exact Dq.int 1 _
          refine eqNil (SqK.lst hDa4) (SqK.lst he4) ni (by decide) ⟨_, rfl, itf rfl ?_⟩
          have hrw4 : Paired (LsN F (L2.upd H3 e (HO.lst []))) ys m := Paired.mapP hrw fun _ _ q => q.sb (SameB.of s4) hF2
          have hF4 := s4 _ _ hF2
          clear ni he4
          generalize L2.upd H3 e (HO.lst []) = H4 at s4 hDa4 hrw4 hF4 ⊢
          have nDF : D ≠ F := fun z => by rw [z, hF2] at hD; cases hD
          have hh0 : ((h :: hs').map fun h : Nat => V.int (h : Int))[0]? = some (.int (h : Int)) := rfl
          -- two rows change places
          have hy1 : ys[h]? = some (ys[h]'(by omega)) := by simp
          have hy2 : ys[i]? = some (ys[i]'(by omega)) := by simp
          refine u_next ?_
          dsimp only
          refine u_seq (u_asg ?_)
          refine u_tup ⟨_, rfl, _, rfl, ixOf (i := 0) (SqK.lst hDa4) hh0 (ixOf (i := h) (SqK.lst hF4) hy1 ?_)⟩
          refine ⟨_, rfl, _, rfl, ixOf (i := i) (SqK.lst hF4) hy2 ⟨(by show 2 ≤ sizeLine; decide), fun t nt => ?_⟩⟩
          have s5 := s4.trans (Same.of_new (o := HO.tup [ys[h]'(by omega), ys[i]'(by omega)]) nt)
          have st := Same.of_new (o := HO.tup [ys[h]'(by omega), ys[i]'(by omega)]) nt
          have ht5 : (L2.upd H4 t (HO.tup [ys[h]'(by omega), ys[i]'(by omega)])) t = some (.tup [ys[h]'(by omega), ys[i]'(by omega)]) := upd_same
          have hDa5 := st _ _ hDa4
          have hF5 := st _ _ hF4
          have hrw5 : Paired (LsN F (L2.upd H4 t (HO.tup [ys[h]'(by omega), ys[i]'(by omega)]))) ys m := Paired.mapP hrw4 fun _ _ q => q.sb (SameB.of st) hF4
          generalize L2.upd H4 t (HO.tup [ys[h]'(by omega), ys[i]'(by omega)]) = H5 at s5 st ht5 hDa5 hF5 hrw5 ⊢
          refine ⟨t, _, rfl, SqT.of ht5, rfl, _, _, rfl, ?_⟩
          refine ⟨_, rfl, _, rfl, F, ys, (i : Int), i, rfl, rfl, hF5, ixNn (by omega), ?_⟩
          have hF6 : (L2.upd H5 F (.lst (ys.set i (ys[h]'(by omega))))) F = some (.lst (ys.set i (ys[h]'(by omega)))) := upd_same
          have hDa6 : (L2.upd H5 F (.lst (ys.set i (ys[h]'(by omega))))) D = _ := (upd_ne nDF).trans hDa5
          refine ⟨_, _, rfl, ⟨_, rfl, _, rfl, ixOf (i := 0) (SqK.lst hDa6) hh0 ⟨F, _, (h : Int), h, rfl, rfl, hF6, ixNn (by simp; omega), rfl, ?_⟩⟩⟩
          have eyh : ∀ {a : Nat} (ha : a < ys.length), LsN F H5 (ys[a]'ha) (m.getD a []) := fun {a} ha => by
            have hy : ys[a]? = some (ys[a]'ha) := by simp
            obtain ⟨r, hr1, hls⟩ := paired_get hrw5 hy
            rw [List.getD_eq_getElem?_getD, hr1]; exact hls
          have hrw6 : Paired (LsN F H5) ((ys.set i (ys[h]'(by omega))).set h (ys[i]'(by omega))) ((m.set i (m.getD h [])).set h (m.getD i [])) := paired_set (paired_set hrw5 i (eyh _)) h (eyh _)
          have gi7 := gi.swap b1 b2
          have hd7 : en ((m.set i (m.getD h [])).set h (m.getD i [])) i i ≠ 0 := by
            rw [en_set (by simp; omega)]
            by_cases e : i = h
            · subst e; rw [if_pos rfl]; exact b3
            · rw [if_neg e, en_set (by omega), if_pos rfl]; exact b3
          have hyl7 : ((ys.set i (ys[h]'(by omega))).set h (ys[i]'(by omega))).length = n := by simp [hyl]
          generalize (ys.set i (ys[h]'(by omega))).set h (ys[i]'(by omega)) = ys7 at hrw6 hyl7 ⊢
          generalize (m.set i (m.getD h [])).set h (m.getD i []) = m7 at hrw6 gi7 hd7
          have sb7 : SameB F H5 (L2.upd (L2.upd H5 F (.lst (ys.set i (ys[h]'(by omega))))) F (.lst ys7)) := SameB.upd.trans SameB.upd
          have hF7 : (L2.upd (L2.upd H5 F (.lst (ys.set i (ys[h]'(by omega))))) F (.lst ys7)) F = some (.lst ys7) := upd_same
          have hrw7 : Paired (LsN F (L2.upd (L2.upd H5 F (.lst (ys.set i (ys[h]'(by omega))))) F (.lst ys7))) ys7 m7 := Paired.mapP hrw6 fun _ _ q => q.sb sb7 hF5
          have sb17 : SameB F H1 (L2.upd (L2.upd H5 F (.lst (ys.set i (ys[h]'(by omega))))) F (.lst ys7)) := (sb2.trans (SameB.of s5)).trans sb7
          generalize L2.upd (L2.upd H5 F (.lst (ys.set i (ys[h]'(by omega))))) F (.lst ys7) = H7 at sb7 hF7 hrw7 sb17 ⊢
          clear hrw6 eyh hDa6 hF6 hF5 hrw5 hDa5 ht5 st s5 hF4 hrw4 hDa4 s4 hDa s3 hrw3 hF2 hrw sb7 hy1 hy2
          -- the head
          obtain ⟨y7, zs7, z7, a1, a2, a3, a4, a5⟩ := lsAt (p := i) (c := i) hrw7 hyl7 gi7.wid hi (by omega)
          dsimp only
          refine u_seq (u_asg ?_)
          refine ⟨_, rfl, _, rfl, ixOf (i := i) (SqK.lst hF7) a1 ⟨_, rfl, ixOf (i := i) a2 a4 (u_gname ?_)⟩⟩
          dsimp only
          refine u_seq (u_asg ?_)
          have szi := gi7.sz i hi
          have hkk : kk i ≤ 85 := by
            have : i = 0 ∨ i = 1 ∨ i = 2 := by omega
            rcases this with rfl | rfl | rfl <;> decide
          have szh : Sx (kk i) (en m7 i i) := szi _ (getD_memL (by rw [gi7.wid i hi]; omega))
          refine lc_seq (H1 := H7) (v := y7) (b := true) (xs := zs7) ?_ a2 (by rw [a3.length, gi7.wid i hi]; omega) (fun D j H z => ∀ q, (m7.getD i [])[j]? = some q → Num H z (q / en m7 i i)) (fun D j H H' y c h q hq => (h q hq).mono c.n) ?_ ?_ (fun _ => rfl)
          · intro R r
            exact ⟨_, rfl, _, rfl, ixOf (i := i) (SqK.lst hF7) a1 r⟩
          · intro D2 j x H8 R8 hxj hD2 s8 hDn8 hR8
            obtain ⟨q, hq, hxq⟩ := paired_get a3 hxj
            have sq := (szi q (mem_get hq)).sz (by omega)
            have sh := szh.sz (by omega)
            refine ⟨_, rfl, _, rfl, x, z7, q, _, rfl, hxq.mono s8.n, a5.mono s8.n, sq.1, sh.1, hd7, sh.2, fun y H9 s9 hy => hR8 _ _ s9 fun q' hq' => ?_⟩
            rw [hq] at hq'; cases hq'; exact hy
          · intro D2 H8 zs8 hD2 s8 hDz8 hl8 hF8
            have nD2 : D2 ≠ F := fun z => by rw [z, hF7] at hD2; cases hD2
            have hn8 : Nums H8 zs8 ((m7.getD i []).map fun q => q / en m7 i i) := paired_of (by rw [hl8, a3.length, List.length_map]) fun j z q hz hq => by
              rw [List.getElem?_map] at hq
              obtain ⟨q', hq', rfl⟩ := Option.map_eq_some_iff.mp hq
              exact hF8 j z hz q' hq'
            have hF88 := s8 _ _ hF7
            have hrw8 : Paired (LsN F H8) (ys7.set i (.ref D2)) (m7.set i ((m7.getD i []).map fun q => q / en m7 i i)) := paired_set (Paired.mapP hrw7 fun _ _ q => q.sb (SameB.of s8) hF7) i ⟨D2, zs8, rfl, nD2, hDz8, hn8⟩
            have gj := gi7.scale hi hd7
            have hyl8 : (ys7.set i (.ref D2)).length = n := by simp [hyl7]
            refine ⟨_, rfl, _, rfl, F, ys7, (i : Int), i, rfl, rfl, hF88, ixNn (by omega), ?_⟩
            generalize ys7.set i (.ref D2) = ys8 at hrw8 hyl8 ⊢
            generalize m7.set i ((m7.getD i []).map fun q => q / en m7 i i) = m8 at hrw8 gj
            have hF9 : (L2.upd H8 F (.lst ys8)) F = some (.lst ys8) := upd_same
            have sb9 : SameB F H1 (L2.upd H8 F (.lst ys8)) := (sb17.trans (SameB.of s8)).trans SameB.upd
            have hrw9 : Paired (LsN F (L2.upd H8 F (.lst ys8))) ys8 m8 := Paired.mapP hrw8 fun _ _ q => q.sb SameB.upd hF88
            generalize L2.upd H8 F (.lst ys8) = H9 at hF9 sb9 hrw9 ⊢
            clear hrw8 hF88 hn8 hF8 hDz8 s8 hD2 szi szh a1 a2 a3 a4 a5 hrw7 hF7 sb17 gi7 hd7
            dsimp only
            refine for_rng1 (H1 := H9) (n := n) (gives_var rfl) (by omega) (fun p σ' H' => ∃ c3 ys m, σ' = [some (.ref pv), some (.int (n : Int)), some (.int (i : Int)), c3, some (.ref F), some (.ref D), some z7, none, none] ∧ SameB F H1 H' ∧ H' F = some (.lst ys) ∧ ys.length = n ∧ Paired (LsN F H') ys m ∧ GJ R n i (kk i) p m) ⟨_, ys8, m8, rfl, sb9, hF9, hyl8, hrw9, gj⟩ ?_ ?_
            · clear gj hrw9 sb9 hF9 hyl8 hyl7
              clear ys8 m8 ys7 m7
              rintro p σ' H9 hp ⟨c3, ys, m, rfl, sb9, hF9, hyl, hrw9, gj⟩
              refine u_ifT (u_op ⟨_, rfl, _, rfl, rfl, _, rfl, u_if (fun hb => ?_) (fun hb => ?_)⟩)
              · have hpi : p ≠ i := fun z => by subst z; simp at hb
                obtain ⟨yp, zp, zq, a1, a2, a3, a4, a5⟩ := lsAt (p := p) (c := i) hrw9 hyl gj.wid hp (by omega)
                obtain ⟨ya, za, zb, b1, b2, b3, b4, b5⟩ := lsAt (p := i) (c := i) hrw9 hyl gj.wid hi (by omega)
                have zsp := gj.szu p (Nat.le_refl _) hp hpi
                have szc : Sx (kk i) (en m p i) := zsp _ (gj.mem hp hi)
                refine u_asg ?_
                refine ⟨_, rfl, _, rfl, ixOf (i := p) (SqK.lst hF9) a1 ⟨_, rfl, _, rfl, ixOf (i := i) (SqK.lst hF9) b1 ⟨_, rfl, _, rfl, ixOf (i := p) (SqK.lst hF9) a1 ⟨_, rfl, ixOf (i := i) a2 a4 ?_⟩⟩⟩⟩
                refine ⟨true, true, yp, ya, zq, zp, za, m.getD p [], m.getD i [], en m p i, rfl, a2, b2, a3, b3, a5, by rw [a3.length, gj.wid p hp]; omega, fun q hq => ((zsp q hq).sz (by omega)).1, fun q hq => ?_, (szc.sz (by omega)).1, fun t zs' H' s' ht hn => ?_⟩
                · have h1 := gj.sza q hq
                  exact ⟨(h1.sz (by omega)).1, ((szc.mul h1).sz (by omega)).1⟩
                · have hF' := s' _ _ hF9
                  have hzl : zs'.length = 2 * n := by
                    rw [hn.length, rless_len, gj.wid p hp, gj.wid i hi]; omega
                  have nt : t ≠ F := fun z => by
                    rw [z, hF'] at ht
                    have := HO.lst.inj (Option.some.inj ht)
                    rw [← this, hyl] at hzl; omega
                  have hrw' : Paired (LsN F H') (ys.set p (.ref t)) (m.set p (rless (m.getD p []) (m.getD i []) (en m p i))) := paired_set (Paired.mapP hrw9 fun _ _ q => q.sb (SameB.of s') hF9) p ⟨t, zs', rfl, nt, ht, hn⟩
                  refine ⟨_, rfl, _, rfl, F, ys, (p : Int), p, rfl, rfl, hF', ixNn (by omega), _, _, _, rfl, (sb9.trans (SameB.of s')).trans SameB.upd, upd_same, by simp [hyl], Paired.mapP hrw' fun _ _ q => q.sb SameB.upd hF', gj.step hi hp hpi⟩
              · have hpi : p = i := by
                  have : V.int (p : Int) = V.int (i : Int) := by simpa using hb
                  have := V.int.inj this
                  omega
                subst hpi
                exact ⟨_, ys, m, rfl, sb9, hF9, hyl, hrw9, gj.skip⟩
            · rintro σ' H' ⟨c3, ys, m, rfl, sb9, hF9, hyl, hrw9, gj⟩
              exact ⟨_, _, _, _, ys, m, rfl, sb9, hF9, hyl, hrw9, gj.done hi⟩
      · rintro σ' H' ⟨c2, c3, c5, c6, ys, m, rfl, sb, hF', hyl, hrw, gi⟩
        dsimp only
        refine u_ret ?_
        refine lc_seq (H1 := H') (v := .ref F) (b := true) (xs := ys) (gives_var rfl) (SqK.lst hF') (by omega) (fun D i H z => ∀ r, m[i]? = some r → LsN D H z (r.drop n)) (fun D i H H' y c h r hr => (h r hr).ch c) ?_ ?_ (fun _ => rfl)
        · intro D i x H2 R2 hxi hD s2 hDn hR
          obtain ⟨r, hr', hls⟩ := paired_get hrw hxi
          obtain ⟨zs, hz1, hz2⟩ := (hls.sb (SameB.of s2) hF').sq
          obtain ⟨t, rfl, ht⟩ := hz1
          refine ⟨_, rfl, _, rfl, _, rfl, t, zs, rfl, SqL.of ht, fun p np => hR _ _ (Same.of_new np) fun r' hr2 => ?_⟩
          rw [hr'] at hr2; cases hr2
          rw [cut_drop]
          refine ⟨p, _, rfl, fun z => ?_, upd_same, Nums.mono (paired_drop hz2 n) (Same.of_new np).n⟩
          subst z
          exact hDn np
        · intro D H2 zs hD s2 hDz hl2 hF2
          refine k D H2 zs m ?_ hDz (paired_of (by rw [hl2, hyl, List.length_map, gi.len]) fun j z r hz hr => ?_) gi
          · have sA : SameB F H1 H2 := sb.trans (SameB.of s2)
            exact SameB.back s1 hD1 sA
          · rw [List.getElem?_map] at hr
            obtain ⟨r', hr', rfl⟩ := Option.map_eq_some_iff.mp hr
            exact (hF2 j z hz r' hr').sq
end
end Hp
namespace Hp
set_option Elab.async false
set_option linter.all false
set_option maxRecDepth 100000
set_option maxHeartbeats 4000000
open PySem PySem.Spec PyProof.Rows L2 NdefX
theorem Sx.neg {k : Nat} {q : Rat} (h : Sx k q) : Sx k (-q) := by
  obtain ⟨D, N, b, r⟩ := h
  exact ⟨D, N, b.neg, r⟩
theorem Sx.add {k l : Nat} {p q : Rat} (h : Sx k p) (g : Sx l q) : Sx (k + l + 1) (p + q) := by
  have := h.sub g.neg
  rwa [show p - -q = p + q by grind] at this
theorem Sx.zero (k : Nat) (hk : 1 ≤ k) : Sx k 0 := ⟨1, 1, Bd.zero _ _, by decide, Nat.one_lt_two_pow (by omega), Nat.one_lt_two_pow (by omega)⟩
theorem Sx.rsum {k : Nat} : ∀ {l : List Rat}, (∀ q ∈ l, Sx k q) → Sx (l.length * (k + 1) + 1) (rsum l)
  | [], _ => Sx.zero _ (by simp)
  | a :: l, h => by
    have h1 := (h a (by simp)).add (Sx.rsum (l := l) fun q hq => h q (by simp [hq]))
    refine h1.mono ?_
    rw [List.length_cons, Nat.succ_mul]; omega
theorem szSum_of {l : List Rat} (hl : l.length ≤ 3) (h : ∀ q ∈ l, Sx 341 q) : SzSum l := by
  refine ⟨fun q hq => ((h q hq).sz (by decide)).1, fun k => ?_⟩
  have h1 := Sx.rsum (l := l.take k) fun q hq => h q (List.mem_of_mem_take hq)
  have h2 : (l.take k).length ≤ 3 := by rw [List.length_take]; omega
  refine (h1.sz ?_).1
  have : (l.take k).length * (341 + 1) ≤ 3 * (341 + 1) := Nat.mul_le_mul_right _ h2
  omega
theorem kk_le {n : Nat} (h : n ≤ 3) : kk n ≤ 341 := by
  have : n = 0 ∨ n = 1 ∨ n = 2 ∨ n = 3 := by omega
  rcases this with rfl | rfl | rfl | rfl <;> decide
section
variable {P : Program} {w : World} {K : PySem.W.Frag} {mg : Str → Option Value} {base : Heap}
def sp_Corner_init  : Sp :=  fun vs H Q _ => ∃ a dx v b xs rs n, vs = [.ref a, v] ∧ H a = some (.ins (He.ga K "Corner") dx []) ∧ SqK b H v xs ∧ RowsAt H xs rs ∧ rs.length = n ∧ 1 ≤ n ∧ n ≤ 3 ∧ (∀ r ∈ rs, r.length = n ∧ ∀ q ∈ r, 0 ≤ q ∧ Sx 5 q) ∧ (∀ x : Nat → Rat, (∀ i, i < n → sm n (fun c => en rs i c * x c) = 0) → ∀ c, c < n → x c = 0) ∧ (∀ W, WR rs n W → ∀ q ∈ W, 0 < q) ∧
  ∀ H' ws, SameB a H H' → CorAt K H' (.ref a) rs ws → WR rs n ws → Q .non H'
theorem sc_Corner_init : FnScope ["self", "rows", "square", "line", "row", "weight"] ["self", "rows"] (defScope s_Corner_init) := ⟨rfl, rfl, rfl, by decide +kernel, rfl, by decide +kernel, by decide +kernel⟩
theorem i_Corner (T : Wd K mg base) : Ini P w K mg base 7 (iAd K "Corner") (sp_Corner_init (K := K)) := by
  obtain ⟨fd, F⟩ := T.d_Corner_init
  refine mkIni (k := 7 - 1) F sc_Corner_init (F.bindsN fun _ _ _ _ _ _ us hl => match us, hl with | [_, _], _ => rfl) (fun vs H Q E h => ?_) (fun cdv A outer s H vs Q E hr h => ?_)
  · rcases h with ⟨a, dx, v, b, xs, rs, n, rfl, ea, sx, hx, hrl, hn1, hn3, hw, hker, hpos, kk'⟩ <;> rfl
  · rcases h with ⟨a, dx, v, b, xs, rs, n, rfl, ea, sx, hx, hrl, hn1, hn3, hw, hker, hpos, kk'⟩
    refine ⟨_, (pss_cons (ps_if (PW.pt (pw_or (pt_not (pt_val (pe_c (c_is_list T) hr (by decide) rfl (pa_cons (pv 1) pa_nil)))) (pw_or1 (pt_not (pt_val (pe_c (c_is_within T) hr (by decide) rfl (pa_cons (pe_callB call_len_seq (by rfl) T.f_len (by decide +kernel) (pa_cons (pv 1) pa_nil)) (pa_cons pe_int (pa_cons (pe_gc rfl T.most_goods) pa_nil))))))))) pss_never pss_nil)
        (pss_cons (ps_if (pt_not (pt_val (pe_callB (cr_all rfl) (by rfl) T.f_all (by decide +kernel) (pa_cons (pe_lc (own := [("row", 4)]) rfl sc_Corner_init.nd (pi_seq (pv 1)) (blkOk_by (own := [("row", 4)]) (N := ["self", "rows", "square", "line", "row", "weight"]) (sc := defScope s_Corner_init) (by decide +kernel)) (fun _ _ _ _ _ => by exact (pg_name (i := 4) sc_Corner_init.nd rfl (by first | exact Or.inl rfl | exact Or.inr rfl))) (fun _ _ _ _ _ => by exact pts_nil) (fun _ _ _ _ _ => by exact (pe_c (c_is_row T) hr (by decide) rfl (pa_cons (pv 4) (pa_cons (pe_callB (lenK (K := K) rfl) (by rfl) T.f_len (by decide +kernel) (pa_cons (pv 1) pa_nil)) pa_nil))))) pa_nil)))) pss_never pss_nil)
        (pss_cons (ps_asg (pe_tup (pa_cons (pe_callTy call_tuple_of (by rfl) T.f_tuple (by decide +kernel) (pa_cons (pe_lc (own := [("row", 4)]) rfl sc_Corner_init.nd (pi_seq (pv 1)) (blkOk_by (own := [("row", 4)]) (N := ["self", "rows", "square", "line", "row", "weight"]) (sc := defScope s_Corner_init) (by decide +kernel)) (fun _ _ _ _ _ => by exact (pg_name (i := 4) sc_Corner_init.nd rfl (by first | exact Or.inl rfl | exact Or.inr rfl))) (fun _ _ _ _ _ => by exact pts_nil) (fun _ _ _ _ _ => by exact (pe_c (c_kept_row T) hr (by decide) rfl (pa_cons (pv 4) pa_nil)))) pa_nil)) (pa_cons (pe_callB call_len_seq (by rfl) T.f_len (by decide +kernel) (pa_cons (pv 1) pa_nil)) pa_nil))) (pg_tup rfl (pgs_cons (pg_fld (pv 0)) (pgs_cons (pg_fld (pv 0)) pgs_nil))))
        (pss_cons (ps_set (i := 2) sc_Corner_init.nd rfl (Or.inl rfl) (pe_c (c_undone T) hr (by decide) rfl (pa_cons (pe_fld (pv 0) rfl) pa_nil)))
        (pss_cons (ps_if (pt_cmpR op_isN (pv 2) pe_non (nomark _)) pss_never pss_nil)
        (pss_cons (ps_fld (pv 0) (pe_c (c_lines_of T) hr (by decide) rfl (pa_cons (pv 2) pa_nil)) rfl)
        (pss_cons (ps_fld (pv 0) (pe_callTy call_tuple_of (by rfl) T.f_tuple (by decide +kernel) (pa_cons (pe_lc (own := [("line", 3)]) rfl sc_Corner_init.nd (pi_seq (pe_fld (pv 0) rfl)) (blkOk_by (own := [("line", 3)]) (N := ["self", "rows", "square", "line", "row", "weight"]) (sc := defScope s_Corner_init) (by decide +kernel)) (fun _ _ _ _ _ => by exact (pg_name (i := 3) sc_Corner_init.nd rfl (by first | exact Or.inl rfl | exact Or.inr rfl))) (fun _ _ _ _ _ => by exact pts_nil) (fun _ _ _ _ _ => by exact (pe_c (c_total T) hr (by decide) rfl (pa_cons (pv 3) pa_nil)))) pa_nil)) rfl)
        (pss_one (ps_if (pt_not (pt_val (pe_callB (cr_all rfl) (by rfl) T.f_all (by decide +kernel) (pa_cons (pe_lc (own := [("weight", 5)]) rfl sc_Corner_init.nd (pi_seq (pe_fld (pv 0) rfl)) (blkOk_by (own := [("weight", 5)]) (N := ["self", "rows", "square", "line", "row", "weight"]) (sc := defScope s_Corner_init) (by decide +kernel)) (fun _ _ _ _ _ => by exact (pg_name (i := 5) sc_Corner_init.nd rfl (by first | exact Or.inl rfl | exact Or.inr rfl))) (fun _ _ _ _ _ => by exact pts_nil) (fun _ _ _ _ _ => by exact (pe_cmpR op_gt (pe_c (c_sign_in T) hr (by decide) rfl (pa_cons (pv 5) pa_nil)) pe_int (nomark _)))) pa_nil)))) pss_never pss_nil))))))))), ?_⟩
    have hxl := hx.length
    have hxn : (xs.length : Int) = (n : Int) := by rw [hxl, hrl]
    obtain ⟨pv, rfl, hpv⟩ := id sx
    refine ⟨_, rfl, .inr ⟨_, _, rfl, sx.to, fun H1 s1 => ⟨_, rfl, iteF ?_⟩⟩⟩
    refine ⟨_, rfl, _, _, rfl, (sx.same s1).or, _, some 1, some 5, rfl, _, rfl, itf (by rw [hxn]; simp [inR]; omega) ?_⟩
    refine u_next ?_
    dsimp only
    refine u_seq (u_ifN (u_cb1 ?_))
    refine lc_seq (H1 := H1) ?_ (sx.same s1) (by omega) (fun D i H' z => z = .bl true) (fun _ _ _ _ _ _ h => h) ?_ ?_ (fun _ => rfl)
    · exact gives_var rfl
    · intro D i x H' R hxi hD s2 hDn hR
      obtain ⟨r, hr', zs, sz, hz⟩ := paired_get hx hxi
      have ss := s1.trans s2
      have hzl : xs.length = zs.length := by rw [hz.length, (hw r (mem_get hr')).1, hxl, hrl]
      refine ⟨_, rfl, _, rfl, _, _, rfl, ((sx.same ss)).or, false, x, zs, r, by rw [hzl]; rfl, SqK.same sz ss, hz.mono ss.n, fun q hq => ((hw r (mem_get hr')).2 q hq).1, by omega, fun H4 s4 => hR _ _ s4 rfl⟩
    intro D H2 zs hD s2 hDz hl2 hF
    refine ⟨_, _, rfl, SqL.of (by rw [← all_true hF]; exact hDz), ?_⟩
    rw [all_rep]
    refine ⟨_, rfl, iteF ?_⟩
    have s12 := s1.trans s2
    clear hF hDz hl2
    clear zs
    refine u_next ?_
    dsimp only
    refine u_seq (u_asg (u_tup (u_cons (u_cb1 ?_))))
    refine lc_seq (H1 := H2) ?_ (sx.same s12) (by omega) (fun D i H' z => ∀ r, rs[i]? = some r → RowAt H' z r) (fun D i H H' y c h r hr => (h r hr).n c.n) ?_ ?_ (fun _ => rfl)
    · exact gives_var rfl
    · intro D i x H' R hxi hD s3 hDn hR
      obtain ⟨r, hr', zs, sz, hz⟩ := paired_get hx hxi
      have ss := s12.trans s3
      refine ⟨_, rfl, false, x, zs, r, rfl, SqK.same sz ss, hz.mono ss.n, ?_, fun p H4 s4 hp0 hp => hR _ _ s4 fun r2 hr2 => ?_⟩
      · rw [hz.length, (hw r (mem_get hr')).1]; omega
      · rw [hr'] at hr2; cases hr2
        exact ⟨zs, SqK.tup hp, (hz.mono ss.n).mono s4.n⟩
    intro D H3 zs hD s3 hDz hl2 hF
    refine ⟨D, zs, rfl, .inl ⟨SqL.of hDz, fun pm npm => ?_⟩⟩
    have s4 : Same H3 (L2.upd H3 pm (.tup zs)) := Same.of_new npm
    have hrows : RowsAt (L2.upd H3 pm (.tup zs)) zs rs := paired_of (by omega) fun j x m hx hm2 => (hF j x hx m hm2).n s4.n
    have hpm : (L2.upd H3 pm (.tup zs)) pm = some (.tup zs) := upd_same
    have s14 := (s12.trans s3).trans s4
    generalize L2.upd H3 pm (.tup zs) = H4 at s4 hrows hpm s14 ⊢
    have e4 := s14 _ _ ea
    have npa : pm ≠ a := fun z => by rw [z, e4] at hpm; cases hpm
    have c := T.c_Corner
    refine ⟨_, rfl, _, _, rfl, (sx.same s14).or, ?_⟩
    rw [hxn]
    refine ⟨(by show 2 ≤ sizeLine; decide), fun t nt => ?_⟩
    have st := Same.of_new (o := .tup [V.ref pm, V.int (n : Int)]) nt
    have e5 := st _ _ e4
    have sb5 : SameB a H (L2.upd H4 t (.tup [V.ref pm, V.int (n : Int)])) := SameB.of (s14.trans st)
    have hpm5 := st _ _ hpm
    have hrows5 : RowsAt (L2.upd H4 t (.tup [V.ref pm, V.int (n : Int)])) zs rs := hrows.n st.n
    refine ⟨t, _, rfl, SqT.of upd_same, rfl, _, _, rfl, ?_⟩
    generalize L2.upd H4 t (.tup [V.ref pm, V.int (n : Int)]) = H5 at e5 sb5 hpm5 hrows5 ⊢
    refine ⟨_, rfl, a, _, dx, _, rfl, e5, c, T.n_Corner_rows, by decide, ?_⟩
    generalize ef1 : putF "rows" (.ref pm) [] = f1
    have l1 : f1.length ≤ 1 := by rw [← ef1]; exact putF_len _ _ []
    have e6 : (L2.upd H5 a (.ins (He.ga K "Corner") dx f1)) a = some (.ins (He.ga K "Corner") dx f1) := upd_same
    refine ⟨_, _, rfl, ⟨_, rfl, a, _, dx, _, rfl, e6, c, T.n_Corner_goods, by omega, ⟨rfl, ?_⟩⟩⟩
    generalize ef2 : putF "goods" (.int (n : Int)) f1 = f2
    have l2 : f2.length ≤ 2 := by rw [← ef2]; have := putF_len "goods" (.int (n : Int)) f1; omega
    have sb7' : SameB a H5 (L2.upd (L2.upd H5 a (.ins (He.ga K "Corner") dx f1)) a (.ins (He.ga K "Corner") dx f2)) := SameB.upd.trans SameB.upd
    have e7 : (L2.upd (L2.upd H5 a (.ins (He.ga K "Corner") dx f1)) a (.ins (He.ga K "Corner") dx f2)) a = some (.ins (He.ga K "Corner") dx f2) := upd_same
    have sb7 := sb5.trans sb7'
    have hpm7 := sb7' _ _ npa hpm5
    have hrows7 : RowsAt (L2.upd (L2.upd H5 a (.ins (He.ga K "Corner") dx f1)) a (.ins (He.ga K "Corner") dx f2)) zs rs := Paired.mapP hrows5 fun _ _ q => sb7'.row e5 q
    generalize L2.upd (L2.upd H5 a (.ins (He.ga K "Corner") dx f1)) a (.ins (He.ga K "Corner") dx f2) = H7 at sb7' e7 sb7 hpm7 hrows7 ⊢
    have gr2 : f2.lookup ("rows" : Str) = some (.ref pm) := by rw [← ef2, getN (by decide), ← ef1, getP]
    have gg2 : f2.lookup ("goods" : Str) = some (.int (n : Int)) := by rw [← ef2, getP]
    dsimp only
    refine u_seq (u_asg ?_)
    refine ⟨_, rfl, a, _, dx, _, _, rfl, e7, c, T.n_Corner_rows, gr2, ?_⟩
    refine ⟨false, .ref pm, zs, rs, n, rfl, SqK.tup hpm7, hrows7, hrl, hn1, hn3, fun r hr => ⟨(hw r hr).1, fun q hq => ((hw r hr).2 q hq).2⟩, hker, fun p H8 ys m s8 hp8 hm8 gi => ?_⟩
    refine u_gname ?_
    dsimp only
    have hml := gi.len
    have hinl : ∀ r ∈ m.map (fun r => r.drop n), r.length = n := fun r hr => by
      obtain ⟨r', hr', rfl⟩ := List.mem_map.mp hr
      obtain ⟨i, hi, rfl⟩ := List.mem_iff_getElem.mp hr'
      have := gi.wid i (by omega)
      rw [List.getD_eq_getElem?_getD, List.getElem?_eq_getElem hi, Option.getD_some] at this
      rw [List.length_drop, this]; omega
    have hsx : ∀ r ∈ m.map (fun r => r.drop n), ∀ q ∈ r, Sx 341 q := fun r hr q hq => by
      obtain ⟨r', hr', rfl⟩ := List.mem_map.mp hr
      obtain ⟨i, hi, rfl⟩ := List.mem_iff_getElem.mp hr'
      have := gi.sz i (by omega)
      rw [List.getD_eq_getElem?_getD, List.getElem?_eq_getElem hi, Option.getD_some] at this
      exact (this q (List.mem_of_mem_drop hq)).mono (kk_le hn3)
    refine u_seq ?_
    refine ⟨_, rfl, rfl, _, rfl, itf (by simp) ?_⟩
    refine u_next ?_
    dsimp only
    have e8 := s8 _ _ e7
    refine u_seq (u_fld ?_)
    refine ⟨_, rfl, .ref p, ys, m.map fun r => r.drop n, rfl, SqK.lst hp8, hm8, fun r hr => by rw [hinl r hr, List.length_map, hml], by rw [List.length_map, hml]; omega, fun pl H9 zl cs s9 hpl hcs hcl hcc => ?_⟩
    have s79 := s8.trans s9
    have e9 := s79 _ _ e7
    have hcl : cs.length = n := by rw [hcl, List.length_map, hml]
    have hccl : ∀ c' ∈ cs, c'.length = n ∧ ∀ q ∈ c', Sx 341 q := fun c' hc' => by
      obtain ⟨j, hj, rfl⟩ := List.mem_iff_getElem.mp hc'
      have e := hcc j _ (List.getElem?_eq_getElem hj)
      rw [e]
      refine ⟨by simp [colOf, hml], fun q hq => ?_⟩
      unfold colOf at hq
      obtain ⟨r, hr, rfl⟩ := List.mem_map.mp hq
      exact hsx r hr _ (getD_memL (by rw [hinl r hr]; omega))
    refine ⟨_, rfl, a, _, dx, _, rfl, e9, c, T.n_Corner_lines, by omega, ?_⟩
    generalize ef3 : putF "lines" (.ref pl) f2 = f3
    have l3 : f3.length ≤ 3 := by rw [← ef3]; have := putF_len "lines" (.ref pl) f2; omega
    have npl : pl ≠ a := fun z => by rw [z, e9] at hpl; cases hpl
    have sb10' : SameB a H9 (L2.upd H9 a (.ins (He.ga K "Corner") dx f3)) := SameB.upd
    have e10 : (L2.upd H9 a (.ins (He.ga K "Corner") dx f3)) a = some (.ins (He.ga K "Corner") dx f3) := upd_same
    have sb10 : SameB a H (L2.upd H9 a (.ins (He.ga K "Corner") dx f3)) := (sb7.trans (SameB.of s79)).trans sb10'
    have hpm10 := sb10' _ _ npa (s79 _ _ hpm7)
    have hrows10 : RowsAt (L2.upd H9 a (.ins (He.ga K "Corner") dx f3)) zs rs := Paired.mapP hrows7 fun _ _ q => sb10'.row e9 (q.n s79.n)
    have hpl10 := sb10' _ _ npl hpl
    have hcs10 : RowsAt (L2.upd H9 a (.ins (He.ga K "Corner") dx f3)) zl cs := Paired.mapP hcs fun _ _ q => sb10'.row e9 q
    generalize L2.upd H9 a (.ins (He.ga K "Corner") dx f3) = H10 at sb10' e10 sb10 hpm10 hrows10 hpl10 hcs10 ⊢
    have gr3 : f3.lookup ("rows" : Str) = some (.ref pm) := by rw [← ef3, getN (by decide), gr2]
    have gg3 : f3.lookup ("goods" : Str) = some (.int (n : Int)) := by rw [← ef3, getN (by decide), gg2]
    have gl3 : f3.lookup ("lines" : Str) = some (.ref pl) := by rw [← ef3, getP]
    dsimp only
    refine u_seq (u_fld (u_cb1 ?_))
    refine lc_seq (H1 := H10) (v := .ref pl) (b := false) (xs := zl) ?_ (SqK.tup hpl10) (by rw [hcs10.length, hcl]; omega) (fun D j H' z => ∀ c', cs[j]? = some c' → Num H' z (rsum c')) (fun D i H H' y c h r hr => (h r hr).mono c.n) ?_ ?_ (fun _ => rfl)
    · intro R r
      exact ⟨_, rfl, a, _, dx, _, _, rfl, e10, c, T.n_Corner_lines, gl3, r⟩
    · intro D j x H11 R hxj hD s11 hDn hR
      obtain ⟨c', hc', zz, sz, hz⟩ := paired_get hcs10 hxj
      obtain ⟨k1, k2⟩ := hccl c' (mem_get hc')
      refine ⟨_, rfl, false, x, zz, c', rfl, SqK.same sz s11, hz.mono s11.n, szSum_of (by omega) k2, fun y H12 s12 hy => hR _ _ s12 fun c2 hc2 => ?_⟩
      rw [hc'] at hc2; cases hc2; exact hy
    intro D H11 zw hD s11 hDz hl2 hF
    refine ⟨D, zw, rfl, .inl ⟨SqL.of hDz, fun pw npw => ?_⟩⟩
    have s12 : Same H11 (L2.upd H11 pw (.tup zw)) := Same.of_new npw
    have hwn : Nums (L2.upd H11 pw (.tup zw)) zw (cs.map rsum) := paired_of (by rw [hl2, hcs10.length, List.length_map]) fun j z q hz hq => by
      rw [List.getElem?_map] at hq
      obtain ⟨c', hc', rfl⟩ := Option.map_eq_some_iff.mp hq
      exact (hF j z hz c' hc').mono s12.n
    have hpw : (L2.upd H11 pw (.tup zw)) pw = some (.tup zw) := upd_same
    have s1012 := s11.trans s12
    generalize L2.upd H11 pw (.tup zw) = H12 at s12 hwn hpw s1012 ⊢
    have e12 := s1012 _ _ e10
    have npw2 : pw ≠ a := fun z => by rw [z, e12] at hpw; cases hpw
    refine ⟨_, rfl, a, _, dx, _, rfl, e12, c, T.n_Corner_weights, by omega, ?_⟩
    generalize ef4 : putF "weights" (.ref pw) f3 = f4
    have l4 : f4.length ≤ 4 := by rw [← ef4]; have := putF_len "weights" (.ref pw) f3; omega
    have sb13' : SameB a H12 (L2.upd H12 a (.ins (He.ga K "Corner") dx f4)) := SameB.upd
    have e13 : (L2.upd H12 a (.ins (He.ga K "Corner") dx f4)) a = some (.ins (He.ga K "Corner") dx f4) := upd_same
    have sb13 : SameB a H (L2.upd H12 a (.ins (He.ga K "Corner") dx f4)) := (sb10.trans (SameB.of s1012)).trans sb13'
    have hpm13 := sb13' _ _ npa (s1012 _ _ hpm10)
    have hrows13 : RowsAt (L2.upd H12 a (.ins (He.ga K "Corner") dx f4)) zs rs := Paired.mapP hrows10 fun _ _ q => sb13'.row e12 (q.n s1012.n)
    have hpw13 := sb13' _ _ npw2 hpw
    have hwn13 : Nums (L2.upd H12 a (.ins (He.ga K "Corner") dx f4)) zw (cs.map rsum) := sb13'.nums e12 hwn
    generalize L2.upd H12 a (.ins (He.ga K "Corner") dx f4) = H13 at sb13' e13 sb13 hpm13 hrows13 hpw13 hwn13 ⊢
    have gr4 : f4.lookup ("rows" : Str) = some (.ref pm) := by rw [← ef4, getN (by decide), gr3]
    have gg4 : f4.lookup ("goods" : Str) = some (.int (n : Int)) := by rw [← ef4, getN (by decide), gg3]
    have gw4 : f4.lookup ("weights" : Str) = some (.ref pw) := by rw [← ef4, getP]
    have hWR : WR rs n (cs.map rsum) := gi.weights (by simp [hcl]) fun j hj => by
      have hc' : cs[j]? = some (cs[j]'(by omega)) := by simp
      have e := hcc j _ hc'
      rw [List.getD_eq_getElem?_getD, List.getElem?_map, hc', Option.map_some, Option.getD_some, e, rsum_sm]
      rw [show (colOf (m.map fun r => r.drop n) j).length = n by simp [colOf, hml]]
      refine sm_congr fun i hi => ?_
      unfold colOf en
      have hm' : m[i]? = some (m[i]'(by omega)) := by simp
      rw [List.getD_eq_getElem?_getD, List.getElem?_map, List.getElem?_map, hm', Option.map_some, Option.map_some, Option.getD_some, List.getD_eq_getElem?_getD, List.getElem?_drop, List.getD_eq_getElem?_getD, List.getD_eq_getElem?_getD, hm', Option.getD_some]
    have hps := hpos _ hWR
    dsimp only
    refine u_ifN (u_cb1 ?_)
    refine lc_seq (H1 := H13) (v := .ref pw) (b := false) (xs := zw) ?_ (SqK.tup hpw13) (by rw [hwn13.length, List.length_map, hcl]; omega) (fun D j H' z => z = .bl true) (fun _ _ _ _ _ _ h => h) ?_ ?_ (fun _ => rfl)
    · intro R r
      exact ⟨_, rfl, a, _, dx, _, _, rfl, e13, c, T.n_Corner_weights, gw4, r⟩
    · intro D2 j x H14 R hxj hD2 s14' hDn hR
      obtain ⟨q, hq, hxq⟩ := paired_get hwn13 hxj
      have q0 : 0 < q := hps q (mem_get hq)
      have qn : 0 < q.num := by
        have h1 : 0 ≤ q.num := Rat.num_nonneg.mpr (by grind)
        have h2 : q.num ≠ 0 := fun z => by
          have := Rat.num_eq_zero.mp z
          rw [this] at q0; exact absurd q0 (by decide)
        omega
      refine ⟨_, rfl, x, q, rfl, hxq.mono s14'.n, fun H15 s15 => ⟨_, _, rfl, rfl, hR _ _ s15 ?_⟩⟩
      rw [if_pos qn, if_neg (by omega)]; rfl
    intro D2 H14 z2 hD2 s14' hDz2 hl3 hF2
    refine ⟨_, _, rfl, SqL.of (by rw [← all_true hF2]; exact hDz2), ?_⟩
    rw [all_rep]
    refine ⟨_, rfl, iteF ?_⟩
    refine kk' _ _ (sb13.trans (SameB.of s14')) ⟨_, .ref pm, zs, .ref pw, ⟨a, dx, rfl, s14' _ _ e13⟩, gr4, SqK.tup (s14' _ _ hpm13), hrows13.n s14'.n, gw4, ⟨zw, SqK.tup (s14' _ _ hpw13), hwn13.mono s14'.n⟩, ?_⟩ hWR
    exact gg4.trans (by rw [hrl])
theorem m_Corner (T : Wd K mg base) : Mak P w K mg base 7 "Corner" (He.ga K "Corner") (sp_Corner_init (K := K)) [] := (i_Corner T).mak T.k_Corner T.g_Corner
end
end Hp
namespace Hp
set_option Elab.async false
set_option linter.all false
set_option maxRecDepth 100000
set_option maxHeartbeats 4000000
open PySem PySem.Spec PyProof.Rows L2 NdefX
/-- a thief at t that has drawn at most b times -/
def ThAt (H : Hp) (t c : Addr) (b : Nat) : Prop := ∃ (cells : List Int) (at_ : Nat) (left : Int), t ≠ c ∧ H t = some (.lst [.ref c, .int (at_ : Int), .int left]) ∧ H c = some (.lst (cells.map V.int)) ∧ cells.length ≤ 57 ∧ at_ ≤ b
theorem ThAt.mono {H : Hp} {t c : Addr} {b b' : Nat} (h : ThAt H t c b) (e : b ≤ b') : ThAt H t c b' := by
  obtain ⟨cells, a, l, h1, h2, h3, h4, h5⟩ := h
  exact ⟨cells, a, l, h1, h2, h3, h4, by omega⟩
theorem ThAt.same {H H' : Hp} {t c : Addr} {b : Nat} (h : ThAt H t c b) (e : Same H H') : ThAt H' t c b := by
  obtain ⟨cells, a, l, h1, h2, h3, h4, h5⟩ := h
  exact ⟨cells, a, l, h1, e _ _ h2, e _ _ h3, h4, h5⟩
theorem u_ifB {σ : L2.St} {H : Hp} {D : Ends} {tt : TT} {t u : TS} {b : Bool} (e : ∀ R : Bool → Hp → Prop, R b H → tt σ H R) (h : if b = true then t D σ H else u D σ H) : tIfS tt t u D σ H := e _ h
theorem cmw {i j : Int} (hi : i.natAbs < 18446744073709551616) (hj : j.natAbs < 18446744073709551616) : CMulW i j := wide_mul (a := 64) (b := 64) hi hj (by decide) (by decide) (by decide)
theorem u_gmod {σ : L2.St} {H : Hp} {i : Nat} {z j : Int} {Q : L2.St → Hp → Prop} (hj : 0 < j) (h : ∀ y, 0 ≤ y → y < j → Q (σ.set i (some (.int y))) H) : gName i (.int (z.fmod j)) σ H Q := h _ (Int.fmod_nonneg_of_pos _ hj) (Int.fmod_lt_of_pos _ hj)
theorem ixOfE {K : PySem.W.Frag} {H : Hp} {b : Bool} {v : V} {xs : List V} {i : Nat} {j : Int} {x : V} {Q : VK} (e : j = (i : Int)) (sq : SqK b H v xs) (hx : xs[i]? = some x) (k : Q x H) : rIx K v (.int j) H Q := by
  subst e; exact ixOf sq hx k
theorem ThAt.put {H : Hp} {t c D : Addr} {b : Nat} {o : HO} (h : ThAt H t c b) (n1 : D ≠ t) (n2 : D ≠ c) : ThAt (L2.upd H D o) t c b := by
  obtain ⟨cells, a, l, h1, h2, h3, h4, h5⟩ := h
  exact ⟨cells, a, l, h1, by rw [upd_ne (Ne.symm n1)]; exact h2, by rw [upd_ne (Ne.symm n2)]; exact h3, h4, h5⟩
theorem ThAt.ne {H : Hp} {t c l : Addr} {b : Nat} (h : ThAt H t c b) (n : H l = none) : l ≠ t ∧ l ≠ c := by
  obtain ⟨cells, a, lf, h1, h2, h3, _⟩ := h
  constructor
  · intro e; rw [e, h2] at n; cases n
  · intro e; rw [e, h3] at n; cases n
theorem SameB.fresh {t D : Addr} {H H' : Hp} {o : HO} (sb : SameB t H H') (n : H D = none) : SameB t H (L2.upd H' D o) := fun a u ne h => by
  rw [upd_ne (ne_of_none h n)]; exact sb a u ne h
section
variable {P : Program} {w : World} {K : PySem.W.Frag} {mg : Str → Option Value} {base : Heap}
def sp_law_prowl  : Sp :=  fun vs H Q _ => ∃ t c b m, vs = [.ref t, .int ((m : Nat) : Int)] ∧ ThAt H t c b ∧ b < 1000000 ∧ 1 ≤ m ∧ m ≤ 1000 ∧ ∀ H' r, SameB t H H' → ThAt H' t c (b + 1) → r < m → Q (.int ((r : Nat) : Int)) H'
theorem sc_law_prowl : FnScope ["_law_thief_here", "_law_many", "_law_rest", "_law_at", "_law_cell", "_law_mixed"] ["_law_thief_here", "_law_many"] (defScope s_law_prowl) := ⟨rfl, rfl, rfl, by decide +kernel, rfl, by decide +kernel, by decide +kernel⟩
theorem c_law_prowl (T : Wd K mg base) : Cal P w K mg base 1 "_law_prowl" sp_law_prowl [] := by
  obtain ⟨fd, F⟩ := T.d_law_prowl
  refine mkCal (k := 1 - 1) F T.g_law_prowl sc_law_prowl (F.bindsN fun _ _ _ _ _ _ us hl => match us, hl with | [_, _], _ => rfl) (fun vs H Q E h => ?_) (fun cdv A outer s H vs Q E hr h => ?_)
  · rcases h with ⟨t, c, b, m, rfl, ⟨cells, at_, left, ntc, ht, hc, hcl, hab⟩, hb, hm1, hm2, k⟩ <;> rfl
  · rcases h with ⟨t, c, b, m, rfl, ⟨cells, at_, left, ntc, ht, hc, hcl, hab⟩, hb, hm1, hm2, k⟩
    refine ⟨_, (pss_cons (ps_if (pt_cmpR op_gt (pe_ix ix_seq (pv 0) pe_int (fun _ _ => rfl)) pe_int (nomark _)) (pss_cons (ps_set (i := 2) sc_law_prowl.nd rfl (Or.inl rfl) (pe_callTy call_int1 (by rfl) T.f_int (by decide +kernel) (pa_cons (pe_ix ix_seq (pv 0) pe_int (fun _ _ => rfl)) pa_nil)))
  (pss_cons (ps_asg (pe_op op_fdivA (pv 2) (pv 1)) (pg_sub (pv 0) pe_int set_list))
  (pss_one (ps_ret (pe_op op_modN (pe_callTy call_int1 (by rfl) T.f_int (by decide +kernel) (pa_cons (pv 2) pa_nil)) (pv 1)))))) pss_nil)
  (pss_cons (ps_set (i := 3) sc_law_prowl.nd rfl (Or.inl rfl) (pe_ix ix_seq (pv 0) pe_int (fun _ _ => rfl)))
  (pss_cons (ps_asg (pe_op op_add (pv 3) pe_int) (pg_sub (pv 0) pe_int set_list))
  (pss_cons (ps_if (pt_cmpR (op_eqD (u64 hr)) (pe_ix ix_seq (pv 0) pe_int (fun _ _ => rfl)) (pe_lst pa_nil) (nomark _)) (pss_one (ps_ret pe_int)) pss_nil)
  (pss_cons (ps_set (i := 4) sc_law_prowl.nd rfl (Or.inl rfl) (pe_ix ix_seq (pe_ix ix_seq (pv 0) pe_int (fun _ _ => rfl)) (pe_op op_modN (pe_callTy call_int1 (by rfl) T.f_int (by decide +kernel) (pa_cons (pv 3) pa_nil)) (pe_callB call_len_seq (by rfl) T.f_len (by decide +kernel) (pa_cons (pe_ix ix_seq (pv 0) pe_int (fun _ _ => rfl)) pa_nil))) (fun _ _ => rfl)))
  (pss_cons (ps_if (PW.pt (pw_and (pt_cmpR op_lt (pv 3) (pe_callB call_len_seq (by rfl) T.f_len (by decide +kernel) (pa_cons (pe_ix ix_seq (pv 0) pe_int (fun _ _ => rfl)) pa_nil)) (nomark _)) (pw_and1 (pt_cmpR op_ge (pe_callB call_abs (by rfl) T.f_abs (by decide +kernel) (pa_cons (pv 4) pa_nil)) (pe_op op_pow pe_int pe_int) (nomark _))))) (pss_cons (ps_set (i := 2) sc_law_prowl.nd rfl (Or.inl rfl) (pe_op op_add (pe_op op_mul pe_int (pe_op op_sub (pe_callB call_abs (by rfl) T.f_abs (by decide +kernel) (pa_cons (pv 4) pa_nil)) (pe_op op_pow pe_int pe_int))) (pe_callTy call_int1 (by rfl) T.f_int (by decide +kernel) (pa_cons (pe_cmpR op_lt (pv 4) pe_int (nomark _)) pa_nil))))
  (pss_cons (ps_asg (pe_op op_fdivA (pe_callTy call_int1 (by rfl) T.f_int (by decide +kernel) (pa_cons (pv 2) pa_nil)) (pv 1)) (pg_sub (pv 0) pe_int set_list))
  (pss_one (ps_ret (pe_op op_modN (pe_callTy call_int1 (by rfl) T.f_int (by decide +kernel) (pa_cons (pv 2) pa_nil)) (pv 1)))))) pss_nil)
  (pss_cons (ps_set (i := 5) sc_law_prowl.nd rfl (Or.inl rfl) (pe_op op_modN (pe_callTy call_int1 (by rfl) T.f_int (by decide +kernel) (pa_cons (pe_op op_pow (pe_op op_add (pe_op op_add (pe_op op_modN (pe_callTy call_int1 (by rfl) T.f_int (by decide +kernel) (pa_cons (pv 4) pa_nil)) pe_int) (pe_op op_mulW pe_int (pv 3))) pe_int) pe_int) pa_nil)) pe_int))
  (pss_cons (ps_set (i := 5) sc_law_prowl.nd rfl (Or.inl rfl) (pe_op op_modN (pe_callTy call_int1 (by rfl) T.f_int (by decide +kernel) (pa_cons (pe_op op_pow (pe_op op_add (pe_op op_add (pe_op op_mulW (pv 5) (pe_op op_add (pe_op op_mulW pe_int (pv 3)) pe_int)) (pe_op op_mulW (pe_op op_mulW pe_int (pv 3)) (pv 3))) pe_int) pe_int) pa_nil)) pe_int))
  (pss_one (ps_ret (pe_op op_modN (pe_callTy call_int1 (by rfl) T.f_int (by decide +kernel) (pa_cons (pe_op op_fdivA (pv 5) pe_int) pa_nil)) (pv 1)))))))))))), ?_⟩
    have fin : ∀ (H' : Hp) (z : Int), SameB t H H' → ThAt H' t c (b + 1) → Q (.int (z.fmod (m : Int))) H' := fun H' z s th => by
      have h0 : (0 : Int) ≤ z.fmod (m : Int) := Int.fmod_nonneg_of_pos _ (by omega)
      have h1 : z.fmod (m : Int) < (m : Int) := Int.fmod_lt_of_pos _ (by omega)
      have := k H' (z.fmod (m : Int)).toNat s th (by omega)
      rwa [Int.toNat_of_nonneg h0] at this
    have cdm : ∀ z : Int, CDivA z (m : Int) := fun z => ⟨by omega, Nat.lt_of_le_of_lt (log2_le_of_le (b := 1000) (by simp; omega)) (by decide)⟩
    have st : SqK true H (.ref t) [.ref c, .int (at_ : Int), .int left] := SqK.lst ht
    refine u_seq (u_ifT (u_op ⟨_, rfl, ixOf (i := 2) st rfl ⟨_, _, rfl, rfl, _, rfl, u_if (fun hl => ?_) (fun hl => ?_)⟩⟩))
    · refine u_seq (u_asg ⟨_, rfl, ixOf (i := 2) st rfl (.inl ⟨_, rfl, u_gname ?_⟩)⟩)
      dsimp only
      refine u_seq (u_asg ⟨_, rfl, _, rfl, _, _, rfl, rfl, cdm _, ⟨_, rfl, t, _, (2 : Int), 2, rfl, rfl, ht, rfl, ?_⟩⟩)
      dsimp only
      refine u_ret ⟨_, rfl, .inl ⟨_, rfl, _, rfl, _, _, rfl, rfl, by omega, ?_⟩⟩
      refine fin _ _ SameB.upd ⟨cells, at_, left.fdiv (m : Int), ntc, upd_same, by rw [upd_ne (Ne.symm ntc)]; exact hc, hcl, by omega⟩
    · refine u_next ?_
      dsimp only
      refine u_seq (u_asg ⟨_, rfl, ixOf (i := 1) st rfl (u_gname ?_)⟩)
      dsimp only
      refine u_seq (u_asg ⟨_, rfl, _, _, rfl, rfl, ⟨_, rfl, t, _, (1 : Int), 1, rfl, rfl, ht, rfl, ?_⟩⟩)
      dsimp only
      have h1t : (L2.upd H t (.lst [V.ref c, V.int ((at_ : Int) + 1), V.int left])) t = some (.lst [V.ref c, V.int ((at_ : Int) + 1), V.int left]) := upd_same
      have h1c : (L2.upd H t (.lst [V.ref c, V.int ((at_ : Int) + 1), V.int left])) c = some (.lst (cells.map V.int)) := by rw [upd_ne (Ne.symm ntc)]; exact hc
      have sb1 : SameB t H (L2.upd H t (.lst [V.ref c, V.int ((at_ : Int) + 1), V.int left])) := SameB.upd
      show tSeq _ _ _ _ (L2.upd H t (.lst [V.ref c, V.int ((at_ : Int) + 1), V.int left]))
      generalize L2.upd H t (.lst [V.ref c, V.int ((at_ : Int) + 1), V.int left]) = H1 at h1t h1c sb1 ⊢
      have st1 : SqK true H1 (.ref t) [.ref c, .int ((at_ : Int) + 1), .int left] := SqK.lst h1t
      have sc1 : SqK true H1 (.ref c) (cells.map V.int) := SqK.lst h1c
      have th1 : ThAt H1 t c (b + 1) := ⟨cells, at_ + 1, left, ntc, h1t, h1c, hcl, by omega⟩
      refine u_seq (u_ifT (u_op ⟨_, rfl, ixOf (i := 0) st1 rfl ⟨(by show 0 ≤ sizeLine; decide), fun e he => ?_⟩⟩))
      have s2 := Same.of_new (o := .lst []) he
      have he2 : (L2.upd H1 e (.lst [])) e = some (.lst []) := upd_same
      have ni : ∀ x ∈ cells.map V.int, Dq K (L2.upd H1 e (.lst [])) 1 x := fun x hx => by
        obtain ⟨p, _, rfl⟩ := List.mem_map.mp hx
        exact Dq.int 1 _
      refine eqNil (sc1.same s2) (SqK.lst he2) ni (by decide) ⟨_, rfl, u_if (fun hn => ?_) (fun hn => ?_)⟩
      · exact u_ret (k _ 0 (sb1.trans (SameB.of s2)) (th1.same s2) (by omega))
      have hc1 : 1 ≤ cells.length := by
        cases cells with
        | nil => simp at hn
        | cons a l => simp
      have st2 := st1.same s2
      have sc2 := sc1.same s2
      have th2 := th1.same s2
      have sb2 := sb1.trans (SameB.of s2 (D := t))
      have ht2 := s2 _ _ h1t
      have hc2 := s2 _ _ h1c
      clear ni he2
      generalize L2.upd H1 e (.lst []) = H2 at s2 st2 sc2 th2 sb2 ht2 hc2 ⊢
      refine u_next ?_
      dsimp only
      have hix : ((at_ : Int)).fmod ((cells.map V.int).length : Int) = ((at_ % cells.length : Nat) : Int) := by
        rw [List.length_map, Int.fmod_eq_emod_of_nonneg _ (by omega)]; rfl
      have hget : (cells.map V.int)[at_ % cells.length]? = some (.int (cells[at_ % cells.length]'(Nat.mod_lt _ (by omega)))) := by
        rw [List.getElem?_map, List.getElem?_eq_getElem (Nat.mod_lt _ (by omega))]; rfl
      generalize cells[at_ % cells.length]'(Nat.mod_lt _ (by omega)) = cell at hget
      refine u_seq (u_asg ⟨_, rfl, ixOf (i := 0) st2 rfl ⟨_, rfl, .inl ⟨_, rfl, ⟨_, rfl, ixOf (i := 0) st2 rfl ⟨_, _, rfl, sc2.or, _, _, rfl, rfl, by rw [List.length_map]; omega, ?_⟩⟩⟩⟩⟩)
      refine ixOfE hix sc2 hget (u_gname ?_)
      dsimp only
      refine u_seq (u_ifB (b := decide ((at_ : Int) < (cells.map V.int).length) && decide ((10 : Int) ^ (18 : Int).toNat ≤ (if cell < 0 then -cell else cell))) (fun R r => ?_) (u_if (fun hg => ?_) (fun hg => ?_)))
      · refine ⟨_, rfl, ⟨_, rfl, ixOf (i := 0) st2 rfl ⟨_, _, rfl, sc2.or, _, _, rfl, rfl, _, rfl, u_if (fun h => ?_) (fun h => ?_)⟩⟩⟩
        · refine ⟨_, rfl, _, rfl, _, _, rfl, rfl, ⟨by decide, by decide, by decide⟩, _, _, rfl, rfl, _, rfl, ?_⟩
          rw [h, Bool.true_and] at r
          exact r
        · rw [h, Bool.false_and] at r
          exact r
      · refine u_seq (u_asg ⟨_, rfl, _, rfl, _, _, rfl, rfl, ⟨by decide, by decide, by decide⟩, _, _, rfl, rfl, _, _, rfl, rfl, .inl ⟨by decide, by decide⟩, _, rfl, _, _, rfl, rfl, .inr ⟨_, rfl, _, _, rfl, rfl, u_gname ?_⟩⟩)
        dsimp only
        refine u_seq (u_asg ⟨_, rfl, .inl ⟨_, rfl, _, rfl, _, _, rfl, rfl, cdm _, ⟨_, rfl, t, _, (2 : Int), 2, rfl, rfl, ht2, rfl, ?_⟩⟩⟩)
        dsimp only
        refine u_ret ⟨_, rfl, .inl ⟨_, rfl, _, rfl, _, _, rfl, rfl, by omega, ?_⟩⟩
        refine fin _ _ (sb2.trans SameB.upd) ⟨cells, at_ + 1, _, ntc, upd_same, by rw [upd_ne (Ne.symm ntc)]; exact hc2, hcl, by omega⟩
      · refine u_next ?_
        dsimp only
        have cm : CMulW (61909 : Int) (at_ : Int) := cmw (by decide) (by omega)
        have g0 : (0 : Int) ≤ cell.fmod 2147483563 := Int.fmod_nonneg_of_pos _ (by decide)
        have g1 : cell.fmod 2147483563 < 2147483563 := Int.fmod_lt_of_pos _ (by decide)
        refine u_seq (u_asg ⟨_, rfl, .inl ⟨_, rfl, _, _, rfl, rfl, (show (2147483563 : Int) ≠ 0 by decide), _, rfl, _, _, rfl, rfl, cm, _, _, rfl, rfl, _, _, rfl, rfl, _, _, rfl, rfl, ⟨by decide, by decide, ?_⟩, .inl ⟨_, rfl, _, _, rfl, rfl, (show (2147483587 : Int) ≠ 0 by decide), u_gmod (by decide) (fun y k0 k1 => ?_)⟩⟩⟩)
        · generalize cell.fmod 2147483563 = y at g0 g1
          have : (y + 61909 * (at_ : Int) + 9907).natAbs < 18446744073709551616 := by omega
          exact this
        · clear g0 g1
          dsimp only
          have a0 : (0 : Int) ≤ (at_ : Int) := by omega
          have a1 : (at_ : Int) ≤ 1000000 := by omega
          have p1 : (91127 * (at_ : Int)) * (at_ : Int) ≤ (91127 * 1000000) * 1000000 := Int.mul_le_mul (by omega) a1 a0 (by omega)
          have p0 : (0 : Int) ≤ (91127 * (at_ : Int)) * (at_ : Int) := Int.mul_nonneg (by omega) a0
          have q1 : y * (2 * (at_ : Int) + 7457) ≤ 2147483587 * 3000000 := Int.mul_le_mul (by omega) (by omega) (by omega) (by omega)
          have q0 : (0 : Int) ≤ y * (2 * (at_ : Int) + 7457) := Int.mul_nonneg k0 (by omega)
          refine u_seq (u_asg ⟨_, rfl, _, rfl, _, _, rfl, rfl, cmw (by decide) (by omega), _, _, rfl, rfl, _, _, rfl, rfl, cmw (by omega) (by omega), _, rfl, _, _, rfl, rfl, cmw (by decide) (by omega), _, rfl, _, _, rfl, rfl, cmw (by omega) (by omega), _, _, rfl, rfl, _, _, rfl, rfl, _, _, rfl, rfl, ⟨by decide, by decide, ?_⟩, .inl ⟨_, rfl, _, _, rfl, rfl, (show (2147483549 : Int) ≠ 0 by decide), u_gname ?_⟩⟩)
          · generalize y * (2 * (at_ : Int) + 7457) = z at q0 q1
            generalize (91127 * (at_ : Int)) * (at_ : Int) = z2 at p0 p1
            have : (z + z2 + 61909).natAbs < 18446744073709551616 := by omega
            exact this
          · dsimp only
            refine u_ret ⟨_, rfl, _, _, rfl, rfl, ⟨by decide, by decide +kernel⟩, .inl ⟨_, rfl, _, rfl, _, _, rfl, rfl, by omega, ?_⟩⟩
            exact fin _ _ sb2 th2
end
end Hp
namespace Hp
set_option Elab.async false
set_option linter.all false
set_option maxRecDepth 100000
set_option maxHeartbeats 4000000
open PySem PySem.Spec PyProof.Rows L2 NdefX
section
variable {P : Program} {w : World} {K : PySem.W.Frag} {mg : Str → Option Value} {base : Heap}
def sp_law_one_of  : Sp :=  fun vs H Q _ => ∃ t tc b v c, ∃ xs : List V, vs = [.ref t, v] ∧ ThAt H t tc b ∧ b < 1000000 ∧ SqK c H v xs ∧ v ≠ .ref t ∧ 1 ≤ xs.length ∧ xs.length ≤ 1000 ∧ ∀ H' (r : Nat) x, SameB t H H' → ThAt H' t tc (b + 1) → xs[r]? = some x → Q x H'
theorem sc_law_one_of : FnScope ["_law_thief_here", "_law_some"] ["_law_thief_here", "_law_some"] (defScope s_law_one_of) := ⟨rfl, rfl, rfl, by decide +kernel, rfl, by decide +kernel, by decide +kernel⟩
theorem c_law_one_of (T : Wd K mg base) : Cal P w K mg base 2 "_law_one_of" sp_law_one_of [] := by
  obtain ⟨fd, F⟩ := T.d_law_one_of
  refine mkCal (k := 2 - 1) F T.g_law_one_of sc_law_one_of (F.bindsN fun _ _ _ _ _ _ us hl => match us, hl with | [_, _], _ => rfl) (fun vs H Q E h => ?_) (fun cdv A outer s H vs Q E hr h => ?_)
  · rcases h with ⟨t, tc, b, v, c, xs, rfl, th, hb, sv, hne, h1, h2, k⟩ <;> rfl
  · rcases h with ⟨t, tc, b, v, c, xs, rfl, th, hb, sv, hne, h1, h2, k⟩
    refine ⟨_, (pss_one (ps_ret (pe_ix ix_seq (pv 1) (pe_c (c_law_prowl T) hr (by decide) rfl (pa_cons (pv 0) (pa_cons (pe_callB call_len_seq (by rfl) T.f_len (by decide +kernel) (pa_cons (pv 1) pa_nil)) pa_nil))) (fun _ _ => rfl)))), ?_⟩
    obtain ⟨pv, rfl, hp⟩ := id sv
    refine ⟨_, rfl, _, rfl, _, rfl, _, _, rfl, sv.or, t, tc, b, xs.length, rfl, th, hb, h1, h2, fun H' r sb th' hr => ?_⟩
    have sv' : SqK c H' (.ref pv) xs := ⟨pv, rfl, sb _ _ (fun z => hne (by rw [z])) hp⟩
    have hx : xs[r]? = some (xs[r]'hr) := by simp
    exact ixOf sv' hx (k H' r _ sb th' hx)
def sp_law_ends  : Sp :=  fun vs H Q _ => ∃ v q, vs = [v] ∧ Num H v q ∧ ∀ p H', Same H H' → H' p = some (.tup [.int q.num, .int (q.den : Int)]) → Q (.ref p) H'
theorem sc_law_ends : FnScope ["_law_number_here"] ["_law_number_here"] (defScope s_law_ends) := ⟨rfl, rfl, rfl, by decide +kernel, rfl, by decide +kernel, by decide +kernel⟩
theorem c_law_ends (T : Wd K mg base) : Cal P w K mg base 1 "_law_ends" sp_law_ends [] := by
  obtain ⟨fd, F⟩ := T.d_law_ends
  refine mkCal (k := 1 - 1) F T.g_law_ends sc_law_ends (F.bindsN fun _ _ _ _ _ _ us hl => match us, hl with | [_], _ => rfl) (fun vs H Q E h => ?_) (fun cdv A outer s H vs Q E hr h => ?_)
  · rcases h with ⟨v, q, rfl, hq, k⟩ <;> rfl
  · rcases h with ⟨v, q, rfl, hq, k⟩
    refine ⟨_, (pss_one (ps_ret (pe_ifExp (pt_val (pe_callB call_isi (by rfl) T.f_isinstance (by decide +kernel) (pa_cons (pv 0) (pa_cons (pe_bltn (v := .ty "int") (by rfl) T.f_int (by decide +kernel) rfl) pa_nil)))) (pe_tup (pa_cons (pv 0) (pa_cons pe_int pa_nil))) (pe_tup (pa_cons (pe_ix ix_seq (pv 0) pe_int (fun _ _ => rfl)) (pa_cons (pe_ix ix_seq (pv 0) pe_int (fun _ _ => rfl)) pa_nil)))))), ?_⟩
    rcases hq with ⟨h1, rfl⟩ | ⟨h1, p, rfl, hp⟩
    · refine ⟨_, rfl, _, _, _, _, true, rfl, .ty "int", .base (.int _), kt (by decide +kernel), _, rfl, iteT ?_⟩
      refine ⟨_, rfl, sz2, fun t nt => k t _ (Same.of_new nt) ?_⟩
      rw [upd_same, h1]; rfl
    · refine ⟨_, rfl, _, _, _, _, false, rfl, .ty "int", .base (.tup hp), kt (by decide +kernel), _, rfl, iteF ?_⟩
      refine ⟨_, rfl, .inr (.inl ⟨p, _, 0, _, rfl, rfl, SqT.of hp, rfl, ?_⟩)⟩
      refine ⟨_, rfl, .inr (.inl ⟨p, _, 1, _, rfl, rfl, SqT.of hp, rfl, ?_⟩)⟩
      exact ⟨sz2, fun t nt => k t _ (Same.of_new nt) upd_same⟩
def sp_law_lowest  : Sp :=  fun vs H Q _ => ∃ a u : Int, vs = [.int a, .int u] ∧ 0 < u ∧ u.natAbs.log2 < 9000 ∧ ∀ v H', Same H H' → Num H' v (Rat.divInt a u) → Q v H'
theorem sc_law_lowest : FnScope ["_law_above", "_law_under", "_law_one", "_law_other"] ["_law_above", "_law_under"] (defScope s_law_lowest) := ⟨rfl, rfl, rfl, by decide +kernel, rfl, by decide +kernel, by decide +kernel⟩
theorem c_law_lowest (T : Wd K mg base) : Cal P w K mg base 1 "_law_lowest" sp_law_lowest [] := by
  obtain ⟨fd, F⟩ := T.d_law_lowest
  refine mkCal (k := 1 - 1) F T.g_law_lowest sc_law_lowest (F.bindsN fun _ _ _ _ _ _ us hl => match us, hl with | [_, _], _ => rfl) (fun vs H Q E h => ?_) (fun cdv A outer s H vs Q E hr h => ?_)
  · rcases h with ⟨a, u, rfl, hu, hul, k⟩ <;> rfl
  · rcases h with ⟨a, u, rfl, hu, hul, k⟩
    refine ⟨_, (pss_cons (ps_par (i := 2) (j := 3) rfl sc_law_lowest.nd rfl rfl (by decide) rfl rfl (pa_cons (pe_callB call_abs (by rfl) T.f_abs (by decide +kernel) (pa_cons (pv 0) pa_nil)) (pa_cons (pv 1) pa_nil)) (by rfl))
  (pss_cons (ps_while PassesOwn.never (pt_cmpR op_gt (pv 3) pe_int (nomark _)) (pss_one (ps_par (i := 2) (j := 3) rfl sc_law_lowest.nd rfl rfl (by decide) rfl rfl (pa_cons (pv 3) (pa_cons (pe_op op_modN (pe_callTy call_int1 (by rfl) T.f_int (by decide +kernel) (pa_cons (pv 2) pa_nil)) (pv 3)) pa_nil)) (by rfl))))
  (pss_cons (ps_par (i := 0) (j := 1) rfl sc_law_lowest.nd rfl rfl (by decide) rfl rfl (pa_cons (pe_op op_fdivA (pe_callTy call_int1 (by rfl) T.f_int (by decide +kernel) (pa_cons (pv 0) pa_nil)) (pv 2)) (pa_cons (pe_op op_fdivA (pe_callTy call_int1 (by rfl) T.f_int (by decide +kernel) (pa_cons (pv 1) pa_nil)) (pv 2)) pa_nil)) (by rfl))
  (pss_one (ps_ret (pe_ifExp (pt_cmpR op_eq (pv 1) pe_int (nomark _)) (pv 0) (pe_tup (pa_cons (pv 0) (pa_cons (pv 1) pa_nil))))))))), ?_⟩
    have hu0 : u ≠ 0 := by omega
    have e1 : a.fdiv (lpart a u) = (Rat.divInt a u).num := low_num hu0
    have e2 : u.fdiv (lpart a u) = ((Rat.divInt a u).den : Int) := low_den hu0
    have hne := lpart_ne (a := a) hu0
    have hlt : (lpart a u).natAbs.log2 < 9000 := Nat.lt_of_le_of_lt (log2_le_of_le (lpart_le hu0)) hul
    have el : lpart a u = (Int.gcd a u : Int) := by unfold lpart; rw [if_neg (by omega)]
    refine ⟨_, rfl, _, rfl, _, rfl, _, _, rfl, ?_⟩
    refine ⟨fun m σ' H' => ∃ x y : Nat, σ' = [some (.int a), some (.int u), some (.int (x : Int)), some (.int (y : Int))] ∧ H' = H ∧ m = y ∧ Nat.gcd x y = Int.gcd a u, ⟨u.toNat, a.natAbs, u.toNat, ?_, rfl, rfl, ?_⟩, ?_⟩
    · have h1 : (if a < 0 then -a else a) = (a.natAbs : Int) := by split <;> omega
      have h2 : u = (u.toNat : Int) := by omega
      rw [h1]
      show [some (V.int a), some (V.int u), some (V.int (a.natAbs : Int)), some (V.int u)] = _
      rw [← h2]
    · rw [Int.gcd_eq_natAbs_gcd_natAbs]; congr 1; omega
    · rintro m σ' H' ⟨x, y, rfl, rfl, rfl, hg⟩
      refine ⟨_, rfl, _, _, rfl, rfl, _, rfl, u_if (fun h => ?_) (fun h => ?_)⟩
      · have hy : 0 < m := by have := of_decide_eq_true h; omega
        refine ⟨fun σ'' H'' => ∃ x' y' : Nat, σ'' = [some (.int a), some (.int u), some (.int (x' : Int)), some (.int (y' : Int))] ∧ H'' = H' ∧ y' < m ∧ Nat.gcd x' y' = Int.gcd a u, fun σ'' H'' ⟨x', y', h1, h2, h3, h4⟩ => ⟨y', h3, x', y', h1, h2, rfl, h4⟩, ?_⟩
        refine ⟨_, rfl, _, rfl, .inl ⟨_, rfl, _, rfl, _, _, rfl, rfl, (by omega), _, _, rfl, m, x % m, ?_, rfl, Nat.mod_lt _ hy, ?_⟩⟩
        · show [some (V.int a), some (V.int u), some (V.int (m : Int)), some (V.int ((x : Int).fmod (m : Int)))] = _
          rw [Int.fmod_eq_emod_of_nonneg _ (by omega)]; rfl
        · rw [← hg, Nat.gcd_comm x m, Nat.gcd_rec m x, Nat.gcd_comm]
      · have hy : m = 0 := by have := of_decide_eq_false h; omega
        subst hy
        rw [Nat.gcd_zero_right] at hg
        have hx : (x : Int) = lpart a u := by rw [el, hg]
        rw [hx]
        refine ⟨_, rfl, .inl ⟨_, rfl, _, rfl, _, _, rfl, rfl, ⟨hne, hlt⟩, _, rfl, .inl ⟨_, rfl, _, rfl, _, _, rfl, rfl, ⟨hne, hlt⟩, _, _, rfl, ?_⟩⟩⟩
        dsimp only
        rw [e1, e2]
        refine ⟨_, rfl, rfl, _, rfl, ?_⟩
        by_cases h1 : (Rat.divInt a u).den = 1
        · refine itt (dt (by rw [h1]; rfl)) ⟨_, rfl, k _ _ (Same.refl _) (.inl ⟨h1, rfl⟩)⟩
        · refine itf (df (by intro z; injection z with z; omega)) ⟨_, rfl, _, rfl, sz2, fun t nt => k _ _ (Same.of_new nt) (.inr ⟨h1, t, rfl, upd_same⟩)⟩
end
end Hp
namespace Hp
set_option Elab.async false
set_option linter.all false
set_option maxRecDepth 100000
set_option maxHeartbeats 4000000
open PySem PySem.Spec PyProof.Rows L2 NdefX
theorem dd_pos (p q : Rat) : (0 : Int) < (p.den : Int) * (q.den : Int) := Int.mul_pos (by have := p.den_nz; omega) (by have := q.den_nz; omega)
theorem sz_inv {q : Rat} (q0 : q ≠ 0) (zq : Sz q) (ql : q.num.natAbs.log2 < 4000) : Sz q⁻¹ := by
  have hn : q.num ≠ 0 := fun z => q0 (Rat.num_eq_zero.mp z)
  have b : Bd q.num.natAbs q.den q⁻¹ := by
    refine ⟨(q.den : Int) * q.num.sign, ?_, ?_⟩
    · have e1 : ((q.num.natAbs : Nat) : Int) = q.num * q.num.sign := by rw [Int.mul_sign_self]
      have d0 : ((q.den : Int) : Rat) ≠ 0 := by
        intro z
        have := Rat.intCast_inj.mp (show ((q.den : Int) : Rat) = ((0 : Int) : Rat) from z)
        have := q.den_nz
        omega
      have e2 : q * ((q.den : Int) : Rat) = (q.num : Rat) := by
        have h := Rat.num_divInt_den q
        rw [Rat.divInt_eq_div] at h
        have h2 : (q.num : Rat) / ((q.den : Int) : Rat) * ((q.den : Int) : Rat) = (q.num : Rat) := Rat.div_mul_cancel d0
        rwa [h] at h2
      have e3 : q * q⁻¹ = 1 := Rat.mul_inv_cancel _ q0
      rw [e1, Rat.intCast_mul, Rat.intCast_mul, ← e2]
      grind
    · rw [Int.natAbs_mul, Int.natAbs_sign_of_ne_zero hn]; simp
  obtain ⟨h1, h2⟩ := b.nd (by omega)
  exact ⟨Nat.lt_of_le_of_lt (log2_le_of_le h1) (Nat.lt_trans zq.2 (by decide)), Nat.lt_of_le_of_lt (log2_le_of_le h2) ql⟩
section
variable {P : Program} {w : World} {K : PySem.W.Frag} {mg : Str → Option Value} {base : Heap}
def sp_law_plus  : Sp :=  fun vs H Q _ => ∃ v u p q, vs = [v, u] ∧ Num H v p ∧ Num H u q ∧ Sz p ∧ Sz q ∧ ∀ x H', Same H H' → Num H' x (p + q) → Q x H'
theorem sc_law_plus : FnScope ["_law_one", "_law_other", "_law_above", "_law_under", "_law_its", "_law_below"] ["_law_one", "_law_other"] (defScope s_law_plus) := ⟨rfl, rfl, rfl, by decide +kernel, rfl, by decide +kernel, by decide +kernel⟩
theorem c_law_plus (T : Wd K mg base) : Cal P w K mg base 2 "_law_plus" sp_law_plus [] := by
  obtain ⟨fd, F⟩ := T.d_law_plus
  refine mkCal (k := 2 - 1) F T.g_law_plus sc_law_plus (F.bindsN fun _ _ _ _ _ _ us hl => match us, hl with | [_, _], _ => rfl) (fun vs H Q E h => ?_) (fun cdv A outer s H vs Q E hr h => ?_)
  · rcases h with ⟨v, u, p, q, rfl, hp, hq, zp, zq, k⟩ <;> rfl
  · rcases h with ⟨v, u, p, q, rfl, hp, hq, zp, zq, k⟩
    refine ⟨_, (pss_cons (ps_asg (pe_tup (pa_cons (pe_c (c_law_ends T) hr (by decide) rfl (pa_cons (pv 0) pa_nil)) (pa_cons (pe_c (c_law_ends T) hr (by decide) rfl (pa_cons (pv 1) pa_nil)) pa_nil))) (pg_tup rfl (pgs_cons (pg_tup rfl (pgs_cons (pg_name (i := 2) sc_law_plus.nd rfl (Or.inl rfl)) (pgs_cons (pg_name (i := 3) sc_law_plus.nd rfl (Or.inl rfl)) pgs_nil))) (pgs_cons (pg_tup rfl (pgs_cons (pg_name (i := 4) sc_law_plus.nd rfl (Or.inl rfl)) (pgs_cons (pg_name (i := 5) sc_law_plus.nd rfl (Or.inl rfl)) pgs_nil))) pgs_nil))))
  (pss_one (ps_ret (pe_c (c_law_lowest T) hr (by decide) rfl (pa_cons (pe_op op_add (pe_op op_mulW (pv 2) (pv 5)) (pe_op op_mulW (pv 4) (pv 3))) (pa_cons (pe_op op_mulW (pv 3) (pv 5)) pa_nil)))))), ?_⟩
    refine ⟨_, rfl, v, p, rfl, hp, fun t H1 s1 ht => ?_⟩
    refine ⟨_, rfl, u, q, rfl, hq.mono s1.n, fun t2 H2 s2 ht2 => ?_⟩
    refine ⟨sz2, fun t3 n3 => ?_⟩
    have s3 := Same.of_new (o := .tup [.ref t, .ref t2]) n3
    refine ⟨t3, _, rfl, SqT.of upd_same, rfl, _, _, rfl, ⟨t, _, rfl, SqT.of (s3 _ _ (s2 _ _ ht)), rfl, _, _, rfl, _, _, rfl, rfl, ?_⟩⟩
    refine ⟨_, _, rfl, ⟨t2, _, rfl, SqT.of (s3 _ _ ht2), rfl, _, _, rfl, _, _, rfl, rfl, rfl, ?_⟩⟩
    refine ⟨_, rfl, _, rfl, _, _, rfl, rfl, zp.nd zq, _, rfl, _, rfl, _, _, rfl, rfl, zq.nd zp, _, _, rfl, rfl, _, rfl, _, rfl, _, _, rfl, rfl, zp.dd zq, ?_⟩
    refine ⟨_, _, rfl, dd_pos p q, zp.ddl zq, fun x H' s4 hx => k x H' (((s1.trans s2).trans s3).trans s4) ?_⟩
    rw [← add_low]; exact hx
def sp_law_times  : Sp :=  fun vs H Q _ => ∃ v u p q, vs = [v, u] ∧ Num H v p ∧ Num H u q ∧ Sz p ∧ Sz q ∧ ∀ x H', Same H H' → Num H' x (p * q) → Q x H'
theorem sc_law_times : FnScope ["_law_one", "_law_other", "_law_above", "_law_under", "_law_its", "_law_below"] ["_law_one", "_law_other"] (defScope s_law_times) := ⟨rfl, rfl, rfl, by decide +kernel, rfl, by decide +kernel, by decide +kernel⟩
theorem c_law_times (T : Wd K mg base) : Cal P w K mg base 2 "_law_times" sp_law_times [] := by
  obtain ⟨fd, F⟩ := T.d_law_times
  refine mkCal (k := 2 - 1) F T.g_law_times sc_law_times (F.bindsN fun _ _ _ _ _ _ us hl => match us, hl with | [_, _], _ => rfl) (fun vs H Q E h => ?_) (fun cdv A outer s H vs Q E hr h => ?_)
  · rcases h with ⟨v, u, p, q, rfl, hp, hq, zp, zq, k⟩ <;> rfl
  · rcases h with ⟨v, u, p, q, rfl, hp, hq, zp, zq, k⟩
    refine ⟨_, (pss_cons (ps_asg (pe_tup (pa_cons (pe_c (c_law_ends T) hr (by decide) rfl (pa_cons (pv 0) pa_nil)) (pa_cons (pe_c (c_law_ends T) hr (by decide) rfl (pa_cons (pv 1) pa_nil)) pa_nil))) (pg_tup rfl (pgs_cons (pg_tup rfl (pgs_cons (pg_name (i := 2) sc_law_times.nd rfl (Or.inl rfl)) (pgs_cons (pg_name (i := 3) sc_law_times.nd rfl (Or.inl rfl)) pgs_nil))) (pgs_cons (pg_tup rfl (pgs_cons (pg_name (i := 4) sc_law_times.nd rfl (Or.inl rfl)) (pgs_cons (pg_name (i := 5) sc_law_times.nd rfl (Or.inl rfl)) pgs_nil))) pgs_nil))))
  (pss_one (ps_ret (pe_c (c_law_lowest T) hr (by decide) rfl (pa_cons (pe_op op_mulW (pv 2) (pv 4)) (pa_cons (pe_op op_mulW (pv 3) (pv 5)) pa_nil)))))), ?_⟩
    refine ⟨_, rfl, v, p, rfl, hp, fun t H1 s1 ht => ?_⟩
    refine ⟨_, rfl, u, q, rfl, hq.mono s1.n, fun t2 H2 s2 ht2 => ?_⟩
    refine ⟨sz2, fun t3 n3 => ?_⟩
    have s3 := Same.of_new (o := .tup [.ref t, .ref t2]) n3
    refine ⟨t3, _, rfl, SqT.of upd_same, rfl, _, _, rfl, ⟨t, _, rfl, SqT.of (s3 _ _ (s2 _ _ ht)), rfl, _, _, rfl, _, _, rfl, rfl, ?_⟩⟩
    refine ⟨_, _, rfl, ⟨t2, _, rfl, SqT.of (s3 _ _ ht2), rfl, _, _, rfl, _, _, rfl, rfl, rfl, ?_⟩⟩
    refine ⟨_, rfl, _, rfl, _, _, rfl, rfl, zp.nn zq, _, rfl, _, rfl, _, _, rfl, rfl, zp.dd zq, ?_⟩
    refine ⟨_, _, rfl, dd_pos p q, zp.ddl zq, fun x H' s4 hx => k x H' (((s1.trans s2).trans s3).trans s4) ?_⟩
    rw [← mul_low]; exact hx
def sp_law_is_less  : Sp :=  fun vs H Q _ => ∃ v u p q, vs = [v, u] ∧ Num H v p ∧ Num H u q ∧ Sz p ∧ Sz q ∧ ∀ H', Same H H' → Q (.bl (decide (p < q))) H'
theorem sc_law_is_less : FnScope ["_law_one", "_law_other", "_law_above", "_law_under", "_law_its", "_law_below"] ["_law_one", "_law_other"] (defScope s_law_is_less) := ⟨rfl, rfl, rfl, by decide +kernel, rfl, by decide +kernel, by decide +kernel⟩
theorem c_law_is_less (T : Wd K mg base) : Cal P w K mg base 2 "_law_is_less" sp_law_is_less [] := by
  obtain ⟨fd, F⟩ := T.d_law_is_less
  refine mkCal (k := 2 - 1) F T.g_law_is_less sc_law_is_less (F.bindsN fun _ _ _ _ _ _ us hl => match us, hl with | [_, _], _ => rfl) (fun vs H Q E h => ?_) (fun cdv A outer s H vs Q E hr h => ?_)
  · rcases h with ⟨v, u, p, q, rfl, hp, hq, zp, zq, k⟩ <;> rfl
  · rcases h with ⟨v, u, p, q, rfl, hp, hq, zp, zq, k⟩
    refine ⟨_, (pss_cons (ps_asg (pe_tup (pa_cons (pe_c (c_law_ends T) hr (by decide) rfl (pa_cons (pv 0) pa_nil)) (pa_cons (pe_c (c_law_ends T) hr (by decide) rfl (pa_cons (pv 1) pa_nil)) pa_nil))) (pg_tup rfl (pgs_cons (pg_tup rfl (pgs_cons (pg_name (i := 2) sc_law_is_less.nd rfl (Or.inl rfl)) (pgs_cons (pg_name (i := 3) sc_law_is_less.nd rfl (Or.inl rfl)) pgs_nil))) (pgs_cons (pg_tup rfl (pgs_cons (pg_name (i := 4) sc_law_is_less.nd rfl (Or.inl rfl)) (pgs_cons (pg_name (i := 5) sc_law_is_less.nd rfl (Or.inl rfl)) pgs_nil))) pgs_nil))))
  (pss_one (ps_ret (pe_cmpR op_lt (pe_op op_mulW (pv 2) (pv 5)) (pe_op op_mulW (pv 4) (pv 3)) (nomark _))))), ?_⟩
    refine ⟨_, rfl, v, p, rfl, hp, fun t H1 s1 ht => ?_⟩
    refine ⟨_, rfl, u, q, rfl, hq.mono s1.n, fun t2 H2 s2 ht2 => ?_⟩
    refine ⟨sz2, fun t3 n3 => ?_⟩
    have s3 := Same.of_new (o := .tup [.ref t, .ref t2]) n3
    refine ⟨t3, _, rfl, SqT.of upd_same, rfl, _, _, rfl, ⟨t, _, rfl, SqT.of (s3 _ _ (s2 _ _ ht)), rfl, _, _, rfl, _, _, rfl, rfl, ?_⟩⟩
    refine ⟨_, _, rfl, ⟨t2, _, rfl, SqT.of (s3 _ _ ht2), rfl, _, _, rfl, _, _, rfl, rfl, rfl, ?_⟩⟩
    refine ⟨_, rfl, _, rfl, _, _, rfl, rfl, zp.nd zq, _, rfl, _, rfl, _, _, rfl, rfl, zq.nd zp, _, _, rfl, rfl, ?_⟩
    have e : decide (p.num * (q.den : Int) < q.num * (p.den : Int)) = decide (p < q) := by rw [decide_eq_decide]; exact (Rat.lt_iff p q).symm
    dsimp only
    rw [e]
    exact k _ ((s1.trans s2).trans s3)
def sp_law_total  : Sp :=  fun vs H Q _ => ∃ b v xs qs, vs = [v] ∧ SqK b H v xs ∧ Nums H xs qs ∧ SzSum qs ∧ ∀ x H', Same H H' → Num H' x (rsum qs) → Q x H'
theorem sc_law_total : FnScope ["_law_numbers", "_law_found", "_law_number_here"] ["_law_numbers"] (defScope s_law_total) := ⟨rfl, rfl, rfl, by decide +kernel, rfl, by decide +kernel, by decide +kernel⟩
theorem c_law_total (T : Wd K mg base) : Cal P w K mg base 3 "_law_total" sp_law_total [] := by
  obtain ⟨fd, F⟩ := T.d_law_total
  refine mkCal (k := 3 - 1) F T.g_law_total sc_law_total (F.bindsN fun _ _ _ _ _ _ us hl => match us, hl with | [_], _ => rfl) (fun vs H Q E h => ?_) (fun cdv A outer s H vs Q E hr h => ?_)
  · rcases h with ⟨b, v, xs, qs, rfl, sq, hn, sz, k⟩ <;> rfl
  · rcases h with ⟨b, v, xs, qs, rfl, sq, hn, sz, k⟩
    refine ⟨_, (pss_cons (ps_set (i := 1) sc_law_total.nd rfl (Or.inl rfl) pe_int)
  (pss_cons (ps_for PassesOwn.never rfl (pi_seq (pv 0)) (pg_name (i := 2) sc_law_total.nd rfl (Or.inl rfl))
  (pss_one (ps_set (i := 1) sc_law_total.nd rfl (Or.inl rfl) (pe_c (c_law_plus T) hr (by decide) rfl (pa_cons (pv 1) (pa_cons (pv 2) pa_nil))))))
  (pss_one (ps_ret (pv 1))))), ?_⟩
    refine for_seq (gives_var rfl) sq (fun i σ' H' => ∃ x y, σ' = [some v, some x, y] ∧ Same H H' ∧ Num H' x (rsum (qs.take i))) ⟨_, _, rfl, Same.refl _, Num.int H 0⟩ (fun i σ' H' _ ⟨_, _, _, s, _⟩ => sq.same s) ?_ ?_
    · rintro i x σ' H' hx ⟨y, z, rfl, s1, hy⟩
      obtain ⟨q, hq, hxq⟩ := paired_get hn hx
      refine ⟨_, rfl, _, rfl, _, _, _, _, rfl, hy, hxq.mono s1.n, sz.2 i, sz.1 q (mem_get hq), fun y2 H2 s2 hy2 => ⟨_, _, rfl, s1.trans s2, ?_⟩⟩
      rw [rsum_take hq]; exact hy2
    · rintro σ' H' ⟨y, z, rfl, s1, hy⟩
      refine ⟨_, rfl, k _ _ s1 ?_⟩
      rw [hn.length, take_all] at hy; exact hy
def sp_law_paid  : Sp :=  fun vs H Q _ => ∃ b c v u xs ys ps qs, vs = [v, u] ∧ SqK b H v xs ∧ SqK c H u ys ∧ Nums H xs ps ∧ Nums H ys qs ∧ xs.length ≤ 100000 ∧ (∀ q ∈ ps, Sz q) ∧ (∀ q ∈ qs, Sz q) ∧ SzSum (rmul ps qs) ∧ ∀ x H', Same H H' → Num H' x (rdot ps qs) → Q x H'
theorem sc_law_paid : FnScope ["_law_shares", "_law_day", "_law_one", "_law_other"] ["_law_shares", "_law_day"] (defScope s_law_paid) := ⟨rfl, rfl, rfl, by decide +kernel, rfl, by decide +kernel, by decide +kernel⟩
theorem c_law_paid (T : Wd K mg base) : Cal P w K mg base 4 "_law_paid" sp_law_paid [] := by
  obtain ⟨fd, F⟩ := T.d_law_paid
  refine mkCal (k := 4 - 1) F T.g_law_paid sc_law_paid (F.bindsN fun _ _ _ _ _ _ us hl => match us, hl with | [_, _], _ => rfl) (fun vs H Q E h => ?_) (fun cdv A outer s H vs Q E hr h => ?_)
  · rcases h with ⟨b, c, v, u, xs, ys, ps, qs, rfl, sx, sy, hx, hy, hl, zp, zq, sz, k⟩ <;> rfl
  · rcases h with ⟨b, c, v, u, xs, ys, ps, qs, rfl, sx, sy, hx, hy, hl, zp, zq, sz, k⟩
    refine ⟨_, (pss_one (ps_ret (pe_c (c_law_total T) hr (by decide) rfl (pa_cons (pe_lc (own := [("_law_one", 2), ("_law_other", 3)]) rfl sc_law_paid.nd (pi_zipS (by rfl) T.f_zip (pa_cons (pv 0) (pa_cons (pv 1) pa_nil))) (blkOk_by (own := [("_law_one", 2), ("_law_other", 3)]) (N := ["_law_shares", "_law_day", "_law_one", "_law_other"]) (sc := defScope s_law_paid) (by decide +kernel)) (fun _ _ _ _ _ => by exact (by refine pg_pair (K := K) (i := 2) (j := 3) ?_ ?_ ?_ ?_ ?_ ?_ ?_ <;> first | exact sc_law_paid.nd | rfl)) (fun _ _ _ _ _ => by exact pts_nil) (fun _ _ _ _ _ => by exact (pe_c (c_law_times T) hr (by decide) rfl (pa_cons (pv 2) (pa_cons (pv 3) pa_nil))))) pa_nil)))), ?_⟩
    refine u_ret (u_call1 ?_)
    refine lc_zip (H1 := H) ?_ ?_ sx sy hl (fun D i H' z => ∀ p q, ps[i]? = some p → qs[i]? = some q → Num H' z (p * q)) (fun D i H1 H2 z c h p q h1 h2 => (h p q h1 h2).mono c.n) ?_ ?_ (fun _ _ => rfl)
    · exact gives_var rfl
    · exact gives_var rfl
    · intro D i x y H' R h1 h2 hD s1 hDn hR
      obtain ⟨p, hp, hxp⟩ := paired_get hx h1
      obtain ⟨q, hq, hyq⟩ := paired_get hy h2
      refine ⟨_, rfl, _, rfl, _, _, _, _, rfl, hxp.mono s1.n, hyq.mono s1.n, zp p (mem_get hp), zq q (mem_get hq), fun z H4 s4 hz => hR z H4 s4 fun p' q' h3 h4 => ?_⟩
      rw [hp] at h3; rw [hq] at h4; cases h3; cases h4; exact hz
    · intro D H' zs hD s1 hDz hl2 hF
      refine ⟨true, _, zs, rmul ps qs, rfl, SqK.lst hDz, paired_of (by rw [rmul_len, hl2, hx.length, hy.length]) fun i z r hz hr => ?_, sz, fun x H2 s2 hx2 => k x H2 (s1.trans s2) hx2⟩
      have hi : i < min ps.length qs.length := by
        have := (List.getElem?_eq_some_iff.mp hr).1
        rw [rmul_len] at this; exact this
      have e1 : ps[i]? = some (ps[i]'(by omega)) := by simp
      have e2 : qs[i]? = some (qs[i]'(by omega)) := by simp
      rw [rmul_get e1 e2] at hr; cases hr
      exact hF i z hz _ _ e1 e2
def sp_law_minus  : Sp :=  fun vs H Q _ => ∃ v p, vs = [v] ∧ Num H v p ∧ Sz p ∧ ∀ x H', Same H H' → Num H' x (-p) → Q x H'
theorem sc_law_minus : FnScope ["_law_number_here", "_law_above", "_law_under"] ["_law_number_here"] (defScope s_law_minus) := ⟨rfl, rfl, rfl, by decide +kernel, rfl, by decide +kernel, by decide +kernel⟩
theorem c_law_minus (T : Wd K mg base) : Cal P w K mg base 2 "_law_minus" sp_law_minus [] := by
  obtain ⟨fd, F⟩ := T.d_law_minus
  refine mkCal (k := 2 - 1) F T.g_law_minus sc_law_minus (F.bindsN fun _ _ _ _ _ _ us hl => match us, hl with | [_], _ => rfl) (fun vs H Q E h => ?_) (fun cdv A outer s H vs Q E hr h => ?_)
  · rcases h with ⟨v, p, rfl, hp, zp, k⟩ <;> rfl
  · rcases h with ⟨v, p, rfl, hp, zp, k⟩
    refine ⟨_, (pss_cons (ps_asg (pe_c (c_law_ends T) hr (by decide) rfl (pa_cons (pv 0) pa_nil)) (pg_tup rfl (pgs_cons (pg_name (i := 1) sc_law_minus.nd rfl (Or.inl rfl)) (pgs_cons (pg_name (i := 2) sc_law_minus.nd rfl (Or.inl rfl)) pgs_nil))))
  (pss_one (ps_ret (pe_c (c_law_lowest T) hr (by decide) rfl (pa_cons (pe_un un_neg (pv 1)) (pa_cons (pv 2) pa_nil)))))), ?_⟩
    refine ⟨_, rfl, v, p, rfl, hp, fun t H1 s1 ht => ?_⟩
    refine ⟨t, _, rfl, SqT.of ht, rfl, _, _, rfl, _, _, rfl, rfl, ?_⟩
    refine ⟨_, rfl, _, rfl, _, rfl, _, _, rfl, ?_, ?_, fun x H' s2 hx => k x H' (s1.trans s2) ?_⟩
    · have := p.den_nz; omega
    · have := zp.2
      simp only [Int.natAbs_natCast]; omega
    · have e : Rat.divInt (-p.num) (p.den : Int) = -p := by
        rw [← Rat.neg_divInt, Rat.num_divInt_den]
      rw [← e]; exact hx
def sp_law_over  : Sp :=  fun vs H Q _ => ∃ v u p q, vs = [v, u] ∧ Num H v p ∧ Num H u q ∧ Sz p ∧ Sz q ∧ q ≠ 0 ∧ q.num.natAbs.log2 < 4000 ∧ ∀ x H', Same H H' → Num H' x (p / q) → Q x H'
theorem sc_law_over : FnScope ["_law_one", "_law_other", "_law_above", "_law_under"] ["_law_one", "_law_other"] (defScope s_law_over) := ⟨rfl, rfl, rfl, by decide +kernel, rfl, by decide +kernel, by decide +kernel⟩
theorem c_law_over (T : Wd K mg base) : Cal P w K mg base 3 "_law_over" sp_law_over [] := by
  obtain ⟨fd, F⟩ := T.d_law_over
  refine mkCal (k := 3 - 1) F T.g_law_over sc_law_over (F.bindsN fun _ _ _ _ _ _ us hl => match us, hl with | [_, _], _ => rfl) (fun vs H Q E h => ?_) (fun cdv A outer s H vs Q E hr h => ?_)
  · rcases h with ⟨v, u, p, q, rfl, hp, hq, zp, zq, q0, ql, k⟩ <;> rfl
  · rcases h with ⟨v, u, p, q, rfl, hp, hq, zp, zq, q0, ql, k⟩
    refine ⟨_, (pss_cons (ps_asg (pe_c (c_law_ends T) hr (by decide) rfl (pa_cons (pv 1) pa_nil)) (pg_tup rfl (pgs_cons (pg_name (i := 2) sc_law_over.nd rfl (Or.inl rfl)) (pgs_cons (pg_name (i := 3) sc_law_over.nd rfl (Or.inl rfl)) pgs_nil))))
  (pss_one (ps_ret (pe_c (c_law_times T) hr (by decide) rfl (pa_cons (pv 0) (pa_cons (pe_ifExp (pt_cmpR op_gt (pv 2) pe_int (nomark _)) (pe_c (c_law_lowest T) hr (by decide) rfl (pa_cons (pv 3) (pa_cons (pv 2) pa_nil))) (pe_c (c_law_lowest T) hr (by decide) rfl (pa_cons (pe_un un_neg (pv 3)) (pa_cons (pe_un un_neg (pv 2)) pa_nil)))) pa_nil)))))), ?_⟩
    have hn : q.num ≠ 0 := fun z => q0 (Rat.num_eq_zero.mp z)
    have zi := sz_inv q0 zq ql
    refine ⟨_, rfl, u, q, rfl, hq, fun t H1 s1 ht => ?_⟩
    refine ⟨t, _, rfl, SqT.of ht, rfl, _, _, rfl, _, _, rfl, rfl, ?_⟩
    refine ⟨_, rfl, _, rfl, _, _, rfl, rfl, _, rfl, u_if (fun h => ?_) (fun h => ?_)⟩
    · have h0 : 0 < q.num := of_decide_eq_true h
      refine ⟨_, rfl, _, rfl, _, _, rfl, h0, by omega, fun y H2 s2 hy => ?_⟩
      rw [← Rat.inv_def] at hy
      refine ⟨v, y, p, _, rfl, (hp.mono s1.n).mono s2.n, hy, zp, zi, fun x H3 s3 hx => k x H3 ((s1.trans s2).trans s3) ?_⟩
      rw [Rat.div_def]; exact hx
    · have h0 : ¬ 0 < q.num := of_decide_eq_false h
      refine ⟨_, rfl, _, rfl, _, rfl, _, rfl, _, _, rfl, by omega, by rw [Int.natAbs_neg]; omega, fun y H2 s2 hy => ?_⟩
      rw [Rat.neg_divInt_neg, ← Rat.inv_def] at hy
      refine ⟨v, y, p, _, rfl, (hp.mono s1.n).mono s2.n, hy, zp, zi, fun x H3 s3 hx => k x H3 ((s1.trans s2).trans s3) ?_⟩
      rw [Rat.div_def]; exact hx
end
end Hp
/-! Plain mathematics: the law's square number (a determinant by its first row), its sizes, Cramer's weights. -/
namespace Hp
set_option autoImplicit false
def minorR (a : Nat) (row : List Rat) : List Rat := row.take a ++ row.drop (a + 1)
def det : Nat → List (List Rat) → Rat
  | 0, _ => 1
  | n + 1, m => rsum ((List.range (m.getD 0 []).length).map fun a => if a % 2 = 0 then (m.getD 0 []).getD a 0 * det n ((m.drop 1).map (minorR a)) else - ((m.getD 0 []).getD a 0 * det n ((m.drop 1).map (minorR a))))
theorem det_bd : ∀ {n : Nat} {m : List (List Rat)}, (∀ r ∈ m, r.length ≤ 3 ∧ ∀ q ∈ r, Bd 6 24 q) → Bd (6 ^ n) (72 ^ n) (det n m)
  | 0, m, _ => Bd.one (by decide)
  | n + 1, m, h => by
    have hm : ∀ a, Bd (6 ^ n) (72 ^ n) (det n ((m.drop 1).map (minorR a))) := fun a => det_bd fun r hr => by
      obtain ⟨r', hr', rfl⟩ := List.mem_map.mp hr
      obtain ⟨h1, h2⟩ := h r' (List.mem_of_mem_drop hr')
      refine ⟨?_, fun q hq => h2 q ?_⟩
      · unfold minorR; simp; omega
      · unfold minorR at hq
        rcases List.mem_append.mp hq with k | k
        · exact List.mem_of_mem_take k
        · exact List.mem_of_mem_drop k
    have h0 : (m.getD 0 []).length ≤ 3 ∧ ∀ a, Bd 6 24 ((m.getD 0 []).getD a 0) := by
      cases m with
      | nil => exact ⟨by simp, fun a => by simpa using Bd.zero 6 24⟩
      | cons r m =>
        obtain ⟨h1, h2⟩ := h r (by simp)
        refine ⟨h1, fun a => ?_⟩
        show Bd 6 24 (r.getD a 0)
        by_cases ha : a < r.length
        · exact h2 _ (getD_memL ha)
        · rw [List.getD_eq_getElem?_getD, List.getElem?_eq_none (by omega)]
          exact Bd.zero 6 24
    have hb := Bd.rsum (D := 6 * 6 ^ n) (N := 24 * 72 ^ n) (l := (List.range (m.getD 0 []).length).map fun a => if a % 2 = 0 then (m.getD 0 []).getD a 0 * det n ((m.drop 1).map (minorR a)) else - ((m.getD 0 []).getD a 0 * det n ((m.drop 1).map (minorR a)))) fun q hq => by
      obtain ⟨a, _, rfl⟩ := List.mem_map.mp hq
      split
      · exact (h0.2 a).mul (hm a)
      · exact ((h0.2 a).mul (hm a)).neg
    rw [Nat.pow_succ, Nat.mul_comm (6 ^ n)]
    refine hb.mono ?_
    rw [List.length_map, List.length_range, Nat.pow_succ]
    have := h0.1
    have h3 : (m.getD 0 []).length * (24 * 72 ^ n) ≤ 3 * (24 * 72 ^ n) := Nat.mul_le_mul_right _ this
    omega
theorem det1 (a : Rat) : det 1 [[a]] = a := by
  simp [det, rsum, List.range_succ]
  grind
theorem det2 (a b c d : Rat) : det 2 [[a, b], [c, d]] = a * d - b * c := by
  simp [det, rsum, List.range_succ, minorR]
  grind
theorem det3 (a b c d e f g h i : Rat) : det 3 [[a, b, c], [d, e, f], [g, h, i]] = a * (e * i - f * h) - b * (d * i - f * g) + c * (d * h - e * g) := by
  simp [det, rsum, List.range_succ, minorR]
  grind
theorem len2 {α : Type} {l : List α} (h : l.length = 2) : ∃ a b, l = [a, b] := by
  match l, h with
  | [a, b], _ => exact ⟨a, b, rfl⟩
theorem len3 {α : Type} {l : List α} (h : l.length = 3) : ∃ a b c, l = [a, b, c] := by
  match l, h with
  | [a, b, c], _ => exact ⟨a, b, c, rfl⟩
/-- Cramer's weights -/
def cram (n : Nat) (m : List (List Rat)) (j : Nat) : Rat := det n (m.set j (List.replicate n 1)) / det n m
theorem cram_eq {n : Nat} {m : List (List Rat)} {W : List Rat} (hn : 1 ≤ n) (hn3 : n ≤ 3) (hl : m.length = n) (hr : ∀ r ∈ m, r.length = n) (h0 : det n m ≠ 0) (hW : WR m n W) : ∀ j, j < n → W.getD j 0 = cram n m j := by
  obtain ⟨hWl, hw⟩ := hW
  have key : ∀ j, j < n → det n (m.set j (List.replicate n 1)) = W.getD j 0 * det n m := by
    have : n = 1 ∨ n = 2 ∨ n = 3 := by omega
    rcases this with rfl | rfl | rfl
    · obtain ⟨r1, rfl⟩ := List.length_eq_one_iff.mp hl
      obtain ⟨a, rfl⟩ := List.length_eq_one_iff.mp (hr r1 (by simp))
      obtain ⟨w, rfl⟩ := List.length_eq_one_iff.mp hWl
      have h1 := hw 0 (by decide)
      simp [sm, en] at h1
      intro j hj
      have : j = 0 := by omega
      subst this
      show det 1 [[1]] = w * det 1 [[a]]
      rw [det1, det1]
      grind
    · obtain ⟨r1, r2, rfl⟩ := len2 hl
      obtain ⟨a, b, rfl⟩ := len2 (hr r1 (by simp))
      obtain ⟨c, d, rfl⟩ := len2 (hr r2 (by simp))
      obtain ⟨w1, w2, rfl⟩ := len2 hWl
      have h1 := hw 0 (by decide)
      have h2 := hw 1 (by decide)
      simp [sm, en] at h1 h2
      intro j hj
      have : j = 0 ∨ j = 1 := by omega
      rcases this with rfl | rfl
      · show det 2 [[1, 1], [c, d]] = w1 * det 2 [[a, b], [c, d]]
        rw [det2, det2]; grind
      · show det 2 [[a, b], [1, 1]] = w2 * det 2 [[a, b], [c, d]]
        rw [det2, det2]; grind
    · obtain ⟨r1, r2, r3, rfl⟩ := len3 hl
      obtain ⟨a, b, c, rfl⟩ := len3 (hr r1 (by simp))
      obtain ⟨d, e, f, rfl⟩ := len3 (hr r2 (by simp))
      obtain ⟨g, h, i, rfl⟩ := len3 (hr r3 (by simp))
      obtain ⟨w1, w2, w3, rfl⟩ := len3 hWl
      have h1 := hw 0 (by decide)
      have h2 := hw 1 (by decide)
      have h3 := hw 2 (by decide)
      simp [sm, en] at h1 h2 h3
      intro j hj
      have : j = 0 ∨ j = 1 ∨ j = 2 := by omega
      rcases this with rfl | rfl | rfl
      · show det 3 [[1, 1, 1], [d, e, f], [g, h, i]] = w1 * det 3 [[a, b, c], [d, e, f], [g, h, i]]
        rw [det3, det3]; grind
      · show det 3 [[a, b, c], [1, 1, 1], [g, h, i]] = w2 * det 3 [[a, b, c], [d, e, f], [g, h, i]]
        rw [det3, det3]; grind
      · show det 3 [[a, b, c], [d, e, f], [1, 1, 1]] = w3 * det 3 [[a, b, c], [d, e, f], [g, h, i]]
        rw [det3, det3]; grind
  intro j hj
  unfold cram
  rw [key j hj, Rat.mul_div_cancel h0]
theorem det_ker {n : Nat} {m : List (List Rat)} (hn : 1 ≤ n) (hn3 : n ≤ 3) (hl : m.length = n) (hr : ∀ r ∈ m, r.length = n) (h0 : det n m ≠ 0) : ∀ x : Nat → Rat, (∀ i, i < n → sm n (fun c => en m i c * x c) = 0) → ∀ c, c < n → x c = 0 := by
  intro x hx
  have key : ∀ c, c < n → x c * det n m = 0 := by
    have : n = 1 ∨ n = 2 ∨ n = 3 := by omega
    rcases this with rfl | rfl | rfl
    · obtain ⟨r1, rfl⟩ := List.length_eq_one_iff.mp hl
      obtain ⟨a, rfl⟩ := List.length_eq_one_iff.mp (hr r1 (by simp))
      have h1 := hx 0 (by decide)
      simp only [sm, en] at h1
      intro j hj
      have : j = 0 := by omega
      subst this
      rw [det1]
      simp at h1
      grind
    · obtain ⟨r1, r2, rfl⟩ := len2 hl
      obtain ⟨a, b, rfl⟩ := len2 (hr r1 (by simp))
      obtain ⟨c, d, rfl⟩ := len2 (hr r2 (by simp))
      have h1 := hx 0 (by decide)
      have h2 := hx 1 (by decide)
      simp [sm, en] at h1 h2
      intro j hj
      have : j = 0 ∨ j = 1 := by omega
      rw [det2]
      rcases this with rfl | rfl <;> grind
    · obtain ⟨r1, r2, r3, rfl⟩ := len3 hl
      obtain ⟨a, b, c, rfl⟩ := len3 (hr r1 (by simp))
      obtain ⟨d, e, f, rfl⟩ := len3 (hr r2 (by simp))
      obtain ⟨g, h, i, rfl⟩ := len3 (hr r3 (by simp))
      have h1 := hx 0 (by decide)
      have h2 := hx 1 (by decide)
      have h3 := hx 2 (by decide)
      simp [sm, en] at h1 h2 h3
      intro j hj
      have : j = 0 ∨ j = 1 ∨ j = 2 := by omega
      rw [det3]
      rcases this with rfl | rfl | rfl <;> grind
  intro c hc
  rcases Rat.mul_eq_zero.mp (key c hc) with z | z
  · exact z
  · exact absurd z h0
end Hp
namespace Hp
set_option Elab.async false
set_option linter.all false
set_option maxRecDepth 100000
set_option maxHeartbeats 4000000
open PySem PySem.Spec PyProof.Rows L2 NdefX
theorem bd_frac {r d : Nat} (hd : d = 1 ∨ d = 2 ∨ d = 3) (hr : r ≤ 5) : 0 ≤ Rat.divInt (r : Int) (d : Int) ∧ Bd 6 30 (Rat.divInt (r : Int) (d : Int)) := by
  rw [Rat.divInt_eq_div]
  have h0 : (0 : Rat) ≤ ((r : Int) : Rat) := Rat.intCast_nonneg.mpr (by omega)
  generalize hR : ((r : Int) : Rat) = R at h0
  rcases hd with rfl | rfl | rfl
  · refine ⟨?_, (6 * r : Nat), ?_, by omega⟩
    · show 0 ≤ R / ((1 : Int) : Rat); grind
    · show R / ((1 : Int) : Rat) * ((6 : Int) : Rat) = _
      rw [Int.natCast_mul, Rat.intCast_mul, hR]; grind
  · refine ⟨?_, (3 * r : Nat), ?_, by omega⟩
    · show 0 ≤ R / ((2 : Int) : Rat); grind
    · show R / ((2 : Int) : Rat) * ((6 : Int) : Rat) = _
      rw [Int.natCast_mul, Rat.intCast_mul, hR]; grind
  · refine ⟨?_, (2 * r : Nat), ?_, by omega⟩
    · show 0 ≤ R / ((3 : Int) : Rat); grind
    · show R / ((3 : Int) : Rat) * ((6 : Int) : Rat) = _
      rw [Int.natCast_mul, Rat.intCast_mul, hR]; grind
section
variable {P : Program} {w : World} {K : PySem.W.Frag} {mg : Str → Option Value} {base : Heap}
def sp_law_number  : Sp :=  fun vs H Q _ => ∃ t c b, vs = [.ref t, .int 5] ∧ ThAt H t c b ∧ b < 999000 ∧ ∀ H' x q, SameB t H H' → ThAt H' t c (b + 2) → Num H' x q → 0 ≤ q → Bd 6 30 q → Q x H'
theorem sc_law_number : FnScope ["_law_thief_here", "_law_most"] ["_law_thief_here", "_law_most"] (defScope s_law_number) := ⟨rfl, rfl, rfl, by decide +kernel, rfl, by decide +kernel, by decide +kernel⟩
theorem c_law_number (T : Wd K mg base) : Cal P w K mg base 3 "_law_number" sp_law_number [] := by
  obtain ⟨fd, F⟩ := T.d_law_number
  refine mkCal (k := 3 - 1) F T.g_law_number sc_law_number (F.bindsN fun _ _ _ _ _ _ us hl => match us, hl with | [_, _], _ => rfl) (fun vs H Q E h => ?_) (fun cdv A outer s H vs Q E hr h => ?_)
  · rcases h with ⟨t, c, b, rfl, th, hb, k⟩ <;> rfl
  · rcases h with ⟨t, c, b, rfl, th, hb, k⟩
    refine ⟨_, (pss_one (ps_ret (pe_c (c_law_lowest T) hr (by decide) rfl (pa_cons (pe_c (c_law_prowl T) hr (by decide) rfl (pa_cons (pv 0) (pa_cons (pe_op op_add (pv 1) pe_int) pa_nil))) (pa_cons (pe_c (c_law_one_of T) hr (by decide) rfl (pa_cons (pv 0) (pa_cons (pe_lst (pa_cons pe_int (pa_cons pe_int (pa_cons pe_int (pa_cons pe_int pa_nil))))) pa_nil))) pa_nil))))), ?_⟩
    refine ⟨_, rfl, _, rfl, _, _, rfl, rfl, t, c, b, 6, rfl, th, by omega, by decide, by decide, fun H1 r sb1 th1 hr => ?_⟩
    refine ⟨_, rfl, (by show 4 ≤ sizeLine; decide), fun l nl => ?_⟩
    have s2 := Same.of_new (o := .lst [V.int 1, V.int 1, V.int 2, V.int 3]) nl
    refine ⟨t, c, b + 1, .ref l, true, _, rfl, th1.same s2, by omega, SqK.lst upd_same, fun z => (th1.ne nl).1 (by injection z), by decide, by decide, fun H3 i x sb3 th3 hx => ?_⟩
    have hd : ∃ d : Nat, x = .int (d : Int) ∧ (d = 1 ∨ d = 2 ∨ d = 3) := by
      match i, hx with
      | 0, hx => exact ⟨1, by simpa using hx.symm, .inl rfl⟩
      | 1, hx => exact ⟨1, by simpa using hx.symm, .inl rfl⟩
      | 2, hx => exact ⟨2, by simpa using hx.symm, .inr (.inl rfl)⟩
      | 3, hx => exact ⟨3, by simpa using hx.symm, .inr (.inr rfl)⟩
    obtain ⟨d, rfl, hd⟩ := hd
    have hf := bd_frac hd (by omega : r ≤ 5)
    refine ⟨_, _, rfl, by omega, Nat.lt_of_le_of_lt (log2_le_of_le (b := 3) (by simp; omega)) (by decide), fun v H4 s4 hv => ?_⟩
    exact k H4 v _ (((sb1.trans (SameB.of s2)).trans sb3).trans (SameB.of s4)) (th3.same s4) hv hf.1 hf.2
end
end Hp
namespace Hp
set_option autoImplicit false
def mixOf (ns : List Nat) : List Rat := ns.map fun n : Nat => Rat.divInt (n : Int) ((ns.sum : Nat) : Int)
theorem rsum_div (S : Rat) : ∀ ns : List Nat, rsum (ns.map fun n : Nat => ((n : Int) : Rat) / S) = (((ns.sum : Nat) : Int) : Rat) / S
  | [] => by
    show (0 : Rat) = ((0 : Int) : Rat) / S
    rw [Rat.div_def]; simp
  | n :: ns => by
    show ((n : Int) : Rat) / S + rsum _ = _
    rw [rsum_div S ns, List.sum_cons, Int.natCast_add, Rat.intCast_add]
    grind
theorem le_sum_of_mem {ns : List Nat} {n : Nat} (h : n ∈ ns) : n ≤ ns.sum := by
  induction ns with
  | nil => simp at h
  | cons a ns ih =>
    rw [List.sum_cons]
    rcases List.mem_cons.mp h with rfl | h
    · omega
    · have := ih h; omega
theorem mix_ok {g : Nat} {ns : List Nat} (hg : ns.length = g) (h1 : 1 ≤ ns.sum) (h2 : ns.sum ≤ 10) : MixB g (mixOf ns) := by
  have hS : (((ns.sum : Nat) : Int) : Rat) ≠ 0 := by
    intro z
    have := Rat.intCast_inj.mp (show (((ns.sum : Nat) : Int) : Rat) = ((0 : Int) : Rat) from z)
    omega
  have hb : ∀ q ∈ mixOf ns, Bd 2520 2520 q := fun q hq => by
    obtain ⟨n, hn, rfl⟩ := List.mem_map.mp hq
    have hle := le_sum_of_mem hn
    obtain ⟨k, hd⟩ : ∃ k, ns.sum * k = 2520 := by
      refine ⟨2520 / ns.sum, ?_⟩
      generalize ns.sum = S at h1 h2
      have : S = 1 ∨ S = 2 ∨ S = 3 ∨ S = 4 ∨ S = 5 ∨ S = 6 ∨ S = 7 ∨ S = 8 ∨ S = 9 ∨ S = 10 := by omega
      rcases this with rfl | rfl | rfl | rfl | rfl | rfl | rfl | rfl | rfl | rfl <;> decide
    refine ⟨((n * k : Nat) : Int), ?_, ?_⟩
    · rw [Rat.divInt_eq_div, ← hd]
      rw [Int.natCast_mul, Int.natCast_mul, Rat.intCast_mul, Rat.intCast_mul]
      generalize (((ns.sum : Nat) : Int) : Rat) = S at hS
      have : ((n : Int) : Rat) / S * S = ((n : Int) : Rat) := Rat.div_mul_cancel hS
      grind
    · rw [Int.natAbs_natCast]
      calc n * k ≤ ns.sum * k := Nat.mul_le_mul_right _ hle
        _ = 2520 := hd
  refine ⟨by simp [mixOf, hg], ⟨fun q hq => ?_, fun q hq => ?_, ?_⟩, hb⟩
  · obtain ⟨n, hn, rfl⟩ := List.mem_map.mp hq
    rw [Rat.divInt_nonneg_iff_of_pos_right (by omega)]
    omega
  · obtain ⟨a, b⟩ := (hb q hq).nd (by decide)
    constructor <;> omega
  · unfold mixOf
    rw [show (fun n : Nat => Rat.divInt (n : Int) ((ns.sum : Nat) : Int)) = fun n : Nat => ((n : Int) : Rat) / (((ns.sum : Nat) : Int) : Rat) from funext fun n => Rat.divInt_eq_div _ _, rsum_div, Rat.div_def]
    exact Rat.mul_inv_cancel _ hS
end Hp
namespace Hp
set_option Elab.async false
set_option linter.all false
set_option maxRecDepth 100000
set_option maxHeartbeats 4000000
open PySem PySem.Spec PyProof.Rows L2 NdefX
/-- xs[j] of a list, ahead of an op= -/
def rGetN : V → V → Hp → VK → Prop := fun o i H Q => ∃ (p : Addr) (xs : List V) (j : Nat) (z : V), o = .ref p ∧ i = .int (j : Int) ∧ H p = some (.lst xs) ∧ xs.length ≤ 1000 ∧ xs[j]? = some z ∧ Q z H
theorem get_listN {X : Cx} : PGet X rGetN := by
  intro pins s σ H o i ov iv Q I ro ri h
  obtain ⟨p, xs, j, z, rfl, rfl, hp, hl, hz, q⟩ := h
  cases ro
  obtain ⟨t, rfl⟩ := ri
  obtain ⟨its, r, pl, hz2⟩ := I.list (SqL.of (K := X.K) hp)
  obtain ⟨w, ew, rw'⟩ := r.get hz
  have hj := (List.getElem?_eq_some_iff.mp hz).1
  exact wpAny_getItem_list (items := its.toArray) pl.isList (by omega) (by omega) (by rw [Int.toNat_natCast]; simpa using ew) ⟨z, H, I, rw', q⟩
theorem sum_set1 {ns : List Nat} {r x : Nat} (h : ns[r]? = some x) : (ns.set r (x + 1)).sum = ns.sum + 1 := by
  induction ns generalizing r with
  | nil => simp at h
  | cons a ns ih =>
    cases r with
    | zero => simp at h; subst h; simp; omega
    | succ r => simp at h; simp [ih h]; omega
theorem sum_le3 {ns : List Nat} (h : ∀ n ∈ ns, n ≤ 3) : ns.sum ≤ 3 * ns.length := by
  induction ns with
  | nil => simp
  | cons a ns ih =>
    have h1 := h a (by simp)
    have h2 := ih fun n hn => h n (by simp [hn])
    simp; omega
theorem int_sum : ∀ ns : List Nat, (ns.map fun n : Nat => (n : Int)).sum = ((ns.sum : Nat) : Int)
  | [] => rfl
  | a :: ns => by simp [int_sum ns]
section
variable {P : Program} {w : World} {K : PySem.W.Frag} {mg : Str → Option Value} {base : Heap}
def sp_law_mix  : Sp :=  fun vs H Q _ => ∃ t c b g, vs = [.ref t, .int ((g : Nat) : Int)] ∧ ThAt H t c b ∧ b < 999000 ∧ 1 ≤ g ∧ g ≤ 3 ∧ ∀ H' p m, SameB t H H' → ThAt H' t c (b + 4) → RowAt H' (.ref p) m → MixB g m → Q (.ref p) H'
theorem sc_law_mix : FnScope ["_law_thief_here", "_law_goods", "_law_some", "_law_good", "_law_each"] ["_law_thief_here", "_law_goods"] (defScope s_law_mix) := ⟨rfl, rfl, rfl, by decide +kernel, rfl, by decide +kernel, by decide +kernel⟩
theorem c_law_mix (T : Wd K mg base) : Cal P w K mg base 3 "_law_mix" sp_law_mix [] := by
  obtain ⟨fd, F⟩ := T.d_law_mix
  refine mkCal (k := 3 - 1) F T.g_law_mix sc_law_mix (F.bindsN fun _ _ _ _ _ _ us hl => match us, hl with | [_, _], _ => rfl) (fun vs H Q E h => ?_) (fun cdv A outer s H vs Q E hr h => ?_)
  · rcases h with ⟨t, c, b, g, rfl, th, hb, hg1, hg3, k⟩ <;> rfl
  · rcases h with ⟨t, c, b, g, rfl, th, hb, hg1, hg3, k⟩
    refine ⟨_, (pss_cons (ps_set (i := 2) sc_law_mix.nd rfl (Or.inr rfl) (pe_lc (own := [("_law_good", 3)]) rfl sc_law_mix.nd (pi_range1 rfl T.f_range (pa_cons (pv 1) pa_nil)) (blkOk_by (own := [("_law_good", 3)]) (N := ["_law_thief_here", "_law_goods", "_law_some", "_law_good", "_law_each"]) (sc := defScope s_law_mix) (by decide +kernel)) (fun _ _ _ _ _ => by exact (pg_name (i := 3) sc_law_mix.nd rfl (by first | exact Or.inl rfl | exact Or.inr rfl))) (fun _ _ _ _ _ => by exact pts_nil) (fun _ _ _ _ _ => by exact (pe_c (c_law_one_of T) hr (by decide) rfl (pa_cons (pv 0) (pa_cons (pe_lst (pa_cons pe_int (pa_cons pe_int (pa_cons pe_int (pa_cons pe_int (pa_cons pe_int pa_nil)))))) pa_nil))))))
  (pss_cons (ps_augS (pv 2) (pe_c (c_law_prowl T) hr (by decide) rfl (pa_cons (pv 0) (pa_cons (pv 1) pa_nil))) get_listN pe_int ip_add set_list)
  (pss_one (ps_ret (pe_callTy call_tuple_of (by rfl) T.f_tuple (by decide +kernel) (pa_cons (pe_lc (own := [("_law_each", 4)]) rfl sc_law_mix.nd (pi_seq (pv 2)) (blkOk_by (own := [("_law_each", 4)]) (N := ["_law_thief_here", "_law_goods", "_law_some", "_law_good", "_law_each"]) (sc := defScope s_law_mix) (by decide +kernel)) (fun _ _ _ _ _ => by exact (pg_name (i := 4) sc_law_mix.nd rfl (by first | exact Or.inl rfl | exact Or.inr rfl))) (fun _ _ _ _ _ => by exact pts_nil) (fun _ _ _ _ _ => by exact (pe_c (c_law_lowest T) hr (by decide) rfl (pa_cons (pv 4) (pa_cons (pe_callB (sumK (K := K) rfl rfl) (by rfl) T.f_sum (by decide +kernel) (pa_cons (pv 2) pa_nil)) pa_nil))))) pa_nil)))))), ?_⟩
    refine u_seq (u_asg ?_)
    refine lcg_rng1 (H1 := H) (n := g) (gives_var rfl) (by omega) (fun D i H' acc => SameB t H H' ∧ H' D = some (.lst acc) ∧ D ≠ t ∧ ThAt H' t c (b + i) ∧ ∃ ns : List Nat, acc = ns.map (fun n : Nat => V.int (n : Int)) ∧ ns.length = i ∧ ∀ n ∈ ns, n ≤ 3) ?_ ?_ ?_ (fun _ => rfl)
    · intro D hD
      have s1 := Same.of_new (o := .lst []) hD
      exact ⟨SameB.of s1, upd_same, (th.ne hD).1, th.same s1, [], rfl, rfl, fun n hn => by simp at hn⟩
    · rintro D i H1 acc R Z hi hD hl hDa ⟨sb1, _, hDt, th1, ns, rfl, hns, hle⟩ hR _
      refine yesG ?_
      refine ⟨_, rfl, (by show 5 ≤ sizeLine; decide), fun l nl => ?_⟩
      have s2 := Same.of_new (o := .lst [V.int 0, V.int 1, V.int 1, V.int 2, V.int 3]) nl
      refine ⟨t, c, b + i, .ref l, true, _, rfl, th1.same s2, by omega, SqK.lst upd_same, fun z => (th1.ne nl).1 (by injection z), by decide, by decide, fun H3 j x sb3 th3 hx => ?_⟩
      have hd : ∃ d : Nat, x = .int (d : Int) ∧ d ≤ 3 := by
        match j, hx with
        | 0, hx => exact ⟨0, by simpa using hx.symm, by decide⟩
        | 1, hx => exact ⟨1, by simpa using hx.symm, by decide⟩
        | 2, hx => exact ⟨1, by simpa using hx.symm, by decide⟩
        | 3, hx => exact ⟨2, by simpa using hx.symm, by decide⟩
        | 4, hx => exact ⟨3, by simpa using hx.symm, by decide⟩
      obtain ⟨d, rfl, hd⟩ := hd
      have hD3 := sb3 _ _ hDt (s2 _ _ hDa)
      refine hR _ _ hD3 ⟨((sb1.trans (SameB.of s2)).trans sb3).fresh hD, upd_same, hDt, ?_, ns ++ [d], by simp, by simp [hns], fun n hn => ?_⟩
      · exact th3.put hDt (th.ne hD).2
      · rcases List.mem_append.mp hn with h | h
        · exact hle n h
        · simp at h; omega
    · rintro D H1 acc hD hDa ⟨sb1, _, hDt, th1, ns, rfl, hns, hle⟩
      have hDc := (th.ne hD).2
      refine u_gname ?_
      dsimp only
      refine u_seq ?_
      refine ⟨_, rfl, _, rfl, _, rfl, t, c, b + g, g, rfl, th1, by omega, by omega, by omega, fun H2 r sb2 th2 hr => ?_⟩
      have hD2 := sb2 _ _ hDt hDa
      have hnr : ns[r]? = some (ns[r]'(by omega)) := by simp
      have hget : (ns.map (fun n : Nat => V.int (n : Int)))[r]? = some (.int ((ns[r]'(by omega) : Nat) : Int)) := by rw [List.getElem?_map, hnr]; rfl
      generalize hv : ns[r]'(by omega) = x at hnr hget
      refine ⟨D, _, r, _, rfl, rfl, hD2, by simp; omega, hget, _, _, rfl, rfl, D, _, (r : Int), r, rfl, rfl, hD2, ixNn (by simp; omega), ?_⟩
      have e2 : (ns.map (fun n : Nat => V.int (n : Int))).set r (V.int ((x : Int) + 1)) = (ns.set r (x + 1)).map (fun n : Nat => V.int (n : Int)) := by
        rw [List.map_set]; rfl
      have hsum : (ns.set r (x + 1)).sum = ns.sum + 1 := sum_set1 hnr
      have hs9 : ns.sum ≤ 3 * ns.length := sum_le3 hle
      have hlen2 : (ns.set r (x + 1)).length = g := by simp [hns]
      dsimp only
      rw [e2]
      generalize ns.set r (x + 1) = n2 at hsum hlen2 ⊢
      have hD3 : (L2.upd H2 D (.lst (n2.map (fun n : Nat => V.int (n : Int))))) D = some (.lst (n2.map (fun n : Nat => V.int (n : Int)))) := upd_same
      have th3 := th2.put (o := .lst (n2.map (fun n : Nat => V.int (n : Int)))) hDt hDc
      have sb3 : SameB t H (L2.upd H2 D (.lst (n2.map (fun n : Nat => V.int (n : Int))))) := (sb1.trans sb2).fresh hD
      generalize L2.upd H2 D (.lst (n2.map (fun n : Nat => V.int (n : Int)))) = H3 at hD3 th3 sb3 ⊢
      have hS1 : 1 ≤ n2.sum := by omega
      have hS2 : n2.sum ≤ 10 := by omega
      have hi : ((n2.map fun n : Nat => (n : Int)).sum : Int) = ((n2.sum : Nat) : Int) := int_sum n2
      refine u_ret (u_cb1 ?_)
      refine lc_seq (H1 := H3) (v := .ref D) (b := true) (xs := n2.map (fun n : Nat => V.int (n : Int))) (gives_var rfl) (SqK.lst hD3) (by simp; omega) (fun E i H' z => ∀ q, (mixOf n2)[i]? = some q → Num H' z q) (fun E i H H' y c h q hq => (h q hq).mono c.n) ?_ ?_ (fun _ => rfl)
      · intro E i x' H4 R hx hE s4 hEn hR
        rw [List.getElem?_map] at hx
        obtain ⟨n, hn, rfl⟩ := Option.map_eq_some_iff.mp hx
        refine ⟨_, rfl, _, rfl, D, n2.map fun n : Nat => (n : Int), rfl, SqL.of (by rw [List.map_map]; exact s4 _ _ hD3), ?_⟩
        rw [hi]
        refine ⟨_, _, rfl, by omega, Nat.lt_of_le_of_lt (log2_le_of_le (b := 10) (by simp; omega)) (by decide), fun v H5 s5 hv => hR _ _ s5 fun q hq => ?_⟩
        unfold mixOf at hq
        rw [List.getElem?_map, hn] at hq
        cases hq
        exact hv
      · intro E H4 zs hE s4 hEz hl2 hF
        refine ⟨E, zs, rfl, .inl ⟨SqL.of hEz, fun p np => ?_⟩⟩
        have s5 := Same.of_new (o := .tup zs) np
        refine k _ p (mixOf n2) ((sb3.trans (SameB.of s4)).trans (SameB.of s5)) (((th3.same s4).same s5).mono (by omega)) ⟨zs, SqK.tup upd_same, paired_of (by rw [hl2]; simp [mixOf]) fun j z q hz hq => (hF j z hz q hq).mono s5.n⟩ (mix_ok hlen2 hS1 hS2)
end
end Hp
namespace Hp
set_option Elab.async false
set_option linter.all false
set_option maxRecDepth 100000
set_option maxHeartbeats 4000000
open PySem PySem.Spec PyProof.Rows L2 NdefX
theorem slAnyK {X : Cx} {K : PySem.W.Frag} (h : X.K = K) : SlR X (fun x lo hi H Q => rSlL K x lo hi H Q ∨ rSlA K x lo hi H Q) := by subst h; exact sl_any
/-- at x: a list or tuple of these numbers -/
def RowB (H : Hp) (x : V) (r : List Rat) : Prop := ∃ b zs, SqK b H x zs ∧ Nums H zs r
theorem RowB.same {H H' : Hp} {x : V} {r : List Rat} (h : RowB H x r) (e : Same H H') : RowB H' x r := by
  obtain ⟨b, zs, h1, h2⟩ := h
  exact ⟨b, zs, h1.same e, h2.mono e.n⟩
theorem RowB.dq {K : PySem.W.Frag} {H : Hp} {x : V} {r : List Rat} (h : RowB H x r) : Dq K H 2 x := by
  obtain ⟨b, zs, h1, h2⟩ := h
  exact Dq.seq h1 (Dq.nums h2)
theorem paired_take {α β : Type} {F : α → β → Prop} {l : List α} {m : List β} (h : Paired F l m) (n : Nat) : Paired F (l.take n) (m.take n) := by
  induction h generalizing n with
  | nil => simp; exact .nil
  | cons r t ih =>
    cases n with
    | zero => exact .nil
    | succ n => exact .cons r (ih n)
def dterms (n : Nat) (m : List (List Rat)) : List Rat := (List.range (m.getD 0 []).length).map fun a => if a % 2 = 0 then (m.getD 0 []).getD a 0 * det n ((m.drop 1).map (minorR a)) else - ((m.getD 0 []).getD a 0 * det n ((m.drop 1).map (minorR a)))
theorem dterms_bd {n : Nat} {m : List (List Rat)} (h : ∀ r ∈ m, r.length ≤ 3 ∧ ∀ q ∈ r, Bd 6 24 q) : ∀ t ∈ dterms n m, Bd (6 * 6 ^ n) (24 * 72 ^ n) t := by
  have hm : ∀ a, Bd (6 ^ n) (72 ^ n) (det n ((m.drop 1).map (minorR a))) := fun a => det_bd fun r hr => by
    obtain ⟨r', hr', rfl⟩ := List.mem_map.mp hr
    obtain ⟨h1, h2⟩ := h r' (List.mem_of_mem_drop hr')
    refine ⟨?_, fun q hq => h2 q ?_⟩
    · unfold minorR; simp; omega
    · unfold minorR at hq
      rcases List.mem_append.mp hq with k | k
      · exact List.mem_of_mem_take k
      · exact List.mem_of_mem_drop k
  have h0 : ∀ a, Bd 6 24 ((m.getD 0 []).getD a 0) := by
    cases m with
    | nil => exact fun a => by simpa using Bd.zero 6 24
    | cons r m =>
      obtain ⟨h1, h2⟩ := h r (by simp)
      intro a
      show Bd 6 24 (r.getD a 0)
      by_cases ha : a < r.length
      · exact h2 _ (getD_memL ha)
      · rw [List.getD_eq_getElem?_getD, List.getElem?_eq_none (by omega)]
        exact Bd.zero 6 24
  intro t ht
  unfold dterms at ht
  obtain ⟨a, _, rfl⟩ := List.mem_map.mp ht
  split
  · exact (h0 a).mul (hm a)
  · exact ((h0 a).mul (hm a)).neg
theorem det_terms (n : Nat) (m : List (List Rat)) : det (n + 1) m = rsum (dterms n m) := rfl
section
variable {P : Program} {w : World} {K : PySem.W.Frag} {mg : Str → Option Value} {base : Heap}
def sp_law_square (n : Nat) : Sp := fun vs H Q _ => ∃ v xs m, vs = [v] ∧ SqK true H v xs ∧ Paired (RowB H) xs m ∧ m.length < n ∧ m.length ≤ 3 ∧ (∀ r ∈ m, r.length = m.length ∧ ∀ q ∈ r, Bd 6 24 q) ∧ ∀ x H', Same H H' → Num H' x (det m.length m) → Q x H'
theorem sc_law_square : FnScope ["_law_rows_here", "_law_found", "_law_at", "_law_number_here", "_law_its", "_law_row"] ["_law_rows_here"] (defScope s_law_square) := ⟨rfl, rfl, rfl, by decide +kernel, rfl, by decide +kernel, by decide +kernel⟩
theorem c_law_square (T : Wd K mg base) : ∀ n : Nat, Cal P w K mg base (3 + n) "_law_square" (sp_law_square  n) []
  | 0 => by
    obtain ⟨fd, F⟩ := T.d_law_square
    refine mkCal (k := 3 - 1) F T.g_law_square sc_law_square (F.bindsN fun _ _ _ _ _ _ us hl => match us, hl with | [_], _ => rfl) (fun vs H Q E h => ?_) (fun cdv A outer s H vs Q E hr h => ?_)
    · exfalso
      obtain ⟨_, _, _, _, _, _, h, _⟩ := h; omega
    · exfalso
      obtain ⟨_, _, _, _, _, _, h, _⟩ := h; omega
  | n + 1 => by
    have ih := c_law_square T n
    obtain ⟨fd, F⟩ := T.d_law_square
    refine mkCal (k := 3 + n) F T.g_law_square sc_law_square (F.bindsN fun _ _ _ _ _ _ us hl => match us, hl with | [_], _ => rfl) (fun vs H Q E h => ?_) (fun cdv A outer s H vs Q E hr h => ?_)
    · rcases h with ⟨v, xs, m, rfl, sx, hx, hn, h3, hw, k⟩ <;> rfl
    · rcases h with ⟨v, xs, m, rfl, sx, hx, hn, h3, hw, k⟩
      refine ⟨_, (pss_cons (ps_if (pt_cmpR (op_eqD (u64 hr)) (pv 0) (pe_lst pa_nil) (nomark _)) (pss_one (ps_ret pe_int)) pss_nil)
        (pss_cons (ps_set (i := 1) sc_law_square.nd rfl (Or.inl rfl) pe_int)
        (pss_cons (ps_for PassesOwn.never rfl (pi_enumS (by rfl) T.f_enumerate (pa_cons (pe_ix ix_seq (pv 0) pe_int (fun _ _ => rfl)) pa_nil)) (pg_tup rfl (pgs_cons (pg_name (i := 2) sc_law_square.nd rfl (Or.inr rfl)) (pgs_cons (pg_name (i := 3) sc_law_square.nd rfl (Or.inl rfl)) pgs_nil)))
        (pss_cons (ps_set (i := 4) sc_law_square.nd rfl (Or.inl rfl) (pe_c (c_law_times T) hr (by omega) rfl (pa_cons (pv 3) (pa_cons (pe_c (ih) hr (by omega) rfl (pa_cons (pe_lc (own := [("_law_row", 5)]) rfl sc_law_square.nd (pi_seq (pe_slice sl_list (pv 0) (po_some pe_int) po_none)) (blkOk_by (own := [("_law_row", 5)]) (N := ["_law_rows_here", "_law_found", "_law_at", "_law_number_here", "_law_its", "_law_row"]) (sc := defScope s_law_square) (by decide +kernel)) (fun _ _ _ _ _ => by exact (pg_name (i := 5) sc_law_square.nd rfl (by first | exact Or.inl rfl | exact Or.inr rfl))) (fun _ _ _ _ _ => by exact pts_nil) (fun _ _ _ _ _ => by exact (pe_op op_cat (pe_callTy (listofK (K := K) rfl) (by rfl) T.f_list (by decide +kernel) (pa_cons (pe_slice (slAnyK (K := K) rfl) (pv 5) po_none (po_some (pv 2))) pa_nil)) (pe_callTy (listofK (K := K) rfl) (by rfl) T.f_list (by decide +kernel) (pa_cons (pe_slice (slAnyK (K := K) rfl) (pv 5) (po_some (pe_op op_add (pv 2) pe_int)) po_none) pa_nil))))) pa_nil)) pa_nil))))
        (pss_one (ps_set (i := 1) sc_law_square.nd rfl (Or.inl rfl) (pe_c (c_law_plus T) hr (by omega) rfl (pa_cons (pv 1) (pa_cons (pe_ifExp (pt_cmpR op_eq (pe_op op_modN (pe_callTy call_int1 (by rfl) T.f_int (by decide +kernel) (pa_cons (pv 2) pa_nil)) pe_int) pe_int (nomark _)) (pv 4) (pe_c (c_law_minus T) hr (by omega) rfl (pa_cons (pv 4) pa_nil))) pa_nil)))))))
        (pss_one (ps_ret (pv 1)))))), ?_⟩
      have hxl := hx.length
      have nd : ∀ x ∈ xs, Dq K H 2 x := fun x hx' => by
        obtain ⟨i, hi, rfl⟩ := List.mem_iff_getElem.mp hx'
        obtain ⟨q, _, hq⟩ := paired_get hx (List.getElem?_eq_getElem hi)
        exact hq.dq
      refine u_seq (u_ifT (u_op ⟨_, rfl, (by show 0 ≤ sizeLine; decide), fun e he => ?_⟩))
      have s1 := Same.of_new (o := .lst []) he
      have ndq : ∀ x ∈ xs, Dq K (L2.upd H e (.lst [])) 2 x := fun x hx' => by
        obtain ⟨i, hi, rfl⟩ := List.mem_iff_getElem.mp hx'
        obtain ⟨q, _, hq⟩ := paired_get hx (List.getElem?_eq_getElem hi)
        exact (hq.same s1).dq
      refine eqNil (sx.same s1) (SqK.lst upd_same) ndq (by decide) ⟨_, rfl, u_if (fun hb => ?_) (fun hb => ?_)⟩
      · have : xs = [] := by simpa using hb
        subst this
        cases hx
        exact u_ret (k _ _ s1 (Num.int _ 1))
      obtain ⟨m', hm'⟩ : ∃ m', m.length = m' + 1 := by
        cases m with
        | nil => cases hx; simp at hb
        | cons a l => exact ⟨l.length, rfl⟩
      have hx0 : xs[0]? = some (xs[0]'(by omega)) := by simp
      obtain ⟨r0, hr0, hrow0⟩ := paired_get hx hx0
      obtain ⟨b0, zs0, sz0, hz0⟩ := hrow0
      have er0 : m.getD 0 [] = r0 := by rw [List.getD_eq_getElem?_getD, hr0]; rfl
      have hr0l := (hw r0 (mem_get hr0)).1
      generalize L2.upd H e (.lst []) = H1 at s1
      refine u_next ?_
      dsimp only
      refine u_seq (u_asg (u_tC (u_gname ?_)))
      dsimp only
      refine u_seq ?_
      refine for_enum (H1 := H1) (v := xs[0]'(by omega)) (b := b0) (xs := zs0) ?_ (sz0.same s1) (fun a σ' H' => ∃ y c2 c3 c4, σ' = [some v, some y, c2, c3, c4, none] ∧ Same H H' ∧ Num H' y (rsum ((dterms m' m).take a))) ⟨_, _, _, _, rfl, s1, by simpa [rsum] using Num.int H1 0⟩ ?_ ?_ ?_
      · intro R r
        exact ⟨_, rfl, ixOf (i := 0) (sx.same s1) hx0 r⟩
      · rintro a σ' H' _ ⟨y, c2, c3, c4, rfl, s2, _⟩
        exact sz0.same s2
      · rintro a z σ' H' T hz ⟨y, c2, c3, c4, rfl, s2, hy⟩ hT
        have s3 := s2.trans (Same.of_new (o := .tup [V.int (a : Int), z]) hT)
        have hy3 := hy.mono (Same.of_new (o := .tup [V.int (a : Int), z]) hT).n
        generalize L2.upd H' T (.tup [V.int (a : Int), z]) = H2 at s3 hy3
        obtain ⟨q, hq, hzq⟩ := paired_get hz0 hz
        have hzq2 := hzq.mono s3.n
        have hal : a < r0.length := (List.getElem?_eq_some_iff.mp hq).1
        refine u_seq (u_asg ⟨_, rfl, ?_⟩)
        refine u_call1 ?_
        obtain ⟨pv, rfl, hpv⟩ := id sx
        refine lcg_seqG (b := true) (fun v' H3 ys => Same H2 H3 ∧ SqK true H3 v' ys ∧ ys = xs.drop 1) ?_ (fun v' H3 ys h => ⟨h.2.1, by rw [h.2.2, List.length_drop]; omega⟩) (fun v' H3 ys D i H' acc => Same H2 H' ∧ SqK true H' v' ys ∧ Paired (LsN D H') acc (((m.drop 1).map (minorR a)).take i)) (fun v' H3 ys D i H' acc h => h.2.1) ?_ ?_ ?_ (fun _ => rfl)
        · intro R hR
          refine ⟨_, rfl, _, rfl, pv, xs, rfl, SqL.of (s3 _ _ hpv), fun p np => hR _ _ _ ⟨Same.of_new np, SqK.lst upd_same, cut_drop xs 1⟩⟩
        · rintro v' H3 ys D ⟨h1, h2, h3⟩ hD
          exact ⟨h1.trans (Same.of_new hD), h2.same (Same.of_new hD), by rw [List.take_zero]; exact .nil⟩
        · rintro v' H3 ys D i x H4 acc R Z ⟨h1, h2, rfl⟩ hxi hD hl hDa ⟨s4, sv4, hp4⟩ hR _
          refine yesG ?_
          obtain ⟨r, hr', bx, zx, sqx, hzx⟩ := paired_get (paired_drop hx 1) hxi
          have ss := s3.trans s4
          have hrm : r ∈ m := List.mem_of_mem_drop (mem_get hr')
          have sx4 := sqx.same ss
          refine ⟨_, rfl, _, rfl, (a : Int), rfl, slOf sx4 fun p5 H5 s5 sq5 => ?_⟩
          rw [cut_take] at sq5
          refine ⟨p5, _, rfl, sq5.or, fun l5 nl5 => ?_⟩
          have s6 := s5.trans (Same.of_new (o := .lst (zx.take a)) nl5)
          have hl5 : (L2.upd H5 l5 (.lst (zx.take a))) l5 = some (.lst (zx.take a)) := upd_same
          generalize L2.upd H5 l5 (.lst (zx.take a)) = H6 at s6 hl5
          refine ⟨_, rfl, _, rfl, _, _, rfl, rfl, ((a + 1 : Nat) : Int), rfl, slOf (sx4.same s6) fun p7 H7 s7 sq7 => ?_⟩
          rw [cut_drop] at sq7
          refine ⟨p7, _, rfl, sq7.or, fun l7 nl7 => ?_⟩
          have s8 := (s6.trans s7).trans (Same.of_new (o := .lst (zx.drop (a + 1))) nl7)
          have hl7 : (L2.upd H7 l7 (.lst (zx.drop (a + 1)))) l7 = some (.lst (zx.drop (a + 1))) := upd_same
          have hl58 := (Same.of_new (o := .lst (zx.drop (a + 1))) nl7) _ _ (s7 _ _ hl5)
          generalize L2.upd H7 l7 (.lst (zx.drop (a + 1))) = H8 at s8 hl7 hl58
          have hlen : (zx.take a).length + (zx.drop (a + 1)).length ≤ 3 := by
            rw [List.length_take, List.length_drop, hzx.length, (hw r hrm).1]; omega
          refine ⟨l5, l7, _, _, rfl, rfl, hl58, hl7, Nat.le_trans hlen (by decide), fun p9 np9 => ?_⟩
          have s9 := s8.trans (Same.of_new (o := .lst (zx.take a ++ zx.drop (a + 1))) np9)
          have hD9 := s9 _ _ hDa
          have nDp : p9 ≠ D := fun z => by rw [z, s8 _ _ hDa] at np9; cases np9
          have hn9 : Nums (L2.upd H8 p9 (.lst (zx.take a ++ zx.drop (a + 1)))) (zx.take a ++ zx.drop (a + 1)) (minorR a r) := Nums.mono (paired_append (paired_take hzx a) (paired_drop hzx (a + 1))) (ss.trans s9).n
          have hp9 : (L2.upd H8 p9 (.lst (zx.take a ++ zx.drop (a + 1)))) p9 = some (.lst (zx.take a ++ zx.drop (a + 1))) := upd_same
          generalize L2.upd H8 p9 (.lst (zx.take a ++ zx.drop (a + 1))) = H9 at s9 hD9 hn9 hp9
          have ch : Chg D H9 (L2.upd H9 D (.lst (acc ++ [V.ref p9]))) := ⟨SameB.upd, _, hD9⟩
          refine hR _ _ hD9 ⟨fun b o h => ?_, ?_, ?_⟩
          · rw [upd_ne (ne_of_none (h1 b o h) hD)]; exact s9 _ _ (s4 b o h)
          · obtain ⟨pp, rfl, hpp⟩ := sv4
            obtain ⟨p2, e2, h22⟩ := h2
            cases e2
            exact ⟨pp, rfl, by rw [upd_ne (ne_of_none h22 hD)]; exact s9 _ _ hpp⟩
          · have e9 : ((m.drop 1).map (minorR a))[i]? = some (minorR a r) := by rw [List.getElem?_map, hr']; rfl
            rw [take_snoc e9]
            exact paired_append (Paired.mapP hp4 fun _ _ q => (q.sb (SameB.of s9) hDa).ch ch) (.cons ((show LsN D H9 (.ref p9) (minorR a r) from ⟨p9, _, rfl, nDp, hp9, hn9⟩).ch ch) .nil)
        · rintro v' H3 ys D H4 acc ⟨h1, h2, rfl⟩ hD hDa ⟨s4, sv4, hp4⟩
          have hml : ((m.drop 1).map (minorR a)).length = m' := by rw [List.length_map, List.length_drop]; omega
          rw [List.take_of_length_le (by rw [hml, List.length_drop]; omega)] at hp4
          have ss := s3.trans s4
          have hminor : ∀ r ∈ (m.drop 1).map (minorR a), r.length = ((m.drop 1).map (minorR a)).length ∧ ∀ q ∈ r, Bd 6 24 q := fun r hr => by
            obtain ⟨r', hr', rfl⟩ := List.mem_map.mp hr
            obtain ⟨w1, w2⟩ := hw r' (List.mem_of_mem_drop hr')
            refine ⟨?_, fun q hq => w2 q ?_⟩
            · rw [hml]; unfold minorR; simp; omega
            · unfold minorR at hq
              rcases List.mem_append.mp hq with k | k
              · exact List.mem_of_mem_take k
              · exact List.mem_of_mem_drop k
          refine ⟨.ref D, acc, (m.drop 1).map (minorR a), rfl, SqK.lst hDa, Paired.mapP hp4 fun _ _ q => (let ⟨zs, h1, h2⟩ := q.sq; ⟨true, zs, h1, h2⟩), by omega, by omega, hminor, fun y5 H5 s5 hy5 => ?_⟩
          rw [hml] at hy5
          have hdb : Bd (6 ^ m') (72 ^ m') (det m' ((m.drop 1).map (minorR a))) := det_bd fun r hr => ⟨by rw [(hminor r hr).1, hml]; omega, (hminor r hr).2⟩
          have hqb : Bd 6 24 q := (hw r0 (mem_get hr0)).2 q (mem_get hq)
          have hm3 : m' = 0 ∨ m' = 1 ∨ m' = 2 := by omega
          have hds : Sz (det m' ((m.drop 1).map (minorR a))) := by
            rcases hm3 with e | e | e <;> rw [e] at hdb ⊢ <;> exact hdb.sz (by decide) (by decide +kernel) (by decide +kernel)
          have hqs : Sz q := hqb.sz (by decide) (by decide +kernel) (by decide +kernel)
          have htb : Bd (6 * 6 ^ m') (24 * 72 ^ m') (q * det m' ((m.drop 1).map (minorR a))) := hqb.mul hdb
          have hts : Sz (q * det m' ((m.drop 1).map (minorR a))) := by
            rcases hm3 with e | e | e <;> rw [e] at htb ⊢ <;> exact htb.sz (by decide) (by decide +kernel) (by decide +kernel)
          refine ⟨z, y5, q, _, rfl, (hzq2.mono s4.n).mono s5.n, hy5, hqs, hds, fun w H6 s6 hw6 => u_gname ?_⟩
          dsimp only
          have s36 := (s4.trans s5).trans s6
          have hda : (dterms m' m)[a]? = some (if a % 2 = 0 then q * det m' ((m.drop 1).map (minorR a)) else - (q * det m' ((m.drop 1).map (minorR a)))) := by
            unfold dterms
            rw [List.getElem?_map, er0, List.getElem?_range hal, Option.map_some, List.getD_eq_getElem?_getD, hq]; rfl
          have htb2 : Bd (6 * 6 ^ m') (24 * 72 ^ m') (if a % 2 = 0 then q * det m' ((m.drop 1).map (minorR a)) else - (q * det m' ((m.drop 1).map (minorR a)))) := by
            split
            · exact htb
            · exact htb.neg
          have hts2 : Sz (if a % 2 = 0 then q * det m' ((m.drop 1).map (minorR a)) else - (q * det m' ((m.drop 1).map (minorR a)))) := by
            rcases hm3 with e | e | e <;> rw [e] at htb2 ⊢ <;> exact htb2.sz (by decide) (by decide +kernel) (by decide +kernel)
          have hsum : Sz (rsum ((dterms m' m).take a)) := by
            have hall : ∀ t ∈ (dterms m' m).take a, Bd (6 * 6 ^ m') (24 * 72 ^ m') t := fun t ht => dterms_bd (fun r hr => ⟨by rw [(hw r hr).1]; omega, (hw r hr).2⟩) t (List.mem_of_mem_take ht)
            have h5 := Bd.rsum hall
            have h6 : ((dterms m' m).take a).length ≤ 3 := by rw [List.length_take]; omega
            have h7 := h5.mono (Nat.mul_le_mul_right (24 * 72 ^ m') h6)
            rcases hm3 with e | e | e <;> rw [e] at h7 ⊢ <;> exact h7.sz (by decide) (by decide +kernel) (by decide +kernel)
          have fin : ∀ (x : V) (H7 : Hp), Same H6 H7 → Num H7 x (if a % 2 = 0 then q * det m' ((m.drop 1).map (minorR a)) else - (q * det m' ((m.drop 1).map (minorR a)))) → ∃ v u p q_1, [y, x] = [v, u] ∧ Num H7 v p ∧ Num H7 u q_1 ∧ Sz p ∧ Sz q_1 ∧ p = rsum ((dterms m' m).take a) ∧ p + q_1 = rsum ((dterms m' m).take (a + 1)) := fun x H7 s7 hx7 =>
            ⟨_, _, _, _, rfl, (hy3.mono s36.n).mono s7.n, hx7, hsum, hts2, rfl, (rsum_take hda).symm⟩
          refine u_asg ⟨_, rfl, ?_⟩
          refine ⟨_, rfl, .inl ⟨_, rfl, _, _, rfl, rfl, (show (2 : Int) ≠ 0 by decide), rfl, _, rfl, u_if (fun hb2 => ?_) (fun hb2 => ?_)⟩⟩
          · have e2 : a % 2 = 0 := by
              have h := V.int.inj (of_decide_eq_true hb2)
              rw [Int.fmod_eq_emod_of_nonneg _ (by decide)] at h
              omega
            rw [if_pos e2] at fin hts2
            refine ⟨_, rfl, _, _, _, _, rfl, hy3.mono s36.n, hw6, hsum, hts2, fun x H8 s8 hx8 => u_gname ⟨_, _, _, _, rfl, (s3.trans s36).trans s8, ?_⟩⟩
            rw [rsum_take hda, if_pos e2]; exact hx8
          · have e2 : ¬ a % 2 = 0 := fun z => by
              refine absurd hb2 ?_
              rw [decide_eq_true]
              · decide
              · show V.int ((a : Int).fmod 2) = V.int 0
                rw [Int.fmod_eq_emod_of_nonneg _ (by decide)]
                congr 1; omega
            rw [if_neg e2] at hts2
            refine ⟨_, rfl, w, _, rfl, hw6, hts, fun x H7 s7 hx7 => ?_⟩
            refine ⟨_, _, _, _, rfl, (hy3.mono s36.n).mono s7.n, hx7, hsum, hts2, fun x H8 s8 hx8 => u_gname ⟨_, _, _, _, rfl, ((s3.trans s36).trans s7).trans s8, ?_⟩⟩
            rw [rsum_take hda, if_neg e2]; exact hx8
      · rintro σ' H' ⟨y, c2, c3, c4, rfl, s2, hy⟩
        dsimp only
        refine u_ret ⟨_, rfl, k _ _ s2 ?_⟩
        rw [hm', det_terms]
        have : zs0.length = (dterms m' m).length := by rw [hz0.length]; simp only [dterms, List.length_map, List.length_range, er0]
        rwa [this, List.take_length] at hy
end
end Hp
/-! Plain mathematics: the law's walks are listed, and their greatest worth is the greatest that the program finds. -/
namespace Hp
set_option autoImplicit false
/-- m is the greatest of b and of what S tells -/
structure Mx (b : Rat) (S : Rat → Prop) (m : Rat) : Prop where
  at_ : m = b ∨ S m
  lo : b ≤ m
  up : ∀ x, S x → x ≤ m
theorem Mx.uniq {b m m' : Rat} {S : Rat → Prop} (h : Mx b S m) (h' : Mx b S m') : m = m' := by
  have h1 : m ≤ m' := by
    rcases h.at_ with e | e
    · rw [e]; exact h'.lo
    · exact h'.up _ e
  have h2 : m' ≤ m := by
    rcases h'.at_ with e | e
    · rw [e]; exact h.lo
    · exact h.up _ e
  grind
theorem rmax_le_left (p q : Rat) : p ≤ rmax p q := by unfold rmax; split <;> grind
theorem rmax_le_right (p q : Rat) : q ≤ rmax p q := by unfold rmax; split <;> grind
theorem rmax_or (p q : Rat) : rmax p q = p ∨ rmax p q = q := by unfold rmax; split; exact .inr rfl; exact .inl rfl
theorem foldl_rmax (l : List Rat) : ∀ b, Mx b (fun x => x ∈ l) (l.foldl rmax b) := by
  induction l with
  | nil => exact fun b => ⟨.inl rfl, Rat.le_refl, fun x h => by simp at h⟩
  | cons a l ih =>
    intro b
    obtain ⟨h1, h2, h3⟩ := ih (rmax b a)
    refine ⟨?_, Rat.le_trans (rmax_le_left b a) h2, fun x hx => ?_⟩
    · rcases h1 with e | e
      · rcases rmax_or b a with z | z
        · left; show l.foldl rmax (rmax b a) = b; rw [e, z]
        · right; show l.foldl rmax (rmax b a) ∈ a :: l; rw [e, z]; exact List.mem_cons_self
      · exact .inr (List.mem_cons_of_mem _ e)
    · rcases List.mem_cons.mp hx with rfl | hx
      · exact Rat.le_trans (rmax_le_right b _) h2
      · exact h3 x hx
theorem rmaxs_is {l : List Rat} (h : l ≠ []) : rmaxs l ∈ l ∧ ∀ x ∈ l, x ≤ rmaxs l := by
  cases l with
  | nil => exact absurd rfl h
  | cons a l =>
    obtain ⟨h1, h2, h3⟩ := foldl_rmax l a
    refine ⟨?_, fun x hx => ?_⟩
    · rcases h1 with e | e
      · show l.foldl rmax a ∈ a :: l; rw [e]; exact List.mem_cons_self
      · exact List.mem_cons_of_mem _ e
    · rcases List.mem_cons.mp hx with rfl | hx
      · exact h2
      · exact h3 x hx
/-- the walks, a standing and a number each -/
abbrev Wy : Type := List (Nat × Rat)
def lmul (ms : List (List Rat)) (d : List Rat) (L : Wy) : Wy := L.map fun p => (p.1, p.2 * rdot (ms.getD p.1 []) d)
def larr1 (as : List (Nat × Nat)) (p : Nat × Rat) : Wy := (as.filter fun a => a.1 == p.1).map fun a => (a.2, p.2)
def larr (as : List (Nat × Nat)) (L : Wy) : Wy := L.flatMap (larr1 as)
def enumW (ws : List Rat) : Wy := (List.range ws.length).map fun i => (i, ws.getD i 0)
/-- ahead of day t of n, of which the last is not followed by arrows -/
def lstep (ms : List (List Rat)) (as : List (Nat × Nat)) (last : Bool) (L : Wy) (d : List Rat) : Wy := if last then lmul ms d L else larr as (lmul ms d L)
def lways (ms : List (List Rat)) (as : List (Nat × Nat)) : List (List Rat) → Wy → Wy
  | [], L => L
  | d :: m, L => lways ms as m (lstep ms as m.isEmpty L d)
def lwalk (ms : List (List Rat)) (as : List (Nat × Nat)) (ws : List Rat) (mk : List (List Rat)) : Rat := ((lways ms as mk (enumW ws)).map (·.2)).foldl rmax 0
/-- the walks at each standing have these greatest numbers -/
def Best (L : Wy) (g : List Rat) : Prop := (∀ p ∈ L, p.1 < g.length) ∧ ∀ j, j < g.length → Mx 0 (fun x => (j, x) ∈ L) (g.getD j 0)
theorem Best.enum {ws : List Rat} (h : ∀ w ∈ ws, 0 ≤ w) : Best (enumW ws) ws := by
  refine ⟨fun p hp => ?_, fun j hj => ⟨.inr ?_, ?_, fun x hx => ?_⟩⟩
  · unfold enumW at hp
    obtain ⟨i, hi, rfl⟩ := List.mem_map.mp hp
    simpa using hi
  · unfold enumW
    exact List.mem_map.mpr ⟨j, by simpa using hj, rfl⟩
  · rw [List.getD_eq_getElem?_getD, List.getElem?_eq_getElem hj]
    exact h _ (List.getElem_mem hj)
  · unfold enumW at hx
    obtain ⟨i, hi, e⟩ := List.mem_map.mp hx
    have e1 : i = j := congrArg Prod.fst e
    have e2 : ws.getD i 0 = x := congrArg Prod.snd e
    rw [← e2, e1]; exact Rat.le_refl
theorem gone_getD {ms : List (List Rat)} {ws d : List Rat} (h : ws.length = ms.length) {j : Nat} (hj : j < ws.length) : (gone ms ws d).getD j 0 = ws.getD j 0 * rdot (ms.getD j []) d := by
  have e1 : ws[j]? = some ws[j] := by simp
  have e2 : ms[j]? = some (ms[j]'(by omega)) := by simp
  simp only [List.getD_eq_getElem?_getD, gone_get e1 e2, e1, e2, Option.getD_some]
theorem Best.goneB {ms : List (List Rat)} {L : Wy} {ws d : List Rat} (h : Best L ws) (hl : ws.length = ms.length) (hd : ∀ m ∈ ms, 0 ≤ rdot m d) : Best (lmul ms d L) (gone ms ws d) := by
  have hgl : (Hp.gone ms ws d).length = ws.length := by rw [gone_len]; omega
  refine ⟨fun p hp => ?_, fun j hj => ?_⟩
  · unfold lmul at hp
    obtain ⟨q, hq, rfl⟩ := List.mem_map.mp hp
    rw [hgl]; exact h.1 q hq
  · rw [hgl] at hj
    have hm : 0 ≤ rdot (ms.getD j []) d := by
      rw [List.getD_eq_getElem?_getD, List.getElem?_eq_getElem (by omega)]
      exact hd _ (List.getElem_mem _)
    obtain ⟨h1, h2, h3⟩ := h.2 j hj
    rw [gone_getD hl hj]
    generalize hc : rdot (ms.getD j []) d = c at hm
    refine ⟨?_, Rat.mul_nonneg h2 hm, fun x hx => ?_⟩
    · rcases h1 with e | e
      · left; rw [e, Rat.zero_mul]
      · right
        unfold lmul
        exact List.mem_map.mpr ⟨_, e, by dsimp only; rw [hc]⟩
    · unfold lmul at hx
      obtain ⟨⟨i, y⟩, hq, e⟩ := List.mem_map.mp hx
      have e1 : i = j := congrArg Prod.fst e
      subst e1
      have e2 : y * rdot (ms.getD i []) d = x := congrArg Prod.snd e
      rw [← e2, hc]
      exact Rat.mul_le_mul_of_nonneg_right (h3 y hq) hm
theorem foldl_led (gn : List Rat) (j : Nat) : ∀ (as : List (Nat × Nat)) (l : List Rat), j < l.length → Mx (l.getD j 0) (fun x => ∃ i, (i, j) ∈ as ∧ x = gn.getD i 0) ((as.foldl (ledF gn) l).getD j 0)
  | [], l, _ => ⟨.inl rfl, Rat.le_refl, fun x ⟨i, h, _⟩ => by simp at h⟩
  | a :: as, l, hj => by
    obtain ⟨h1, h2, h3⟩ := foldl_led gn j as (ledF gn l a) (by rw [ledF_len]; exact hj)
    have e : (ledF gn l a).getD j 0 = if a.2 = j then rmax (l.getD j 0) (gn.getD a.1 0) else l.getD j 0 := by
      unfold ledF
      rw [List.getD_eq_getElem?_getD, List.getElem?_set]
      by_cases he : a.2 = j
      · subst he; simp [hj]
      · rw [if_neg he, if_neg he, List.getD_eq_getElem?_getD]
    rw [e] at h1 h2
    have lo : l.getD j 0 ≤ if a.2 = j then rmax (l.getD j 0) (gn.getD a.1 0) else l.getD j 0 := by
      split
      · exact rmax_le_left _ _
      · exact Rat.le_refl
    refine ⟨?_, Rat.le_trans lo h2, fun x hx => ?_⟩
    · show (as.foldl (ledF gn) (ledF gn l a)).getD j 0 = l.getD j 0 ∨ _
      rcases h1 with z | ⟨i, hi, z⟩
      · by_cases he : a.2 = j
        · rw [if_pos he] at z
          rcases rmax_or (l.getD j 0) (gn.getD a.1 0) with y | y
          · left; rw [z, y]
          · right; exact ⟨a.1, by rw [← he]; exact List.mem_cons_self, by show (as.foldl (ledF gn) (ledF gn l a)).getD j 0 = _; rw [z, y]⟩
        · rw [if_neg he] at z; left; exact z
      · exact .inr ⟨i, List.mem_cons_of_mem _ hi, z⟩
    · obtain ⟨i, hi, rfl⟩ := hx
      rcases List.mem_cons.mp hi with z | z
      · subst z
        rw [if_pos rfl] at h2
        exact Rat.le_trans (rmax_le_right _ _) h2
      · exact h3 _ ⟨i, z, rfl⟩
theorem led_mx {ms : List (List Rat)} {as : List (Nat × Nat)} {ws d : List Rat} {j : Nat} (hj : j < ws.length) : Mx 0 (fun x => ∃ i, (i, j) ∈ as ∧ x = (gone ms ws d).getD i 0) ((led ms as ws d).getD j 0) := by
  have h := foldl_led (gone ms ws d) j as (List.replicate ws.length 0) (by simpa using hj)
  have e : (List.replicate ws.length (0 : Rat)).getD j 0 = 0 := by
    rw [List.getD_eq_getElem?_getD, List.getElem?_replicate]; split <;> rfl
  rw [e] at h
  exact h
theorem larr_mem {as : List (Nat × Nat)} {L : Wy} {j : Nat} {x : Rat} : (j, x) ∈ larr as L ↔ ∃ i, (i, j) ∈ as ∧ (i, x) ∈ L := by
  unfold larr larr1
  constructor
  · intro h
    obtain ⟨⟨i, y⟩, hp, h2⟩ := List.mem_flatMap.mp h
    obtain ⟨⟨a, b⟩, ha, e⟩ := List.mem_map.mp h2
    obtain ⟨ha1, ha2⟩ := List.mem_filter.mp ha
    have e0 : a = i := by simpa using ha2
    have e1 : b = j := congrArg Prod.fst e
    have e2 : y = x := congrArg Prod.snd e
    subst e0 e1 e2
    exact ⟨a, ha1, hp⟩
  · rintro ⟨i, h1, h2⟩
    refine List.mem_flatMap.mpr ⟨(i, x), h2, List.mem_map.mpr ⟨(i, j), List.mem_filter.mpr ⟨h1, by simp⟩, rfl⟩⟩
theorem Best.ledB {ms : List (List Rat)} {as as' : List (Nat × Nat)} {L : Wy} {ws d : List Rat} (h : Best L (gone ms ws d)) (hl : ws.length = ms.length) (hp : ∀ a, a ∈ as' ↔ a ∈ as) (ha : ∀ p ∈ as, p.1 < ms.length ∧ p.2 < ms.length) : Best (larr as L) (led ms as' ws d) := by
  have hgl : (Hp.gone ms ws d).length = ws.length := by rw [gone_len]; omega
  refine ⟨fun p hp' => ?_, fun j hj => ?_⟩
  · obtain ⟨i, h1, _⟩ := larr_mem.mp (show (p.1, p.2) ∈ larr as L from hp')
    rw [led_len, hl]; exact (ha _ h1).2
  · rw [led_len] at hj
    obtain ⟨h1, h2, h3⟩ := led_mx (ms := ms) (as := as') (d := d) hj
    refine ⟨?_, h2, fun x hx => ?_⟩
    · rcases h1 with e | ⟨i, hi, e⟩
      · exact .inl e
      · have hi' := (hp _).mp hi
        obtain ⟨g1, g2, g3⟩ := h.2 i (by rw [hgl, hl]; exact (ha _ hi').1)
        rw [← e] at g1
        rcases g1 with z | z
        · exact .inl z
        · exact .inr (larr_mem.mpr ⟨i, hi', z⟩)
    · obtain ⟨i, hi, hx'⟩ := larr_mem.mp hx
      obtain ⟨g1, g2, g3⟩ := h.2 i (by rw [hgl, hl]; exact (ha _ hi).1)
      exact Rat.le_trans (g3 x hx') (h3 _ ⟨i, (hp _).mpr hi, rfl⟩)
theorem lwalk_eq {ms : List (List Rat)} {as as' : List (Nat × Nat)} {ws : List Rat} {mk : List (List Rat)} (hl : ws.length = ms.length) (h1 : 1 ≤ ms.length) (h0 : ∀ w ∈ ws, 0 ≤ w) (hp : ∀ a, a ∈ as' ↔ a ∈ as) (ha : ∀ p ∈ as, p.1 < ms.length ∧ p.2 < ms.length) (hc : ∀ i, i < ms.length → ∃ j, (i, j) ∈ as) (hd : ∀ d ∈ mk, ∀ m ∈ ms, 0 ≤ rdot m d) :
    lwalk ms as ws mk = rmaxs (walkW ms as' ws mk) := by
  have key : ∀ (mk : List (List Rat)) (L : Wy) (ws : List Rat), ws.length = ms.length → (∀ d ∈ mk, ∀ m ∈ ms, 0 ≤ rdot m d) → Best L ws → ∃ g : Nat → Rat, (∀ j, j < ms.length → g j ≤ rmaxs (walkW ms as' ws mk)) ∧ 0 ≤ rmaxs (walkW ms as' ws mk) ∧ (rmaxs (walkW ms as' ws mk) = 0 ∨ ∃ j, j < ms.length ∧ rmaxs (walkW ms as' ws mk) = g j) ∧ (∀ p ∈ lways ms as mk L, p.1 < ms.length) ∧ ∀ j, j < ms.length → Mx 0 (fun x => (j, x) ∈ lways ms as mk L) (g j) := by
    intro mk
    induction mk with
    | nil =>
      intro L ws hl _ hB
      have hne : ws ≠ [] := fun e => by rw [e] at hl; simp at hl; omega
      obtain ⟨r1, r2⟩ := rmaxs_is hne
      have hmem : ∀ j, j < ms.length → ws.getD j 0 ∈ ws := fun j hj => by
        rw [List.getD_eq_getElem?_getD, List.getElem?_eq_getElem (by omega)]; exact List.getElem_mem _
      obtain ⟨j, hj, e⟩ := List.mem_iff_getElem.mp r1
      have ej : ws.getD j 0 = rmaxs ws := by rw [List.getD_eq_getElem?_getD, List.getElem?_eq_getElem hj]; exact e
      refine ⟨fun j => ws.getD j 0, fun j hj => r2 _ (hmem j hj), ?_, .inr ⟨j, by omega, ej.symm⟩, fun p hp => by rw [← hl]; exact hB.1 p hp, fun j hj => hB.2 j (by omega)⟩
      show 0 ≤ rmaxs ws
      rw [← ej]; exact (hB.2 j hj).lo
    | cons d mk ih =>
      intro L ws hl hd hB
      have hg := hB.goneB hl (hd d (by simp))
      have hgl : (gone ms ws d).length = ws.length := by rw [gone_len]; omega
      have hld : (led ms as' ws d).length = ms.length := by rw [led_len, hl]
      cases mk with
      | cons d2 mk =>
        exact ih (larr as (lmul ms d L)) (led ms as' ws d) hld (fun d' hd' => hd d' (by simp [hd'])) (hg.ledB hl hp ha)
      | nil =>
        have hne : led ms as' ws d ≠ [] := fun e => by rw [e] at hld; simp at hld; omega
        obtain ⟨r1, r2⟩ := rmaxs_is hne
        have hmem : ∀ j, j < ms.length → (led ms as' ws d).getD j 0 ∈ led ms as' ws d := fun j hj => by
          rw [List.getD_eq_getElem?_getD, List.getElem?_eq_getElem (by omega)]; exact List.getElem_mem _
        obtain ⟨j, hj, e⟩ := List.mem_iff_getElem.mp r1
        have ej : (led ms as' ws d).getD j 0 = rmaxs (led ms as' ws d) := by rw [List.getD_eq_getElem?_getD, List.getElem?_eq_getElem hj]; exact e
        have hmj := led_mx (ms := ms) (as := as') (ws := ws) (d := d) (j := j) (by omega)
        rw [ej] at hmj
        refine ⟨fun i => (gone ms ws d).getD i 0, fun i hi => ?_, hmj.lo, ?_, fun p hp' => by rw [← hl, ← hgl]; exact hg.1 p hp', fun i hi => hg.2 i (by omega)⟩
        · obtain ⟨j', hj'⟩ := hc i hi
          have := led_mx (ms := ms) (as := as') (ws := ws) (d := d) (j := j') (by have := (ha _ hj').2; dsimp only at this; omega)
          exact Rat.le_trans (this.up _ ⟨i, (hp _).mpr hj', rfl⟩) (r2 _ (hmem j' (ha _ hj').2))
        · rcases hmj.at_ with z | ⟨i, hi, z⟩
          · exact .inl z
          · exact .inr ⟨i, (ha _ ((hp _).mp hi)).1, z⟩
  obtain ⟨g, h2, h3, h4, h5, h6⟩ := key mk (enumW ws) ws hl hd (Best.enum h0)
  refine (foldl_rmax _ 0).uniq ⟨?_, h3, fun x hx => ?_⟩
  · rcases h4 with e | ⟨j, hj, e⟩
    · exact .inl e
    · rcases (h6 j hj).at_ with z | z
      · left; rw [e, z]
      · right
        exact List.mem_map.mpr ⟨_, z, by dsimp only; rw [e]⟩
  · obtain ⟨⟨j, y⟩, hp', e⟩ := List.mem_map.mp hx
    have e : y = x := e
    subst e
    have hj := h5 _ hp'
    exact Rat.le_trans ((h6 j hj).up _ hp') (h2 j hj)
end Hp
/-! Plain mathematics: a rest is the sum of the rests behind one row more; somewhere less comes. -/
namespace Hp
set_option autoImplicit false
/-- the sum over all words of these portions, word by word -/
def Gw : List (List Rat) → (List Nat → Rat) → List Nat → Rat
  | [], X, u => X u
  | row :: ps, X, u => sm row.length fun i => row.getD i 0 * Gw ps X (u ++ [i])
theorem rsum_range (n : Nat) (f : Nat → Rat) : rsum ((List.range n).map f) = sm n f := by
  rw [rsum_sm]
  rw [List.length_map, List.length_range]
  refine sm_congr fun i hi => ?_
  rw [List.getD_eq_getElem?_getD, List.getElem?_map, List.getElem?_range hi]; rfl
theorem rsum_flat {α : Type} (φ : α → Rat) (h : α → List α) : ∀ f : List α, rsum ((f.flatMap h).map φ) = rsum (f.map fun z => rsum ((h z).map φ))
  | [] => rfl
  | z :: f => by
    rw [List.flatMap_cons, List.map_append, rsum_append, rsum_flat φ h f]; rfl
theorem rsum_congr {α : Type} {φ ψ : α → Rat} {l : List α} (h : ∀ x ∈ l, φ x = ψ x) : rsum (l.map φ) = rsum (l.map ψ) := by
  rw [List.map_congr_left h]
theorem rsum_mul {α : Type} (c : Rat) (φ : α → Rat) : ∀ l : List α, rsum (l.map fun x => c * φ x) = c * rsum (l.map φ)
  | [] => (Rat.mul_zero c).symm
  | a :: l => by
    show c * φ a + rsum (l.map fun x => c * φ x) = c * (φ a + rsum (l.map φ))
    rw [rsum_mul c φ l, Rat.mul_add]
theorem ways_sum (X : List Nat → Rat) : ∀ (ps : List (List Rat)) (f : List (Rat × List Nat)), rsum ((ps.foldl stepW f).map fun z => z.1 * X z.2) = rsum (f.map fun z => z.1 * Gw ps X z.2)
  | [], f => rfl
  | row :: ps, f => by
    rw [List.foldl_cons, ways_sum X ps]
    unfold stepW
    rw [rsum_flat]
    refine rsum_congr fun z _ => ?_
    unfold stepZ
    rw [List.map_map]
    show rsum ((List.range row.length).map fun i => z.1 * row.getD i 0 * Gw ps X (z.2 ++ [i])) = z.1 * sm row.length fun i => row.getD i 0 * Gw ps X (z.2 ++ [i])
    rw [rsum_range, ← sm_mul]
    exact sm_congr fun i _ => Rat.mul_assoc _ _ _
theorem Gw_shift (X : List Nat → Rat) (a : List Nat) : ∀ (ps : List (List Rat)) (u : List Nat), Gw ps (fun v => X (a ++ v)) u = Gw ps X (a ++ u)
  | [], u => rfl
  | row :: ps, u => by
    show sm row.length (fun i => row.getD i 0 * Gw ps (fun v => X (a ++ v)) (u ++ [i])) = sm row.length (fun i => row.getD i 0 * Gw ps X (a ++ u ++ [i]))
    refine sm_congr fun i _ => ?_
    rw [Gw_shift X a ps, List.append_assoc]
theorem over_Gw (n : Nat) (p : Pr) (rs : List (List Rat)) (ahead : List Nat) (ps : List (List Rat)) : over n p rs ahead ps = Gw ps (fun v => worth n p (rowsOf rs v)) ahead := by
  unfold over ways
  rw [ways_sum fun v => worth n p (rowsOf rs (ahead ++ v))]
  show 1 * Gw ps (fun v => worth n p (rowsOf rs (ahead ++ v))) [] + 0 = _
  rw [Gw_shift (fun v => worth n p (rowsOf rs v)) ahead ps [], List.append_nil]
  grind
theorem rest_end {n d : Nat} {p : Pr} {rs : List (List Rat)} {ws : List Rat} {w : List Nat} (h : w.length = d) : rest n p rs ws d w = worth n p (rowsOf rs w) := by
  unfold rest
  rw [over_Gw, h, Nat.sub_self]; rfl
theorem rest_step {n d : Nat} {p : Pr} {rs : List (List Rat)} {ws : List Rat} {w : List Nat} (h : w.length < d) : rest n p rs ws d w = sm ws.length fun j => ws.getD j 0 * rest n p rs ws d (w ++ [j]) := by
  unfold rest
  rw [over_Gw, show d - w.length = (d - (w.length + 1)) + 1 by omega, List.replicate_succ]
  show sm ws.length _ = _
  refine sm_congr fun j _ => ?_
  rw [over_Gw, List.length_append]; rfl
theorem sm_le {n : Nat} {f g : Nat → Rat} (h : ∀ i, i < n → f i ≤ g i) : sm n f ≤ sm n g := by
  induction n generalizing f g with
  | zero => exact Rat.le_refl
  | succ n ih =>
    have h1 := h 0 (by omega)
    have h2 := ih (f := fun i => f (i + 1)) (g := fun i => g (i + 1)) fun i hi => h (i + 1) (by omega)
    show f 0 + sm n (fun i => f (i + 1)) ≤ g 0 + sm n (fun i => g (i + 1))
    grind
/-- what comes at the rows, weighed, is the sum of the amounts -/
theorem weigh {n : Nat} {rs : List (List Rat)} {W am : List Rat} (hW : WR rs n W) (hr : ∀ i, i < n → (rs.getD i []).length = n) (ham : am.length = n) : sm n (fun j => W.getD j 0 * rdot am (rs.getD j [])) = rsum am := by
  have e1 : ∀ j, j < n → W.getD j 0 * rdot am (rs.getD j []) = sm n (fun c => am.getD c 0 * (W.getD j 0 * en rs j c)) := fun j hj => by
    rw [rdot_sm _ _ (by rw [hr j hj, ham]), ham, ← sm_mul]
    refine sm_congr fun c _ => ?_
    show W.getD j 0 * (am.getD c 0 * en rs j c) = _
    grind
  rw [sm_congr e1, sm_swap, rsum_sm, ham]
  refine sm_congr fun c hc => ?_
  rw [sm_mul, hW.2 c hc, Rat.mul_one]
theorem some_short {n g d : Nat} {p : Pr} {rs : List (List Rat)} {W am : List Rat} {w : List Nat} (hW : WR rs g W) (hr : ∀ i, i < g → (rs.getD i []).length = g) (ham : am.length = g) (hpos : ∀ q ∈ W, 0 < q) (hw : w.length < d) (hlt : rsum am < rest n p rs W d w) : ∃ i, i < g ∧ short n p rs W d w am i = true := by
  apply Classical.byContradiction
  intro no
  have h1 : ∀ j, j < g → W.getD j 0 * rest n p rs W d (w ++ [j]) ≤ W.getD j 0 * rdot am (rs.getD j []) := fun j hj => by
    have hn : ¬ rdot am (rs.getD j []) < rest n p rs W d (w ++ [j]) := fun h => no ⟨j, hj, decide_eq_true h⟩
    have hp : 0 < W.getD j 0 := by
      rw [List.getD_eq_getElem?_getD, List.getElem?_eq_getElem (by rw [hW.1]; exact hj)]
      exact hpos _ (List.getElem_mem _)
    exact Rat.mul_le_mul_of_nonneg_left (Rat.not_lt.mp hn) (Rat.le_of_lt hp)
  have h2 := sm_le h1
  rw [weigh hW hr ham] at h2
  rw [rest_step hw, hW.1] at hlt
  exact Rat.not_le.mpr hlt h2
/-- the first of some -/
theorem first_of {f : Nat → Bool} : ∀ {g : Nat}, (∃ i, i < g ∧ f i = true) → ∃ i, i < g ∧ f i = true ∧ (∀ j, j < i → f j = false) ∧ ∃ l, (List.range g).filter f = i :: l := by
  intro g ⟨i, hi, h⟩
  have key : ∀ n, (∃ i, i < n ∧ f i = true) → ∃ i, i < n ∧ f i = true ∧ ∀ j, j < i → f j = false := by
    intro n
    induction n with
    | zero => rintro ⟨i, hi, _⟩; omega
    | succ n ih =>
      rintro ⟨i, hi, h⟩
      by_cases hn : ∃ i, i < n ∧ f i = true
      · obtain ⟨i, h1, h2, h3⟩ := ih hn
        exact ⟨i, by omega, h2, h3⟩
      · refine ⟨i, hi, h, fun j hj => ?_⟩
        cases e : f j with
        | false => rfl
        | true => exact absurd ⟨j, by omega, e⟩ hn
  obtain ⟨k, h1, h2, h3⟩ := key g ⟨i, hi, h⟩
  refine ⟨k, h1, h2, h3, ?_⟩
  have e : List.range g = List.range k ++ (k :: (List.range (g - k - 1)).map (k + 1 + ·)) := by
    have : g = k + ((g - k - 1) + 1) := by omega
    conv => lhs; rw [this, List.range_add, List.range_succ_eq_map, List.map_cons, List.map_map]
    congr 2
    refine List.map_congr_left fun a _ => ?_
    simp; omega
  rw [e, List.filter_append, List.filter_cons, if_pos h2]
  have e2 : (List.range k).filter f = [] := by
    rw [List.filter_eq_nil_iff]
    intro a ha
    rw [h3 a (by simpa using ha)]; simp
  rw [e2]
  exact ⟨_, rfl⟩
end Hp
/-! Plain mathematics: a drawn corner's weights and their sizes; drawn amounts. -/
namespace Hp
set_option autoImplicit false
/-- rows of a drawn corner -/
def CorOk (g : Nat) (rs : List (List Rat)) : Prop := RsOk g rs ∧ det g rs ≠ 0 ∧ ∀ j, j < g → 0 < cram g rs j
theorem RsOk.w {g : Nat} {rs : List (List Rat)} (h : RsOk g rs) : ∀ r ∈ rs, r.length = rs.length ∧ ∀ q ∈ r, Bd 6 24 q := fun r hr => ⟨by rw [(h.2 r hr).1, h.1], fun q hq => ((h.2 r hr).2 q hq).2⟩
theorem RsOk.len {g : Nat} {rs : List (List Rat)} (h : RsOk g rs) : ∀ r ∈ rs, r.length = g := fun r hr => (h.2 r hr).1
theorem RsOk.set {g j : Nat} {rs : List (List Rat)} (h : RsOk g rs) : ∀ r ∈ rs.set j (List.replicate g 1), r.length = g ∧ ∀ q ∈ r, Bd 6 24 q := fun r hr => by
  rcases List.mem_or_eq_of_mem_set hr with h1 | rfl
  · exact ⟨h.len r h1, fun q hq => ((h.2 r h1).2 q hq).2⟩
  · exact ⟨List.length_replicate, fun q hq => by rw [List.eq_of_mem_replicate hq]; exact Bd.one (by decide)⟩
theorem cram_bd {g : Nat} {rs : List (List Rat)} (hg : g ≤ 3) (h : RsOk g rs) (h0 : det g rs ≠ 0) : ∃ C, 0 < C ∧ C ≤ 72 ^ g ∧ ∀ j, Bd C (72 ^ g) (cram g rs j) := by
  obtain ⟨k, hk, hkb⟩ := det_bd (n := g) (m := rs) fun r hr => ⟨by rw [h.len r hr]; exact hg, fun q hq => ((h.2 r hr).2 q hq).2⟩
  have six : (((6 ^ g : Nat) : Int) : Rat) ≠ 0 := by
    intro z
    have := Rat.intCast_inj.mp (show (((6 ^ g : Nat) : Int) : Rat) = ((0 : Int) : Rat) from z)
    have : 0 < 6 ^ g := Nat.pow_pos (by decide)
    omega
  have k0 : k ≠ 0 := by
    rintro rfl
    rcases Rat.mul_eq_zero.mp (show det g rs * (((6 ^ g : Nat) : Int) : Rat) = 0 from hk) with z | z
    · exact h0 z
    · exact six z
  refine ⟨k.natAbs, by omega, hkb, fun j => ?_⟩
  obtain ⟨k', hk', hkb'⟩ := det_bd (n := g) (m := rs.set j (List.replicate g 1)) fun r hr => ⟨by rw [(h.set r hr).1]; exact hg, (h.set r hr).2⟩
  refine ⟨k' * k.sign, ?_, ?_⟩
  · have e1 : ((k.natAbs : Nat) : Int) = k * k.sign := by rw [Int.mul_sign_self]
    unfold cram
    rw [e1, Rat.intCast_mul, Rat.intCast_mul, ← hk, ← hk']
    have := Rat.div_mul_cancel (a := det g (rs.set j (List.replicate g 1))) h0
    generalize det g (rs.set j (List.replicate g 1)) / det g rs = c at this
    rw [← this]
    grind
  · rw [Int.natAbs_mul, Int.natAbs_sign_of_ne_zero k0, Nat.mul_one]
    exact hkb'
theorem CorOk.pos {g : Nat} {rs : List (List Rat)} {W : List Rat} (hg1 : 1 ≤ g) (hg : g ≤ 3) (h : CorOk g rs) (hW : WR rs g W) : ∀ q ∈ W, 0 < q := fun q hq => by
  obtain ⟨j, hj, rfl⟩ := List.mem_iff_getElem.mp hq
  have hj' : j < g := by rw [← hW.1]; exact hj
  have e := cram_eq hg1 hg h.1.1 h.1.len h.2.1 hW j hj'
  rw [List.getD_eq_getElem?_getD, List.getElem?_eq_getElem hj] at e
  have e' : W[j] = cram g rs j := e
  rw [e']; exact h.2.2 j hj'
theorem CorOk.ws {g : Nat} {rs : List (List Rat)} {W : List Rat} (hg1 : 1 ≤ g) (hg : g ≤ 3) (h : CorOk g rs) (hW : WR rs g W) : W = (List.range g).map (cram g rs) := by
  apply List.ext_getElem
  · rw [hW.1, List.length_map, List.length_range]
  · intro j h1 h2
    have hj' : j < g := by rw [← hW.1]; exact h1
    have e := cram_eq hg1 hg h.1.1 h.1.len h.2.1 hW j hj'
    rw [List.getD_eq_getElem?_getD, List.getElem?_eq_getElem h1] at e
    have e' : W[j] = cram g rs j := e
    rw [e']; simp
theorem CorOk.wok {g : Nat} {rs : List (List Rat)} {W : List Rat} (hg1 : 1 ≤ g) (hg : g ≤ 3) (h : CorOk g rs) (hW : WR rs g W) : ∃ C N, WsOk g C N W := by
  obtain ⟨C, c0, cl, hb⟩ := cram_bd hg h.1 h.2.1
  have hz : 72 ^ g ≤ 72 ^ 3 := Nat.pow_le_pow_right (by decide) hg
  refine ⟨C, 72 ^ g, hW.1, fun q hq => ⟨fun z => ?_, ?_⟩, c0, Nat.pow_pos (by decide), ?_, ?_⟩
  · have := h.pos hg1 hg hW q hq
    rw [z] at this; exact absurd this (by decide)
  · rw [h.ws hg1 hg hW] at hq
    obtain ⟨j, _, rfl⟩ := List.mem_map.mp hq
    exact hb j
  · exact Nat.lt_of_le_of_lt (log2_le_of_le (Nat.pow_le_pow_left (Nat.le_trans cl hz) 3)) (by decide +kernel)
  · exact Nat.lt_of_le_of_lt (log2_le_of_le (Nat.pow_le_pow_left hz 3)) (by decide +kernel)
/-- the rows that are taken where the drawn ones are no corner's -/
def plainR (g : Nat) : List (List Rat) := (List.range g).map fun a => (List.range g).map fun c => if a = c then (((1 + a : Nat) : Int) : Rat) else 0
theorem plainR_ok {g : Nat} (hg1 : 1 ≤ g) (hg : g ≤ 3) : CorOk g (plainR g) := by
  have : g = 1 ∨ g = 2 ∨ g = 3 := by omega
  refine ⟨⟨by simp [plainR], fun r hr => ?_⟩, ?_, ?_⟩
  · unfold plainR at hr
    obtain ⟨a, ha, rfl⟩ := List.mem_map.mp hr
    have ha' : a < g := by simpa using ha
    refine ⟨by simp, fun q hq => ?_⟩
    obtain ⟨c, hc, rfl⟩ := List.mem_map.mp hq
    split
    · refine ⟨Rat.intCast_nonneg.mpr (by omega), ⟨6 * ((1 + a : Nat) : Int), ?_, by omega⟩⟩
      rw [Rat.intCast_mul, Rat.mul_comm]; rfl
    · exact ⟨Rat.le_refl, Bd.zero _ _⟩
  · rcases this with rfl | rfl | rfl <;> decide +kernel
  · rcases this with rfl | rfl | rfl
    · intro j hj
      have : j = 0 := by omega
      subst this; decide +kernel
    · intro j hj
      have : j = 0 ∨ j = 1 := by omega
      rcases this with rfl | rfl <;> decide +kernel
    · intro j hj
      have : j = 0 ∨ j = 1 ∨ j = 2 := by omega
      rcases this with rfl | rfl | rfl <;> decide +kernel
/-! ### what somebody has, and drawn amounts -/
def Hs (k : Nat) (q : Rat) : Prop := ∃ A M, 0 < A ∧ A.log2 < 2200 + 10 * k ∧ M.log2 < 3500 + 40 * k ∧ Bd A M q
def AmH (k g : Nat) (am : List Rat) : Prop := am.length = g ∧ ∃ A M, 0 < A ∧ A.log2 < 2205 + 10 * k ∧ M.log2 < 3515 + 40 * k ∧ ∀ q ∈ am, Bd A M q
theorem Hs.sz {k : Nat} {q : Rat} (h : Hs k q) (hk : k ≤ 5) : Sz q := by
  obtain ⟨A, M, a0, a1, m1, hb⟩ := h
  exact hb.sz a0 (by omega) (by omega)
theorem AmH.ok {k g : Nat} {am : List Rat} (h : AmH k g am) (hk : k ≤ 5) : AmOk g am := by
  obtain ⟨hl, A, M, a0, a1, m1, hb⟩ := h
  exact ⟨hl, A, M, a0, by omega, by omega, hb⟩
theorem hs_plus {D N : Nat} {q s : Rat} (d0 : 0 < D) (hD : D.log2 < 2100) (hN : N.log2 < 3200) (hq : Bd D N q) (hs : Bd (10 ^ 12) (30 * 10 ^ 12) s) : Hs 0 (q + s) := by
  have h1 := hq.scale (10 ^ 12) (Nat.le_refl _)
  have h2 := hs.to D (D' := D * 10 ^ 12) (Nat.mul_comm _ _) (Nat.le_refl _)
  have e1 := log2_mul_le D (10 ^ 12)
  have e2 := log2_mul_le N (10 ^ 12)
  have e3 := log2_mul_le (30 * 10 ^ 12) D
  have e4 := log2_add_le (N * 10 ^ 12) (30 * 10 ^ 12 * D)
  have e5 : (10 ^ 12).log2 = 39 := by decide
  have e6 : (30 * 10 ^ 12).log2 = 44 := by decide
  exact ⟨_, _, Nat.mul_pos d0 (by decide), by omega, by omega, h1.add h2⟩
theorem am_spread {k g a : Nat} {h : Rat} {some : List Rat} (hh : Hs k h) (hg : some.length + 1 = g) (hg3 : g ≤ 3) (hs : ∀ q ∈ some, Bd 2 80 q) : AmH k g (some.take a ++ [h + -(rsum some)] ++ some.drop a) := by
  obtain ⟨A, M, a0, a1, m1, hb⟩ := hh
  refine ⟨?_, A * 2, M * 2 + 160 * A, by omega, ?_, ?_, fun q hq => ?_⟩
  · rw [List.append_assoc, List.length_append, List.length_append, List.length_take, List.length_drop]
    simp; omega
  · have := log2_mul_le A 2
    have e : (2 : Nat).log2 = 1 := by decide
    omega
  · have e1 := log2_mul_le M 2
    have e2 := log2_mul_le 160 A
    have e3 := log2_add_le (M * 2) (160 * A)
    have e4 : (2 : Nat).log2 = 1 := by decide
    have e5 : (160 : Nat).log2 = 7 := by decide
    omega
  · have hsome : ∀ q ∈ some, Bd (A * 2) (M * 2 + 160 * A) q := fun q hq => (hs q hq).to A (Nat.mul_comm _ _) (by
      have : 80 * A ≤ 160 * A := Nat.mul_le_mul_right _ (by decide)
      omega)
    rcases List.mem_append.mp hq with hq | hq
    · rcases List.mem_append.mp hq with hq | hq
      · exact hsome q (List.mem_of_mem_take hq)
      · rw [List.mem_singleton.mp hq]
        refine (hb.scale 2 (Nat.le_refl _)).add ?_
        refine Bd.neg ?_
        refine (Bd.rsum hs).to A (Nat.mul_comm _ _) ?_
        refine Nat.mul_le_mul_right _ ?_
        have : some.length ≤ 2 := by omega
        have := Nat.mul_le_mul_right 80 this
        omega
    · exact hsome q (List.mem_of_mem_drop hq)
theorem rsum_spread (some : List Rat) (h : Rat) (a : Nat) : rsum (some.take a ++ [h + -(rsum some)] ++ some.drop a) = h := by
  have e : rsum some = rsum (some.take a) + rsum (some.drop a) := by rw [← rsum_append, List.take_append_drop]
  rw [rsum_append, rsum_append, rsum_one, e]
  grind
theorem AmH.dot {k g : Nat} {am r : List Rat} (h : AmH k g am) (hg : g ≤ 3) (hr : DayOk g r) : Hs (k + 1) (rdot am r) := by
  obtain ⟨hl, A, M, a0, a1, m1, hb⟩ := h
  have h1 := Bd.rdot (L := 3) hb (fun q hq => (hr.2 q hq).2) (by rw [hl]; exact hg)
  have e1 := log2_mul_le A 6
  have e2 := log2_mul_le M 24
  have e3 := log2_mul_le 3 (M * 24)
  have e4 : (6 : Nat).log2 = 2 := by decide
  have e5 : (24 : Nat).log2 = 4 := by decide
  have e6 : (3 : Nat).log2 = 1 := by decide
  exact ⟨_, _, by omega, by omega, by omega, h1⟩
/-- worths that are the same at all markets of such days make the same sums -/
theorem over_congr {g n : Nat} {p p' : Pr} {rs : List (List Rat)} {ahead : List Nat} {ps : List (List Rat)} (hrs : RsOk g rs) (ha : ∀ i ∈ ahead, i < g) (hal : ahead.length + ps.length ≤ 3) (hr : ∀ r ∈ ps, r.length = g) (e : ∀ m, MkOk g m → worth n p' m = worth n p m) : over n p' rs ahead ps = over n p rs ahead ps := by
  unfold over
  have hw := ways_word ps.length hr (Nat.le_refl _)
  rw [List.take_length] at hw
  refine rsum_congr fun z hz => ?_
  obtain ⟨h1, h2⟩ := hw z hz
  rw [e]
  exact hrs.mk (fun i hi => by
    rcases List.mem_append.mp hi with h | h
    · exact ha i h
    · exact h2 i h) (by rw [List.length_append, h1]; exact hal)
theorem rest_congr {g n d : Nat} {p p' : Pr} {rs : List (List Rat)} {ws : List Rat} {w : List Nat} (hrs : RsOk g rs) (hw : ∀ i ∈ w, i < g) (hd : d ≤ 3) (hl : w.length ≤ d) (hws : ws.length = g) (e : ∀ m, MkOk g m → worth n p' m = worth n p m) : rest n p' rs ws d w = rest n p rs ws d w :=
  over_congr hrs hw (by rw [List.length_replicate]; omega) (fun r hr => by rw [List.eq_of_mem_replicate hr]; exact hws) e
end Hp
/-! t * n of a tuple, n from 1 on. -/
namespace Hp
set_option Elab.async false
set_option linter.all false
set_option maxRecDepth 100000
set_option maxHeartbeats 4000000
open PySem PySem.Spec PyProof.Rows L2
theorem tup_once (l : Addr) (items : Array Value) (n : Nat) (dd : Option Addr) (sl : Array (Option Value)) (u : Tok) : Meets (Builtin.«tuple.__mul__» ⟨[.ref l, .int 1 u], []⟩)
    (fun _ R s => s.heap.get? l = some { cls := .type "tuple", dict := dd, data := .seq items n, slots := sl } ∧ R (.ok (.ret (Value.ref l))) s) :=
  .of_wp fun prog w A R s h => by
    obtain ⟨hp, g, d, tk, os⟩ := s
    obtain ⟨hl, h⟩ := h
    have f1 := AutoSeq1.idx_int
    wp_walk using wpAny_loadPart' hl
    exact ⟨_, rfl, h⟩
def rRepA (K : PySem.W.Frag) : R2 := fun x y H Q => ∃ l k xs, x = .ref l ∧ y = .int k ∧ H l = some (.tup xs) ∧ xs ≠ [] ∧ 1 ≤ k ∧ k ≤ 1000 ∧ xs.length ≤ 1000 ∧ ∀ p H', Same H H' → H' p = some (.tup (List.replicate k.toNat xs).flatten) → Q (.ref p) H'
theorem op_repA {X : Cx} : OpR X (binaryOp .Mult) (rRepA X.K) := by
  intro pins s σ H x y v u Q I rx ry h
  obtain ⟨l, k, xs, rfl, rfl, hT, hne, h1, h2, hz, q⟩ := h
  by_cases hk : 2 ≤ k
  · exact op_repT pins s σ H _ _ v u Q I rx ry ⟨l, k, xs, rfl, rfl, SqT.of hT, hne, hk, h2, hz, fun p np => q p _ (Same.of_new np) upd_same⟩
  · have e : k = 1 := by omega
    subst e
    cases rx
    obtain ⟨t, rfl⟩ := ry
    obtain ⟨its, r, ⟨⟨cls, dd, data, sl⟩, ho, hc, n, hd⟩, hs⟩ := I.tuple (SqT.of (K := X.K) hT)
    simp only at hc hd
    subst hc hd
    refine wpAny_binaryOp_repeat_ref (T := "tuple") (U := "int") (by decide) ⟨_, ho, rfl⟩ (fun s' => typeIs_int s' 1 t) noFill_tuple_mul F.fills_int_mul F.slot_int_rmul repeat_tuple F.slot_int_index.lookup
      (call_meets F.slot_int_rmul (typeIs_int s 1 t) F.entry_int_rmul (F.args_int_rmul_2 _ _) (int_rmul_tuple 1 t l its.toArray n dd sl)
        ⟨ho, rfl, ⟨_, ho, rfl⟩, call_meets F.slot_tuple_mul ⟨_, ho, rfl⟩ F.entry_tuple_mul (F.args_tuple_mul_2 _ _) (tup_once l its.toArray n dd sl t) ⟨ho, ?_⟩⟩)
    refine ⟨.ref l, H, I, rfl, q l H (Same.refl _) ?_⟩
    rw [hT]
    show some (HO.tup xs) = some (HO.tup (List.replicate 1 xs).flatten)
    simp
end Hp
namespace Hp
set_option Elab.async false
set_option linter.all false
set_option maxRecDepth 100000
set_option maxHeartbeats 4000000
open PySem PySem.Spec PyProof.Rows L2 NdefX
theorem det_sz {g : Nat} {rs : List (List Rat)} (hg : g ≤ 3) (h : ∀ r ∈ rs, r.length = g ∧ ∀ q ∈ r, Bd 6 24 q) : Sz (det g rs) ∧ (det g rs).num.natAbs.log2 < 4000 := by
  have hb : Bd (6 ^ g) (72 ^ g) (det g rs) := det_bd fun r hr => ⟨by rw [(h r hr).1]; exact hg, (h r hr).2⟩
  have : g = 0 ∨ g = 1 ∨ g = 2 ∨ g = 3 := by omega
  have hd : (6 ^ g).log2 < 4000 ∧ (72 ^ g).log2 < 4000 := by
    rcases this with rfl | rfl | rfl | rfl <;> decide +kernel
  have h0 : 0 < 6 ^ g := Nat.pow_pos (by decide)
  refine ⟨hb.sz h0 hd.1 (by omega), ?_⟩
  exact Nat.lt_of_le_of_lt (log2_le_of_le (hb.nd h0).1) hd.2
theorem rep_flat {α : Type} (x : α) : ∀ n : Nat, (List.replicate n [x]).flatten = List.replicate n x
  | 0 => rfl
  | n + 1 => by rw [List.replicate_succ, List.replicate_succ, List.flatten_cons, rep_flat x n]; rfl
theorem rows_drop {F : V → List Rat → Prop} {xs : List V} {m : List (List Rat)} (h : Paired F xs m) (a : Nat) {u : V} {r : List Rat} (f : F u r) (ha : a < m.length) : Paired F (xs.take a ++ [u] ++ xs.drop (a + 1)) (m.set a r) := by
  rw [List.set_eq_take_append_cons_drop, if_pos ha, List.append_assoc]
  exact paired_append (paired_take h a) (paired_append (.cons f .nil) (paired_drop h (a + 1)))
section
variable {P : Program} {w : World} {K : PySem.W.Frag} {mg : Str → Option Value} {base : Heap}
def sp_law_parts  : Sp :=  fun vs H Q _ => ∃ v u xs m g, vs = [v, u] ∧ SqK true H v xs ∧ Paired (RowB H) xs m ∧ RowB H u (List.replicate g 1) ∧ RsOk g m ∧ 1 ≤ g ∧ g ≤ 3 ∧ det g m ≠ 0 ∧ ∀ p H', Same H H' → RowAt H' (.ref p) ((List.range g).map (cram g m)) → Q (.ref p) H'
theorem sc_law_parts : FnScope ["_law_rows_here", "_law_day", "_law_whole", "_law_at"] ["_law_rows_here", "_law_day"] (defScope s_law_parts) := ⟨rfl, rfl, rfl, by decide +kernel, rfl, by decide +kernel, by decide +kernel⟩
theorem c_law_parts (T : Wd K mg base) : Cal P w K mg base 8 "_law_parts" sp_law_parts [] := by
  obtain ⟨fd, F⟩ := T.d_law_parts
  refine mkCal (k := 8 - 1) F T.g_law_parts sc_law_parts (F.bindsN fun _ _ _ _ _ _ us hl => match us, hl with | [_, _], _ => rfl) (fun vs H Q E h => ?_) (fun cdv A outer s H vs Q E hr h => ?_)
  · rcases h with ⟨v, u, xs, m, g, rfl, sx, hx, hu, hm, hg1, hg, h0, k⟩ <;> rfl
  · rcases h with ⟨v, u, xs, m, g, rfl, sx, hx, hu, hm, hg1, hg, h0, k⟩
    refine ⟨_, (pss_cons (ps_set (i := 2) sc_law_parts.nd rfl (Or.inr rfl) (pe_c (c_law_square T 4) hr (by decide) rfl (pa_cons (pv 0) pa_nil)))
  (pss_one (ps_ret (pe_callTy call_tuple_of (by rfl) T.f_tuple (by decide +kernel) (pa_cons (pe_lc (own := [("_law_at", 3)]) rfl sc_law_parts.nd (pi_range1 rfl T.f_range (pa_cons (pe_callB call_len_seq (by rfl) T.f_len (by decide +kernel) (pa_cons (pv 0) pa_nil)) pa_nil)) (blkOk_by (own := [("_law_at", 3)]) (N := ["_law_rows_here", "_law_day", "_law_whole", "_law_at"]) (sc := defScope s_law_parts) (by decide +kernel)) (fun _ _ _ _ _ => by exact (pg_name (i := 3) sc_law_parts.nd rfl (by first | exact Or.inl rfl | exact Or.inr rfl))) (fun _ _ _ _ _ => by exact pts_nil) (fun _ _ _ _ _ => by exact (pe_c (c_law_over T) hr (by decide) rfl (pa_cons (pe_c (c_law_square T 4) hr (by decide) rfl (pa_cons (pe_op op_cat (pe_op op_cat (pe_slice (slAnyK (K := K) rfl) (pv 0) po_none (po_some (pv 3))) (pe_lst (pa_cons (pv 1) pa_nil))) (pe_slice (slAnyK (K := K) rfl) (pv 0) (po_some (pe_op op_add (pv 3) pe_int)) po_none)) pa_nil)) (pa_cons (pv 2) pa_nil))))) pa_nil))))), ?_⟩
    have hxl := hx.length
    have hml := hm.1
    refine u_seq (u_asg ⟨_, rfl, v, xs, m, rfl, sx, hx, by omega, by omega, hm.w, fun y1 H1 s1 hy1 => u_gname ?_⟩)
    rw [hml] at hy1
    dsimp only
    have sz := det_sz hg (fun r hr => ⟨hm.len r hr, (hm.w r hr).2⟩)
    refine u_ret (u_cb1 ?_)
    refine lc_rng1 (H1 := H1) (n := g) ?_ (by omega) (fun D j H' z => Num H' z (cram g m j)) (fun D i H1 H2 z c h => h.mono c.n) ?_ ?_ (fun _ => rfl)
    · intro R r
      refine ⟨_, rfl, lenOf (sx.same s1) ?_⟩
      rw [hxl, hml]; exact r
    · intro D j H' R hj hD s2 hDn hR
      have s12 := s1.trans s2
      have sx2 := sx.same s12
      refine ⟨_, rfl, _, rfl, (j : Int), rfl, slOf sx2 fun p3 H3 s3 sq3 => ?_⟩
      rw [cut_take] at sq3
      refine ⟨_, rfl, (by show 1 ≤ sizeLine; decide), fun l4 nl4 => ?_⟩
      have s34 := s3.trans (Same.of_new (o := .lst [u]) nl4)
      have h4 : (L2.upd H3 l4 (.lst [u])) l4 = some (.lst [u]) := upd_same
      have h3 := (Same.of_new (o := .lst [u]) nl4) _ _ (show H3 p3 = some (.lst (xs.take j)) from let ⟨_, e, h⟩ := sq3; by cases e; exact h)
      generalize L2.upd H3 l4 (.lst [u]) = H4 at s34 h4 h3
      refine ⟨p3, l4, _, _, rfl, rfl, h3, h4, Nat.le_trans (by rw [List.length_take]; simp; omega : _ ≤ 4) (by decide), fun l5 nl5 => ?_⟩
      have s5 := Same.of_new (o := .lst (xs.take j ++ [u])) nl5
      have s35 := s34.trans s5
      have h5 : (L2.upd H4 l5 (.lst (xs.take j ++ [u]))) l5 = some (.lst (xs.take j ++ [u])) := upd_same
      generalize L2.upd H4 l5 (.lst (xs.take j ++ [u])) = H5 at s35 h5
      refine ⟨_, rfl, _, rfl, _, _, rfl, rfl, ((j + 1 : Nat) : Int), rfl, slOf (sx2.same s35) fun p6 H6 s6 sq6 => ?_⟩
      rw [cut_drop] at sq6
      have h6 : H6 p6 = some (.lst (xs.drop (j + 1))) := let ⟨_, e, h⟩ := sq6; by cases e; exact h
      refine ⟨l5, p6, _, _, rfl, rfl, s6 _ _ h5, h6, Nat.le_trans (by rw [List.length_append, List.length_take, List.length_drop]; simp; omega : _ ≤ 4) (by decide), fun l7 nl7 => ?_⟩
      have s7 := Same.of_new (o := .lst (xs.take j ++ [u] ++ xs.drop (j + 1))) nl7
      have s27 := (s35.trans s6).trans s7
      have s17 := s12.trans s27
      have hset : ∀ r ∈ m.set j (List.replicate g 1), r.length = g ∧ ∀ q ∈ r, Bd 6 24 q := hm.set
      have hsl : (m.set j (List.replicate g 1)).length = g := by rw [List.length_set]; exact hml
      refine ⟨.ref l7, _, m.set j (List.replicate g 1), rfl, SqK.lst upd_same, rows_drop (Paired.mapP hx fun _ _ q => q.same s17) j (hu.same s17) (by omega), by omega, by omega, fun r hr => ⟨by rw [hsl]; exact (hset r hr).1, (hset r hr).2⟩, fun y8 H8 s8 hy8 => ?_⟩
      rw [hsl] at hy8
      have sz8 := det_sz hg hset
      have s28 := (s2.trans s27).trans s8
      refine ⟨_, rfl, y8, y1, _, _, rfl, hy8, hy1.mono s28.n, sz8.1, sz.1, h0, sz.2, fun y9 H9 s9 hy9 => hR y9 H9 ((s27.trans s8).trans s9) hy9⟩
    · intro D H' zs hD s2 hDz hl2 hF
      refine ⟨_, zs, rfl, .inl ⟨SqL.of hDz, fun p np => ?_⟩⟩
      refine k p _ ((s1.trans s2).trans (Same.of_new np)) ⟨zs, SqK.tup upd_same, paired_of (by simp [hl2]) fun j z c hz hc => ?_⟩
      rw [List.getElem?_map] at hc
      obtain ⟨j', hj', rfl⟩ := Option.map_eq_some_iff.mp hc
      have e : j' = j := by
        have := List.getElem?_eq_some_iff.mp hj'
        simpa using this.2.symm
      subst e
      exact (hF _ z hz).mono (Same.of_new np).n
theorem cram_sz {g j : Nat} {rs : List (List Rat)} (hg : g ≤ 3) (h : RsOk g rs) (h0 : det g rs ≠ 0) : Sz (cram g rs j) := by
  obtain ⟨C, c0, cl, hb⟩ := cram_bd hg h h0
  have hz : 72 ^ g ≤ 72 ^ 3 := Nat.pow_le_pow_right (by decide) hg
  exact (hb j).sz c0 (Nat.lt_of_le_of_lt (log2_le_of_le (Nat.le_trans cl hz)) (by decide +kernel)) (Nat.lt_of_le_of_lt (log2_le_of_le hz) (by decide +kernel))
def sp_law_is_corner  : Sp :=  fun vs H Q _ => ∃ v xs m g, vs = [v] ∧ SqK true H v xs ∧ Paired (RowB H) xs m ∧ RsOk g m ∧ 1 ≤ g ∧ g ≤ 3 ∧ ∀ b H', Same H H' → (b = true → CorOk g m) → Q (.bl b) H'
theorem sc_law_is_corner : FnScope ["_law_rows_here", "_law_part"] ["_law_rows_here"] (defScope s_law_is_corner) := ⟨rfl, rfl, rfl, by decide +kernel, rfl, by decide +kernel, by decide +kernel⟩
theorem c_law_is_corner (T : Wd K mg base) : Cal P w K mg base 9 "_law_is_corner" sp_law_is_corner [] := by
  obtain ⟨fd, F⟩ := T.d_law_is_corner
  refine mkCal (k := 9 - 1) F T.g_law_is_corner sc_law_is_corner (F.bindsN fun _ _ _ _ _ _ us hl => match us, hl with | [_], _ => rfl) (fun vs H Q E h => ?_) (fun cdv A outer s H vs Q E hr h => ?_)
  · rcases h with ⟨v, xs, m, g, rfl, sx, hx, hm, hg1, hg, k⟩ <;> rfl
  · rcases h with ⟨v, xs, m, g, rfl, sx, hx, hm, hg1, hg, k⟩
    refine ⟨_, (pss_cons (ps_if (pt_cmpR (op_eqD (u64 hr)) (pe_c (c_law_square T 4) hr (by decide) rfl (pa_cons (pv 0) pa_nil)) pe_int (nomark _)) (pss_one (ps_ret pe_bl)) pss_nil)
  (pss_one (ps_ret (pe_cmpR (op_eqD (u64 hr)) (pe_lc (own := [("_law_part", 1)]) rfl sc_law_is_corner.nd (pi_seq (pe_c (c_law_parts T) hr (by decide) rfl (pa_cons (pv 0) (pa_cons (pe_op op_repA (pe_tup (pa_cons pe_int pa_nil)) (pe_callB call_len_seq (by rfl) T.f_len (by decide +kernel) (pa_cons (pv 0) pa_nil))) pa_nil)))) (blkOk_by (own := [("_law_part", 1)]) (N := ["_law_rows_here", "_law_part"]) (sc := defScope s_law_is_corner) (by decide +kernel)) (fun _ _ _ _ _ => by exact (pg_name (i := 1) sc_law_is_corner.nd rfl (by first | exact Or.inl rfl | exact Or.inr rfl))) (fun _ _ _ _ _ => by exact (pts_one (pt_not (pt_val (pe_c (c_law_is_less T) hr (by decide) rfl (pa_cons pe_int (pa_cons (pv 1) pa_nil))))))) (fun _ _ _ _ _ => by exact (pv 1))) (pe_lst pa_nil) (nomark _))))), ?_⟩
    have hxl := hx.length
    have hml := hm.1
    obtain ⟨pv, rfl, hpv⟩ := id sx
    refine u_seq (u_ifT (u_op ⟨_, rfl, _, xs, m, rfl, sx, hx, by omega, by omega, hm.w, fun y1 H1 s1 hy1 => ?_⟩))
    rw [hml] at hy1
    refine u_tC (eq0 hy1 ?_)
    refine ⟨_, rfl, u_if (fun h => ?_) (fun h => ?_)⟩
    · exact u_ret (k false H1 s1 (fun z => by cases z))
    have h0 : det g m ≠ 0 := of_decide_eq_false h
    refine u_next ?_
    dsimp only
    refine u_ret (u_op ?_)
    refine lcg_seqG (b := false) (fun v' H3 ys => Same H1 H3 ∧ SqK false H3 v' ys ∧ Nums H3 ys ((List.range g).map (cram g m))) ?_ (fun v' H3 ys h => ⟨h.2.1, by rw [h.2.2.length]; simp; omega⟩) (fun v' H3 ys D i H' acc => Same H3 H' ∧ SqK false H' v' ys ∧ (∀ x ∈ acc, ∃ q, Num H' x q) ∧ (acc = [] → ∀ j, j < i → 0 < cram g m j)) (fun v' H3 ys D i H' acc h => h.2.1) ?_ ?_ ?_ (fun _ => rfl)
    · intro R hR
      refine ⟨_, rfl, (by show 1 ≤ sizeLine; decide), fun t nt => ?_⟩
      have s2 := Same.of_new (o := .tup [V.int 1]) nt
      have ht : (L2.upd H1 t (.tup [V.int 1])) t = some (.tup [V.int 1]) := upd_same
      generalize L2.upd H1 t (.tup [V.int 1]) = H2 at s2 ht
      have s12 := s1.trans s2
      refine ⟨_, rfl, _, _, rfl, (sx.same s12).or, ?_⟩
      refine ⟨t, _, _, rfl, rfl, ht, by simp, by omega, by omega, by decide, fun p H3 s3 hp => ?_⟩
      have s13 := s12.trans s3
      rw [hxl, hml, Int.toNat_natCast] at hp
      have hp' : H3 p = some (.tup (List.replicate g (V.int 1))) := by
        rw [hp, rep_flat]
      refine ⟨_, .ref p, xs, m, g, rfl, sx.same s13, Paired.mapP hx fun _ _ q => q.same s13, ⟨false, _, SqK.tup hp', paired_rep (Num.int H3 1) g⟩, hm, hg1, hg, h0, fun p4 H4 s4 ⟨ys, sy, hy⟩ => hR _ _ ys ⟨(s2.trans s3).trans s4, sy, hy⟩⟩
    · rintro v' H3 ys D ⟨s3, sy, hy⟩ hD
      exact ⟨Same.of_new hD, sy.same (Same.of_new hD), fun x hx => by simp at hx, fun _ j hj => by omega⟩
    · rintro v' H3 ys D i x H4 acc R Z ⟨s3, sy, hy⟩ hxi hD hl hDa ⟨s4, sy4, hn, hc⟩ hR hZ
      obtain ⟨q, hq, hxq⟩ := paired_get hy hxi
      rw [List.getElem?_map] at hq
      obtain ⟨i', hi', rfl⟩ := Option.map_eq_some_iff.mp hq
      have e : i' = i := by
        have := List.getElem?_eq_some_iff.mp hi'
        simpa using this.2.symm
      subst e
      refine ⟨_, rfl, _, _, 0, _, rfl, Num.int H4 0, hxq.mono s4.n, (Bd.zero 1 1).sz (by decide) (by decide) (by decide), cram_sz hg hm h0, fun H5 s5 => ⟨_, rfl, u_if (fun hb => ?_) (fun hb => ?_)⟩⟩
      · have hnb : decide (0 < cram g m i') = false := by simpa using hb
        have h5 := s5 _ _ hDa
        refine ⟨_, rfl, hR _ _ h5 ?_⟩
        have hne : SameN H5 (L2.upd H5 D (.lst (acc ++ [x]))) := SameN.lst h5
        obtain ⟨py, rfl, hpy⟩ := sy
        refine ⟨fun b o h => ?_, ⟨py, rfl, ?_⟩, fun z hz => ?_, fun z => by simp at z⟩
        · rw [upd_ne (ne_of_none h hD)]; exact s5 _ _ (s4 _ _ h)
        · rw [upd_ne (ne_of_none hpy hD)]; exact s5 _ _ (s4 _ _ hpy)
        · rcases List.mem_append.mp hz with h | h
          · obtain ⟨q, hq⟩ := hn z h
            exact ⟨q, (hq.mono s5.n).mono hne⟩
          · rw [List.mem_singleton.mp h]
            exact ⟨_, ((hxq.mono s4.n).mono s5.n).mono hne⟩
      · have hpb : decide (0 < cram g m i') = true := by simpa using hb
        refine hZ _ (s5 _ _ hDa) ⟨s4.trans s5, sy4.same s5, fun z hz => ?_, fun ha j hj => ?_⟩
        · obtain ⟨q, hq⟩ := hn z hz
          exact ⟨q, hq.mono s5.n⟩
        · by_cases e : j < i'
          · exact hc ha j e
          · have : j = i' := by omega
            subst this
            exact of_decide_eq_true hpb
    · rintro v' H3 ys D H4 acc ⟨s3, sy, hy⟩ hD hDa ⟨s4, sy4, hn, hc⟩
      refine ⟨(by show 0 ≤ sizeLine; decide), fun e he => ?_⟩
      have s5 := Same.of_new (o := .lst []) he
      refine eqNil ((SqK.lst hDa).same s5) (SqK.lst upd_same) (j := 1) (fun x hx => ?_) (by decide) ?_
      · obtain ⟨q, hq⟩ := hn x hx
        exact Dq.num (hq.mono s5.n)
      · refine k _ _ (((s1.trans s3).trans s4).trans s5) fun hb => ⟨hm, h0, fun j hj => ?_⟩
        have ha : acc = [] := by simpa using hb
        refine hc ha j ?_
        rw [hy.length]; simpa using hj
end
end Hp
namespace Hp
set_option Elab.async false
set_option linter.all false
set_option maxRecDepth 100000
set_option maxHeartbeats 4000000
open PySem PySem.Spec PyProof.Rows L2 NdefX
theorem ThAt.n {H H' : Hp} {t c : Addr} {b : Nat} (h : ThAt H t c b) (e : SameB t H H') : SameN H H' := by
  obtain ⟨cells, a, l, _, h2, _⟩ := h
  exact Chg.n ⟨e, _, h2⟩
theorem Num.pair {H : Hp} {p : Addr} {q : Rat} {a b : Int} (ha : q.num = a) (hb : (q.den : Int) = b) (h1 : q.den ≠ 1) (h : H p = some (.tup [.int a, .int b])) : Num H (.ref p) q := .inr ⟨h1, p, rfl, by rw [ha, hb]; exact h⟩
def bdB (D N : Nat) (q : Rat) : Bool := decide ((q * ((D : Int) : Rat)).den = 1) && decide ((q * ((D : Int) : Rat)).num.natAbs ≤ N)
theorem bdB_ok {D N : Nat} {q : Rat} (h : bdB D N q = true) : Bd D N q := by
  unfold bdB at h
  rw [Bool.and_eq_true] at h
  exact ⟨_, (den_one (of_decide_eq_true h.1)).symm, of_decide_eq_true h.2⟩
theorem bd_list {D N : Nat} {qs : List Rat} (h : qs.all (bdB D N) = true) : ∀ q ∈ qs, Bd D N q := fun q hq => bdB_ok (List.all_eq_true.mp h q hq)
theorem nn_list {qs : List Rat} (h : qs.all (fun q => decide (0 ≤ q)) = true) : ∀ q ∈ qs, 0 ≤ q := fun q hq => of_decide_eq_true (List.all_eq_true.mp h q hq)
section
variable {P : Program} {w : World} {K : PySem.W.Frag} {mg : Str → Option Value} {base : Heap}
def sp_law_rows  : Sp :=  fun vs H Q _ => ∃ t c b g, vs = [.ref t, .int ((g : Nat) : Int)] ∧ ThAt H t c b ∧ b < 999000 ∧ 1 ≤ g ∧ g ≤ 3 ∧ ∀ H' D zs m, SameB t H H' → ThAt H' t c (b + 12) → H' D = some (.lst zs) → D ≠ t → RowsAt H' zs m → RsOk g m → Q (.ref D) H'
theorem sc_law_rows : FnScope ["_law_thief_here", "_law_goods", "_law_rows_here", "_law_at", "_law_row", "_law_good"] ["_law_thief_here", "_law_goods"] (defScope s_law_rows) := ⟨rfl, rfl, rfl, by decide +kernel, rfl, by decide +kernel, by decide +kernel⟩
theorem c_law_rows (T : Wd K mg base) : Cal P w K mg base 5 "_law_rows" sp_law_rows [] := by
  obtain ⟨fd, F⟩ := T.d_law_rows
  refine mkCal (k := 5 - 1) F T.g_law_rows sc_law_rows (F.bindsN fun _ _ _ _ _ _ us hl => match us, hl with | [_, _], _ => rfl) (fun vs H Q E h => ?_) (fun cdv A outer s H vs Q E hr h => ?_)
  · rcases h with ⟨t, c, b, g, rfl, th, hb, hg1, hg, k⟩ <;> rfl
  · rcases h with ⟨t, c, b, g, rfl, th, hb, hg1, hg, k⟩
    refine ⟨_, (pss_cons (ps_set (i := 2) sc_law_rows.nd rfl (Or.inl rfl) (pe_lst pa_nil))
  (pss_cons (ps_for PassesOwn.never rfl (pi_range1 rfl T.f_range (pa_cons (pv 1) pa_nil)) (pg_name (i := 3) sc_law_rows.nd rfl (Or.inl rfl))
  (pss_cons (ps_setLc (i := 4) (own := [("_law_good", 5)]) rfl sc_law_rows.nd rfl rfl (sw_true rfl rfl rfl (by decide +kernel)) (pi_range1 rfl T.f_range (pa_cons (pv 1) pa_nil)) (blkOk_by (own := [("_law_good", 5)]) (N := ["_law_thief_here", "_law_goods", "_law_rows_here", "_law_at", "_law_row", "_law_good"]) (sc := defScope s_law_rows) (by decide +kernel)) (fun _ _ _ _ _ => by exact (pg_name (i := 5) sc_law_rows.nd rfl (by first | exact Or.inl rfl | exact Or.inr rfl))) (fun _ _ _ _ _ => by exact pts_nil) (fun _ _ _ _ _ => by exact (pe_c (c_law_one_of T) hr (by decide) rfl (pa_cons (pv 0) (pa_cons (pe_lst (pa_cons pe_int (pa_cons (pe_tup (pa_cons pe_int (pa_cons pe_int pa_nil))) (pa_cons pe_int (pa_cons pe_int (pa_cons (pe_tup (pa_cons pe_int (pa_cons pe_int pa_nil))) (pa_cons pe_int pa_nil))))))) pa_nil)))))
  (pss_cons (ps_asg (pe_c (c_law_plus T) hr (by decide) rfl (pa_cons (pe_ix ix_seq (pv 4) (pv 3) (fun _ _ => rfl)) (pa_cons (pe_c (c_law_one_of T) hr (by decide) rfl (pa_cons (pv 0) (pa_cons (pe_lst (pa_cons pe_int (pa_cons pe_int (pa_cons pe_int (pa_cons (pe_tup (pa_cons pe_int (pa_cons pe_int pa_nil))) (pa_cons pe_int pa_nil)))))) pa_nil))) pa_nil))) (pg_sub (pv 4) (pv 3) set_list))
  (pss_one (ps_expr (pe_bm PySem.F.plainAttrs_list PySem.F.slot_list_append PySem.F.type_list_append mt_append (pv 2) (pa_cons (pe_callTy call_tuple_of (by rfl) T.f_tuple (by decide +kernel) (pa_cons (pv 4) pa_nil)) pa_nil)))))))
  (pss_one (ps_ret (pv 2))))), ?_⟩
    refine u_seq (u_asg ⟨(by show 0 ≤ sizeLine; decide), fun F nF => u_gname ?_⟩)
    dsimp only
    have sF := Same.of_new (o := .lst []) nF
    have hF : (L2.upd H F (.lst [])) F = some (.lst []) := upd_same
    have thF := th.same sF
    have nFt := (th.ne nF).1
    have nFc := (th.ne nF).2
    have sbF : SameB t H (L2.upd H F (.lst [])) := SameB.of sF
    generalize L2.upd H F (.lst []) = H1 at sF hF thF sbF
    refine u_seq ?_
    refine for_rng1 (H1 := H1) (n := g) (gives_var rfl) (by omega) (fun i σ' H' => ∃ y3 y4 y5 zs m, σ' = [some (.ref t), some (.int (g : Int)), some (.ref F), y3, y4, y5] ∧ (∀ a u, a ≠ t → a ≠ F → H1 a = some u → H' a = some u) ∧ H' F = some (.lst zs) ∧ ThAt H' t c (b + i * (g + 1)) ∧ RowsAt H' zs m ∧ m.length = i ∧ ∀ r ∈ m, DayOk g r) ?_ ?_ ?_
    · exact ⟨_, _, _, [], [], rfl, fun a u _ _ h => h, hF, by simpa using thF, .nil, rfl, fun r hr => by simp at hr⟩
    · rintro i σ' H' hi ⟨y3, y4, y5, zs, m, rfl, sH, hF', th', hr', hml, hm⟩
      have hbi : b + i * (g + 1) + g < 999000 + 12 := by
        have : i * (g + 1) ≤ 2 * 4 := Nat.mul_le_mul (by omega) (by omega)
        omega
      refine u_seq (u_asg ?_)
      refine lcg_rng1 (H1 := H') (n := g) (gives_var rfl) (by omega) (fun D j H4 acc => SameB t H' H4 ∧ ThAt H4 t c (b + i * (g + 1) + j) ∧ ∃ qs, Nums H4 acc qs ∧ qs.length = j ∧ ∀ q ∈ qs, 0 ≤ q ∧ Bd 6 12 q) ?_ ?_ ?_ (fun _ => rfl)
      · intro D hD
        have s1 := Same.of_new (o := .lst []) hD
        exact ⟨SameB.of s1, th'.same s1, [], .nil, rfl, fun q hq => by simp at hq⟩
      · rintro D j H4 acc R Z hj hD hl hDa ⟨sb4, th4, qs, hn, hql, hqb⟩ hR _
        have hDt := (th'.ne hD).1
        have hDc := (th'.ne hD).2
        refine yesG ?_
        refine ⟨_, rfl, sz2, fun t1 n1 => ⟨sz2, fun t2 n2 => ⟨(by show 6 ≤ sizeLine; decide), fun l nl => ?_⟩⟩⟩
        have s1 := Same.of_new (o := .tup [V.int 1, V.int 2]) n1
        have h1 : (L2.upd H4 t1 (.tup [V.int 1, V.int 2])) t1 = some (.tup [V.int 1, V.int 2]) := upd_same
        generalize L2.upd H4 t1 (.tup [V.int 1, V.int 2]) = H5 at s1 h1 n2 nl ⊢
        have s2 := Same.of_new (o := .tup [V.int 1, V.int 3]) n2
        have h2 : (L2.upd H5 t2 (.tup [V.int 1, V.int 3])) t2 = some (.tup [V.int 1, V.int 3]) := upd_same
        generalize L2.upd H5 t2 (.tup [V.int 1, V.int 3]) = H6 at s2 h2 nl ⊢
        have s3 := Same.of_new (o := .lst [V.int 0, V.ref t1, V.int 1, V.int 0, V.ref t2, V.int 2]) nl
        have h3 : (L2.upd H6 l (.lst [V.int 0, V.ref t1, V.int 1, V.int 0, V.ref t2, V.int 2])) l = some (.lst [V.int 0, V.ref t1, V.int 1, V.int 0, V.ref t2, V.int 2]) := upd_same
        have th6 := (th4.same s1).same s2
        have hlt := (th6.ne nl).1
        generalize L2.upd H6 l (.lst [V.int 0, V.ref t1, V.int 1, V.int 0, V.ref t2, V.int 2]) = H7 at s3 h3 ⊢
        have s23 := s2.trans s3
        have s13 := s1.trans s23
        have nm : Nums H7 [V.int 0, V.ref t1, V.int 1, V.int 0, V.ref t2, V.int 2] [0, 1 / 2, 1, 0, 1 / 3, 2] :=
          .cons (Num.int _ 0) (.cons (Num.pair (by decide +kernel) (by decide +kernel) (by decide +kernel) (s23 _ _ h1)) (.cons (Num.int _ 1) (.cons (Num.int _ 0) (.cons (Num.pair (by decide +kernel) (by decide +kernel) (by decide +kernel) (s3 _ _ h2)) (.cons (Num.int _ 2) .nil)))))
        refine ⟨t, c, b + i * (g + 1) + j, .ref l, true, _, rfl, th6.same s3, by omega, SqK.lst h3, fun z => hlt (by injection z), by simp, by simp, fun H8 r x sb8 th8 hx => ?_⟩
        have hD8 := sb8 _ _ hDt (s13 _ _ hDa)
        obtain ⟨q, hq, hxq⟩ := paired_get nm hx
        have sn8 := (th6.same s3).n sb8
        have hne : SameN H8 (L2.upd H8 D (.lst (acc ++ [x]))) := SameN.lst hD8
        have hqm := mem_get hq
        refine hR _ _ hD8 ⟨((sb4.trans (SameB.of s13)).trans sb8).fresh hD, th8.put hDt hDc, qs ++ [q], paired_append (((hn.mono s13.n).mono sn8).mono hne) (.cons ((hxq.mono sn8).mono hne) .nil), by simp [hql], fun q' hq' => ?_⟩
        rcases List.mem_append.mp hq' with h | h
        · exact hqb q' h
        · rw [List.mem_singleton.mp h]
          exact ⟨nn_list (qs := [0, 1 / 2, 1, 0, 1 / 3, 2]) (by decide +kernel) q hqm, bd_list (qs := [0, 1 / 2, 1, 0, 1 / 3, 2]) (by decide +kernel) q hqm⟩
      · rintro D H4 acc hD hDa ⟨sb4, th4, qs, hn, hql, hqb⟩
        have hDt := (th'.ne hD).1
        have hDc := (th'.ne hD).2
        have hDF : D ≠ F := fun e => by rw [e, hF'] at hD; cases hD
        refine u_gname ?_
        dsimp only
        have hil : i < acc.length := by rw [hn.length, hql]; exact hi
        have hget : acc[i]? = some acc[i] := by simp
        obtain ⟨q0, hq0, hx0⟩ := paired_get hn hget
        refine u_seq (u_asg ?_)
        refine ⟨_, rfl, _, rfl, ixOf (i := i) (SqK.lst hDa) hget ?_⟩
        refine ⟨_, rfl, sz2, fun t1 n1 => ⟨(by show 5 ≤ sizeLine; decide), fun l nl => ?_⟩⟩
        have s1 := Same.of_new (o := .tup [V.int 3, V.int 2]) n1
        have h1 : (L2.upd H4 t1 (.tup [V.int 3, V.int 2])) t1 = some (.tup [V.int 3, V.int 2]) := upd_same
        generalize L2.upd H4 t1 (.tup [V.int 3, V.int 2]) = H5 at s1 h1 nl ⊢
        have s3 := Same.of_new (o := .lst [V.int 1, V.int 2, V.int 1, V.ref t1, V.int 0]) nl
        have h3 : (L2.upd H5 l (.lst [V.int 1, V.int 2, V.int 1, V.ref t1, V.int 0])) l = some (.lst [V.int 1, V.int 2, V.int 1, V.ref t1, V.int 0]) := upd_same
        have th5 := th4.same s1
        have hlt := (th5.ne nl).1
        generalize L2.upd H5 l (.lst [V.int 1, V.int 2, V.int 1, V.ref t1, V.int 0]) = H7 at s3 h3 ⊢
        have s13 := s1.trans s3
        have nm : Nums H7 [V.int 1, V.int 2, V.int 1, V.ref t1, V.int 0] [1, 2, 1, 3 / 2, 0] :=
          .cons (Num.int _ 1) (.cons (Num.int _ 2) (.cons (Num.int _ 1) (.cons (Num.pair (by decide +kernel) (by decide +kernel) (by decide +kernel) (s3 _ _ h1)) (.cons (Num.int _ 0) .nil))))
        refine ⟨t, c, b + i * (g + 1) + g, .ref l, true, _, rfl, th5.same s3, by omega, SqK.lst h3, fun z => hlt (by injection z), by simp, by simp, fun H8 r x sb8 th8 hx => ?_⟩
        obtain ⟨q, hq, hxq⟩ := paired_get nm hx
        have hqm := mem_get hq
        have sn8 := (th5.same s3).n sb8
        have b1 := hqb q0 (mem_get hq0)
        have b2 : 0 ≤ q ∧ Bd 6 12 q := ⟨nn_list (qs := [1, 2, 1, 3 / 2, 0]) (by decide +kernel) q hqm, bd_list (qs := [1, 2, 1, 3 / 2, 0]) (by decide +kernel) q hqm⟩
        refine ⟨_, _, q0, q, rfl, (hx0.mono s13.n).mono sn8, hxq.mono sn8, b1.2.sz (by decide) (by decide) (by decide), b2.2.sz (by decide) (by decide) (by decide), fun x9 H9 s9 hx9 => ?_⟩
        have hD9 := s9 _ _ (sb8 _ _ hDt (s13 _ _ hDa))
        refine ⟨_, rfl, _, rfl, D, _, (i : Int), i, rfl, rfl, hD9, ixNn hil, ?_⟩
        dsimp only
        have hn9 : Nums H9 (acc.set i x9) (qs.set i (q0 + q)) := paired_set (((hn.mono s13.n).mono sn8).mono s9.n) i hx9
        have th9 := th8.same s9
        have snD : SameN H9 (L2.upd H9 D (.lst (acc.set i x9))) := SameN.lst hD9
        have hnA := hn9.mono snD
        have thA := th9.put (o := .lst (acc.set i x9)) hDt hDc
        have sbA : SameB t H' (L2.upd H9 D (.lst (acc.set i x9))) := (((sb4.trans (SameB.of s13)).trans sb8).trans (SameB.of s9)).fresh hD
        have hDA : (L2.upd H9 D (.lst (acc.set i x9))) D = some (.lst (acc.set i x9)) := upd_same
        generalize L2.upd H9 D (.lst (acc.set i x9)) = HA at hnA thA sbA hDA ⊢
        have hFA := sbA _ _ nFt hF'
        refine ⟨_, rfl, .inl ⟨rfl, _, SqL.of hFA⟩, _, rfl, D, _, rfl, .inl ⟨SqL.of hDA, fun p np => ?_⟩⟩
        have sp := Same.of_new (o := .tup (acc.set i x9)) np
        have hFp := sp _ _ hFA
        have hpp : (L2.upd HA p (.tup (acc.set i x9))) p = some (.tup (acc.set i x9)) := upd_same
        have thp := thA.same sp
        generalize L2.upd HA p (.tup (acc.set i x9)) = HB at sp hFp hpp thp ⊢
        have hzl : zs.length = i := by rw [hr'.length, hml]
        refine ⟨F, zs, _, rfl, rfl, hFp, Nat.lt_of_le_of_lt (by omega : zs.length ≤ 3) (by decide), ?_⟩
        have snF : SameN HB (L2.upd HB F (.lst (zs ++ [V.ref p]))) := SameN.lst hFp
        have snAll : SameN H' (L2.upd HB F (.lst (zs ++ [V.ref p]))) := ((th'.n sbA).trans sp.n).trans snF
        refine ⟨_, _, _, zs ++ [V.ref p], m ++ [qs.set i (q0 + q)], rfl, fun a u h1 h2 h3 => ?_, upd_same, ?_, ?_, by simp [hml], fun r hr => ?_⟩
        · rw [upd_ne h2]
          exact sp _ _ (sbA _ _ h1 (sH a u h1 h2 h3))
        · refine (thp.put nFt nFc).mono ?_
          rw [Nat.add_mul i 1]; omega
        · exact paired_append (RowsAt.n hr' snAll) (.cons ⟨_, (SqK.tup hpp).n snF, (hnA.mono sp.n).mono snF⟩ .nil)
        · rcases List.mem_append.mp hr with h | h
          · exact hm r h
          · rw [List.mem_singleton.mp h]
            refine ⟨by rw [List.length_set]; exact hql, fun q' hq' => ?_⟩
            rcases List.mem_or_eq_of_mem_set hq' with h | rfl
            · exact ⟨(hqb q' h).1, (hqb q' h).2.mono (by decide)⟩
            · exact ⟨Rat.add_nonneg b1.1 b2.1, b1.2.add b2.2⟩
    · rintro σ' H' ⟨y3, y4, y5, zs, m, rfl, sH, hF', th', hr', hml, hm⟩
      dsimp only
      refine u_ret ⟨_, rfl, k H' F zs m (fun a u h1 h2 => ?_) (th'.mono ?_) hF' nFt hr' ⟨hml, hm⟩⟩
      · exact sH a u h1 (ne_of_none h2 nF) (sbF a u h1 h2)
      · have : g * (g + 1) ≤ 3 * 4 := Nat.mul_le_mul hg (by omega)
        omega
end
end Hp
namespace Hp
set_option Elab.async false
set_option linter.all false
set_option maxRecDepth 100000
set_option maxHeartbeats 4000000
open PySem PySem.Spec PyProof.Rows L2 NdefX
theorem RowAt.b {H : Hp} {v : V} {r : List Rat} (h : RowAt H v r) : RowB H v r := let ⟨xs, h1, h2⟩ := h; ⟨false, xs, h1, h2⟩
section
variable {P : Program} {w : World} {K : PySem.W.Frag} {mg : Str → Option Value} {base : Heap}
def sp_law_corner  : Sp :=  fun vs H Q _ => ∃ t c b g, vs = [.ref t, .int ((g : Nat) : Int)] ∧ ThAt H t c b ∧ b < 999000 ∧ 1 ≤ g ∧ g ≤ 3 ∧ ∀ H' D zs m, SameB t H H' → ThAt H' t c (b + 12) → H' D = some (.lst zs) → D ≠ t → RowsAt H' zs m → CorOk g m → Q (.ref D) H'
theorem sc_law_corner : FnScope ["_law_thief_here", "_law_goods", "_law_rows_here", "_law_plain", "_law_at", "_law_good"] ["_law_thief_here", "_law_goods"] (defScope s_law_corner) := ⟨rfl, rfl, rfl, by decide +kernel, rfl, by decide +kernel, by decide +kernel⟩
theorem c_law_corner (T : Wd K mg base) : Cal P w K mg base 10 "_law_corner" sp_law_corner [] := by
  obtain ⟨fd, F⟩ := T.d_law_corner
  refine mkCal (k := 10 - 1) F T.g_law_corner sc_law_corner (F.bindsN fun _ _ _ _ _ _ us hl => match us, hl with | [_, _], _ => rfl) (fun vs H Q E h => ?_) (fun cdv A outer s H vs Q E hr h => ?_)
  · rcases h with ⟨t, c, b, g, rfl, th, hb, hg1, hg, k⟩ <;> rfl
  · rcases h with ⟨t, c, b, g, rfl, th, hb, hg1, hg, k⟩
    refine ⟨_, (pss_cons (ps_set (i := 2) sc_law_corner.nd rfl (Or.inl rfl) (pe_c (c_law_rows T) hr (by decide) rfl (pa_cons (pv 0) (pa_cons (pv 1) pa_nil))))
  (pss_cons (ps_setLc (i := 3) (own := [("_law_at", 4)]) rfl sc_law_corner.nd rfl rfl (sw_true rfl rfl rfl (by decide +kernel)) (pi_range1 rfl T.f_range (pa_cons (pv 1) pa_nil)) (blkOk_by (own := [("_law_at", 4)]) (N := ["_law_thief_here", "_law_goods", "_law_rows_here", "_law_plain", "_law_at", "_law_good"]) (sc := defScope s_law_corner) (by decide +kernel)) (fun _ _ _ _ _ => by exact (pg_name (i := 4) sc_law_corner.nd rfl (by first | exact Or.inl rfl | exact Or.inr rfl))) (fun _ _ _ _ _ => by exact pts_nil) (fun _ _ _ _ _ => by exact (pe_callTy (tupofK (K := K) rfl) (by rfl) T.f_tuple (by decide +kernel) (pa_cons (pe_lc (own := [("_law_good", 5)]) rfl sc_law_corner.nd (pi_range1 rfl T.f_range (pa_cons (pv 1) pa_nil)) (blkOk_by (own := [("_law_good", 5)]) (by kernel_rfl)) (fun _ _ _ _ _ => by exact (pg_name (i := 5) sc_law_corner.nd rfl (by first | exact Or.inl rfl | exact Or.inr rfl))) (fun _ _ _ _ _ => by exact pts_nil) (fun _ _ _ _ _ => by exact (pe_op op_mulW (pe_callTy call_int1 (by rfl) T.f_int (by decide +kernel) (pa_cons (pe_cmpR op_eq (pv 4) (pv 5) (nomark _)) pa_nil)) (pe_op op_add pe_int (pv 4))))) pa_nil))))
  (pss_one (ps_ret (pe_ifExp (pt_val (pe_c (c_law_is_corner T) hr (by decide) rfl (pa_cons (pv 2) pa_nil))) (pv 2) (pv 3)))))), ?_⟩
    refine u_seq (u_asg ⟨_, rfl, _, rfl, t, c, b, g, rfl, th, hb, hg1, hg, fun H1 D zs m sb1 th1 hD hDt hr hm => u_gname ?_⟩)
    dsimp only
    refine u_seq (u_asg ?_)
    refine lc_rng1 (H1 := H1) (n := g) (gives_var rfl) (by omega) (fun F i H' z => RowAt H' z ((List.range g).map fun j => if i = j then (((1 + i : Nat) : Int) : Rat) else 0)) (fun F i H1 H2 z c h => h.n c.n) ?_ ?_ (fun _ => rfl)
    · intro F i H2 R hi hF s2 hFn hR
      refine u_cb1 ?_
      refine lc_rng1 (H1 := H2) (n := g) (gives_var rfl) (by omega) (fun G j H' z => Num H' z (if i = j then (((1 + i : Nat) : Int) : Rat) else 0)) (fun F i H1 H2 z c h => h.mono c.n) ?_ ?_ (fun _ => rfl)
      · intro G j H3 R2 hj hG s3 hGn hR2
        refine ⟨_, rfl, _, rfl, rfl, .inr ⟨_, rfl, _, rfl, _, _, rfl, rfl, _, _, rfl, rfl, cmw ?_ (by omega), hR2 _ _ (Same.refl _) ?_⟩⟩
        · split <;> decide
        · by_cases e : i = j
          · subst e
            rw [if_pos rfl, if_pos (decide_eq_true rfl)]
            dsimp only
            rw [Int.one_mul]
            exact Num.int _ _
          · rw [if_neg e, if_neg (by
              rw [decide_eq_true_eq]
              intro z
              injection z with z
              omega)]
            dsimp only
            rw [Int.zero_mul]
            exact Num.int _ 0
      · intro G H3 ys hG s3 hGy hl hF3
        refine ⟨_, ys, rfl, .inl ⟨SqL.of hGy, fun p np => hR _ _ (s3.trans (Same.of_new np)) ⟨ys, SqK.tup upd_same, paired_of (by simp [hl]) fun j z q hz hq => ?_⟩⟩⟩
        rw [List.getElem?_map] at hq
        obtain ⟨j', hj', rfl⟩ := Option.map_eq_some_iff.mp hq
        have e : j' = j := by
          have := List.getElem?_eq_some_iff.mp hj'
          simpa using this.2.symm
        subst e
        exact (hF3 _ z hz).mono (Same.of_new np).n
    · intro F H2 ys hF s2 hFy hl hF2
      refine u_gname ?_
      dsimp only
      have sH := s2
      refine u_ret ⟨_, rfl, .ref D, zs, m, g, rfl, SqK.lst (s2 _ _ hD), Paired.mapP (RowsAt.n hr s2.n) fun _ _ q => q.b, hm, hg1, hg, fun bb H3 s3 hc => ⟨_, rfl, u_if (fun h => ?_) (fun h => ?_)⟩⟩
      · have s23 := s2.trans s3
        exact ⟨_, rfl, k H3 D zs m (sb1.trans (SameB.of s23)) (th1.same s23) (s23 _ _ hD) hDt (RowsAt.n hr s23.n) (hc h)⟩
      · have s23 := s2.trans s3
        refine ⟨_, rfl, k H3 F ys (plainR g) (sb1.trans (SameB.of s23)) (th1.same s23) (s3 _ _ hFy) (th1.ne hF).1 ?_ (plainR_ok hg1 hg)⟩
        refine paired_of (by simp [hl, plainR]) fun i z r hz hr3 => ?_
        unfold plainR at hr3
        rw [List.getElem?_map] at hr3
        obtain ⟨i', hi', rfl⟩ := Option.map_eq_some_iff.mp hr3
        have e : i' = i := by
          have := List.getElem?_eq_some_iff.mp hi'
          simpa using this.2.symm
        subst e
        exact (hF2 _ z hz).n s3.n
end
end Hp
namespace Hp
set_option Elab.async false
set_option linter.all false
set_option maxRecDepth 100000
set_option maxHeartbeats 4000000
open PySem PySem.Spec PyProof.Rows L2 NdefX
/-- at v: the law's own promise p, as it is told -/
def OwnAt (g : Nat) : Nat → Hp → V → Pr → Prop
  | 0, _, _, _ => False
  | n + 1, H, v, p => match p with
    | .hold i => SqK false H v [.str "hold", .int ((g : Nat) : Int), .int ((i : Nat) : Int)]
    | .mix m => ∃ vm, SqK false H v [.str "mix", vm] ∧ RowAt H vm m
    | .walk ms as ws => ∃ vm va vw xm xa, SqK false H v [.str "walk", vm, va, vw] ∧ SqK false H vm xm ∧ RowsAt H xm ms ∧ SqK false H va xa ∧ Paired (ArAt H) xa as ∧ RowAt H vw ws ∧ as.Nodup
    | .times q p => ∃ vq vp, SqK false H v [.str "times", vq, vp] ∧ Num H vq q ∧ OwnAt g n H vp p
    | .thn d a b => ∃ va vb, SqK false H v [.str "then", .int ((d : Nat) : Int), va, vb] ∧ OwnAt g n H va a ∧ OwnAt g n H vb b
    | .sum l => ∃ vp xs, SqK false H v [.str "sum", vp] ∧ SqK false H vp xs ∧ Paired (OwnAt g n H) xs l
    | .gre l => ∃ vp xs, SqK false H v [.str "greatest", vp] ∧ SqK false H vp xs ∧ Paired (OwnAt g n H) xs l
theorem OwnAt.n {g : Nat} {H H' : Hp} (e : SameN H H') : ∀ {n : Nat} {v : V} {p : Pr}, OwnAt g n H v p → OwnAt g n H' v p
  | 0, _, _, h => h
  | n + 1, v, p, h => by
    cases p with
    | hold i => exact SqK.n h e
    | mix m =>
      obtain ⟨vm, h1, h2⟩ := h
      exact ⟨vm, h1.n e, h2.n e⟩
    | walk ms as ws =>
      obtain ⟨vm, va, vw, xm, xa, h1, h2, h3, h4, h5, h6, h7⟩ := h
      exact ⟨vm, va, vw, xm, xa, h1.n e, h2.n e, RowsAt.n h3 e, h4.n e, ArsAt.n h5 e, h6.n e, h7⟩
    | times q p =>
      obtain ⟨vq, vp, h1, h2, h3⟩ := h
      exact ⟨vq, vp, h1.n e, h2.mono e, h3.n e⟩
    | thn d a b =>
      obtain ⟨va, vb, h1, h2, h3⟩ := h
      exact ⟨va, vb, h1.n e, h2.n e, h3.n e⟩
    | sum l =>
      obtain ⟨vp, xs, h1, h2, h3⟩ := h
      exact ⟨vp, xs, h1.n e, h2.n e, Paired.mapP h3 fun _ _ q => OwnAt.n e q⟩
    | gre l =>
      obtain ⟨vp, xs, h1, h2, h3⟩ := h
      exact ⟨vp, xs, h1.n e, h2.n e, Paired.mapP h3 fun _ _ q => OwnAt.n e q⟩
/-- arrows that are drawn so far -/
structure AI (i many : Nat) (as : List (Nat × Nat)) : Prop where
  nd : as.Nodup
  lt : ∀ p ∈ as, p.1 < i ∧ p.2 < many
  all : ∀ j, j < i → ∃ k, (j, k) ∈ as
  len : as.length ≤ 3 * i
theorem AI.zero (many : Nat) : AI 0 many [] := ⟨List.nodup_nil, fun p hp => by simp at hp, fun j hj => by omega, by simp⟩
theorem AI.step {i many : Nat} {as : List (Nat × Nat)} {ns : List Nat} (h : AI i many as) (hne : ns ≠ []) (hnd : ns.Nodup) (hlt : ∀ j ∈ ns, j < many) (hl : ns.length ≤ 3) : AI (i + 1) many (as ++ ns.map fun j => (i, j)) := by
  refine ⟨?_, fun p hp => ?_, fun j hj => ?_, ?_⟩
  · rw [List.nodup_append]
    refine ⟨h.nd, ?_, fun a ha b hb e => ?_⟩
    · unfold List.Nodup
      rw [List.pairwise_map]
      exact List.Pairwise.imp (fun hab e => hab (by injection e)) hnd
    · subst e
      obtain ⟨j, _, rfl⟩ := List.mem_map.mp hb
      have := (h.lt _ ha).1
      simp at this
  · rcases List.mem_append.mp hp with h1 | h1
    · have := h.lt p h1; omega
    · obtain ⟨j, hj, rfl⟩ := List.mem_map.mp h1
      exact ⟨by simp, hlt j hj⟩
  · by_cases e : j < i
    · obtain ⟨k, hk⟩ := h.all j e
      exact ⟨k, List.mem_append_left _ hk⟩
    · have : j = i := by omega
      subst this
      obtain ⟨k, hk⟩ := List.exists_mem_of_ne_nil ns hne
      exact ⟨k, List.mem_append_right _ (List.mem_map.mpr ⟨k, hk, rfl⟩)⟩
  · rw [List.length_append, List.length_map]
    have := h.len
    omega
end Hp
namespace Hp
set_option Elab.async false
set_option linter.all false
set_option maxRecDepth 100000
set_option maxHeartbeats 4000000
open PySem PySem.Spec PyProof.Rows L2 NdefX
section
variable {P : Program} {w : World} {K : PySem.W.Frag} {mg : Str → Option Value} {base : Heap}
theorem u_par {σ : L2.St} {H : Hp} {D : Ends} {i j : Nat} {ta : TA} (h : ta σ H fun vs H1 => ∃ v w, vs = [v, w] ∧ D.nx ((σ.set i (some v)).set j (some w)) H1) : tPar i j ta D σ H := h
abbrev iV : Nat → V := fun n => V.int ((n : Nat) : Int)
theorem Dq.ints {K : PySem.W.Frag} {H : Hp} (ns : List Nat) : ∀ x ∈ ns.map iV, Dq K H 1 x := fun x hx => by
  obtain ⟨j, _, rfl⟩ := List.mem_map.mp hx
  exact Dq.int 1 _
def sp_law_leaf  : Sp :=  fun vs H Q _ => ∃ t c b g, vs = [.ref t, .int ((g : Nat) : Int), .bl false] ∧ ThAt H t c b ∧ b < 998000 ∧ 1 ≤ g ∧ g ≤ 3 ∧ ∀ H' v p, SameB t H H' → ThAt H' t c (b + 40) → (∀ n, OwnAt g (n + 1) H' v p ∧ PrOk g (n + 1) p) → v ≠ .ref t → Q v H'
theorem sc_law_leaf : FnScope ["_law_thief_here", "_law_goods", "_law_with_best", "_law_way", "_law_many", "_law_mixes", "_law_arrows", "_law_one", "_law_led", "_law_other", "_law_turn", "_law_good"] ["_law_thief_here", "_law_goods", "_law_with_best"] (defScope s_law_leaf) := ⟨rfl, rfl, rfl, by decide +kernel, rfl, by decide +kernel, by decide +kernel⟩
theorem c_law_leaf (T : Wd K mg base) : Cal P w K mg base 7 "_law_leaf" sp_law_leaf [] := by
  obtain ⟨fd, F⟩ := T.d_law_leaf
  refine mkCal (k := 7 - 1) F T.g_law_leaf sc_law_leaf (F.bindsN fun _ _ _ _ _ _ us hl => match us, hl with | [_, _, _], _ => rfl) (fun vs H Q E h => ?_) (fun cdv A outer s H vs Q E hr h => ?_)
  · rcases h with ⟨t, c, b, g, rfl, th, hb, hg1, hg, k⟩ <;> rfl
  · rcases h with ⟨t, c, b, g, rfl, th, hb, hg1, hg, k⟩
    refine ⟨_, (pss_cons (ps_set (i := 3) sc_law_leaf.nd rfl (Or.inl rfl) (pe_c (c_law_prowl T) hr (by decide) rfl (pa_cons (pv 0) (pa_cons (pe_ifExp (pt_val (pv 2)) pe_int pe_int) pa_nil))))
  (pss_cons (ps_if (pt_cmpR op_lt (pv 3) pe_int (nomark _)) (pss_one (ps_ret (pe_tup (pa_cons pe_str (pa_cons (pv 1) (pa_cons (pe_c (c_law_prowl T) hr (by decide) rfl (pa_cons (pv 0) (pa_cons (pv 1) pa_nil))) pa_nil)))))) pss_nil)
  (pss_cons (ps_if (pt_cmpR op_lt (pv 3) pe_int (nomark _)) (pss_one (ps_ret (pe_tup (pa_cons pe_str (pa_cons (pe_c (c_law_mix T) hr (by decide) rfl (pa_cons (pv 0) (pa_cons (pv 1) pa_nil))) pa_nil))))) pss_nil)
  (pss_cons (ps_if (pt_cmpR op_gt (pv 3) pe_int (nomark _)) (pss_one (ps_ret (pe_tup (pa_cons pe_str (pa_cons (pv 1) (pa_cons (pe_callTy call_tuple_of (by rfl) T.f_tuple (by decide +kernel) (pa_cons (pe_lc (own := [("_law_good", 11)]) rfl sc_law_leaf.nd (pi_range1 rfl T.f_range (pa_cons (pv 1) pa_nil)) (blkOk_by (own := [("_law_good", 11)]) (N := ["_law_thief_here", "_law_goods", "_law_with_best", "_law_way", "_law_many", "_law_mixes", "_law_arrows", "_law_one", "_law_led", "_law_other", "_law_turn", "_law_good"]) (sc := defScope s_law_leaf) (by decide +kernel)) (fun _ _ _ _ _ => by exact (pg_name (i := 11) sc_law_leaf.nd rfl (by first | exact Or.inl rfl | exact Or.inr rfl))) (fun _ _ _ _ _ => by exact pts_nil) (fun _ _ _ _ _ => by exact (pe_c (c_law_one_of T) hr (by decide) rfl (pa_cons (pv 0) (pa_cons (pe_lst (pa_cons pe_int (pa_cons pe_int (pa_cons pe_int (pa_cons pe_int pa_nil))))) pa_nil))))) pa_nil)) pa_nil)))))) pss_nil)
  (pss_cons (ps_set (i := 4) sc_law_leaf.nd rfl (Or.inl rfl) (pe_op op_add pe_int (pe_c (c_law_prowl T) hr (by decide) rfl (pa_cons (pv 0) (pa_cons pe_int pa_nil)))))
  (pss_cons (ps_par (i := 5) (j := 6) rfl sc_law_leaf.nd rfl rfl (by decide) rfl rfl (pa_cons (pe_callTy call_tuple_of (by rfl) T.f_tuple (by decide +kernel) (pa_cons (pe_lc (own := [("_law_turn", 10)]) rfl sc_law_leaf.nd (pi_range1 rfl T.f_range (pa_cons (pv 4) pa_nil)) (blkOk_by (own := [("_law_turn", 10)]) (N := ["_law_thief_here", "_law_goods", "_law_with_best", "_law_way", "_law_many", "_law_mixes", "_law_arrows", "_law_one", "_law_led", "_law_other", "_law_turn", "_law_good"]) (sc := defScope s_law_leaf) (by decide +kernel)) (fun _ _ _ _ _ => by exact (pg_name (i := 10) sc_law_leaf.nd rfl (by first | exact Or.inl rfl | exact Or.inr rfl))) (fun _ _ _ _ _ => by exact pts_nil) (fun _ _ _ _ _ => by exact (pe_c (c_law_mix T) hr (by decide) rfl (pa_cons (pv 0) (pa_cons (pv 1) pa_nil))))) pa_nil)) (pa_cons (pe_lst pa_nil) pa_nil)) (by rfl))
  (pss_cons (ps_for PassesOwn.never rfl (pi_range1 rfl T.f_range (pa_cons (pv 4) pa_nil)) (pg_name (i := 7) sc_law_leaf.nd rfl (Or.inr rfl))
  (pss_cons (ps_setLc (i := 8) (own := [("_law_other", 9)]) rfl sc_law_leaf.nd rfl rfl (sw_true rfl rfl rfl (by decide +kernel)) (pi_range1 rfl T.f_range (pa_cons (pv 4) pa_nil)) (blkOk_by (own := [("_law_other", 9)]) (N := ["_law_thief_here", "_law_goods", "_law_with_best", "_law_way", "_law_many", "_law_mixes", "_law_arrows", "_law_one", "_law_led", "_law_other", "_law_turn", "_law_good"]) (sc := defScope s_law_leaf) (by decide +kernel)) (fun _ _ _ _ _ => by exact (pg_name (i := 9) sc_law_leaf.nd rfl (by first | exact Or.inl rfl | exact Or.inr rfl))) (fun _ _ _ _ _ => by exact (pts_one (pt_cmpR op_eq (pe_c (c_law_prowl T) hr (by decide) rfl (pa_cons (pv 0) (pa_cons pe_int pa_nil))) pe_int (nomark _)))) (fun _ _ _ _ _ => by exact (pv 9)))
  (pss_one (ps_expr (pe_bm PySem.F.plainAttrs_list PySem.F.slot_list_extend PySem.F.type_list_extend mt_extend (pv 6) (pa_cons (pe_lc (own := [("_law_other", 9)]) rfl sc_law_leaf.nd (pi_seq (pe_ifExp (pt_cmpR (op_neD (u64 hr)) (pv 8) (pe_lst pa_nil) (nomark _)) (pv 8) (pe_lst (pa_cons (pe_c (c_law_prowl T) hr (by decide) rfl (pa_cons (pv 0) (pa_cons (pv 4) pa_nil))) pa_nil)))) (blkOk_by (own := [("_law_other", 9)]) (N := ["_law_thief_here", "_law_goods", "_law_with_best", "_law_way", "_law_many", "_law_mixes", "_law_arrows", "_law_one", "_law_led", "_law_other", "_law_turn", "_law_good"]) (sc := defScope s_law_leaf) (by decide +kernel)) (fun _ _ _ _ _ => by exact (pg_name (i := 9) sc_law_leaf.nd rfl (by first | exact Or.inl rfl | exact Or.inr rfl))) (fun _ _ _ _ _ => by exact pts_nil) (fun _ _ _ _ _ => by exact (pe_tup (pa_cons (pv 7) (pa_cons (pv 9) pa_nil))))) pa_nil))))))
  (pss_one (ps_ret (pe_tup (pa_cons pe_str (pa_cons (pv 5) (pa_cons (pe_callTy call_tuple_of (by rfl) T.f_tuple (by decide +kernel) (pa_cons (pv 6) pa_nil)) (pa_cons (pe_callTy call_tuple_of (by rfl) T.f_tuple (by decide +kernel) (pa_cons (pe_lc (own := [("_law_turn", 10)]) rfl sc_law_leaf.nd (pi_range1 rfl T.f_range (pa_cons (pv 4) pa_nil)) (blkOk_by (own := [("_law_turn", 10)]) (N := ["_law_thief_here", "_law_goods", "_law_with_best", "_law_way", "_law_many", "_law_mixes", "_law_arrows", "_law_one", "_law_led", "_law_other", "_law_turn", "_law_good"]) (sc := defScope s_law_leaf) (by decide +kernel)) (fun _ _ _ _ _ => by exact (pg_name (i := 10) sc_law_leaf.nd rfl (by first | exact Or.inl rfl | exact Or.inr rfl))) (fun _ _ _ _ _ => by exact pts_nil) (fun _ _ _ _ _ => by exact (pe_c (c_law_one_of T) hr (by decide) rfl (pa_cons (pv 0) (pa_cons (pe_lst (pa_cons pe_int (pa_cons pe_int (pa_cons (pe_tup (pa_cons pe_int (pa_cons pe_int pa_nil))) (pa_cons pe_int pa_nil))))) pa_nil))))) pa_nil)) pa_nil)))))))))))))), ?_⟩
    refine u_seq (u_asg ⟨_, rfl, _, rfl, _, rfl, iteF ⟨t, c, b, 4, rfl, th, by omega, by decide, by decide, fun H1 way sb1 th1 hway => u_gname ?_⟩⟩)
    dsimp only
    refine u_seq (u_ifT (u_op ⟨_, rfl, _, _, rfl, rfl, _, rfl, u_if (fun h => ?_) (fun h => ?_)⟩))
    · refine u_ret ⟨_, rfl, _, rfl, _, rfl, t, c, b + 1, g, rfl, th1, by omega, by omega, by omega, fun H2 r sb2 th2 hr => ⟨(by show 3 ≤ sizeLine; decide), fun p np => ?_⟩⟩
      have s3 := Same.of_new (o := .tup [V.str "hold", V.int (g : Int), V.int (r : Int)]) np
      exact k _ _ (.hold r) ((sb1.trans sb2).trans (SameB.of s3)) ((th2.same s3).mono (by omega)) (fun n => ⟨SqK.tup upd_same, hr⟩) (fun z => (th2.ne np).1 (by injection z))
    refine u_next ?_
    dsimp only
    refine u_seq (u_ifT (u_op ⟨_, rfl, _, _, rfl, rfl, _, rfl, u_if (fun h2 => ?_) (fun h2 => ?_)⟩))
    · refine u_ret ⟨_, rfl, _, rfl, t, c, b + 1, g, rfl, th1, by omega, hg1, hg, fun H2 pm m sb2 th2 hm hmb => ⟨(by show 2 ≤ sizeLine; decide), fun p np => ?_⟩⟩
      have s3 := Same.of_new (o := .tup [V.str "mix", V.ref pm]) np
      exact k _ _ (.mix m) ((sb1.trans sb2).trans (SameB.of s3)) ((th2.same s3).mono (by omega)) (fun n => ⟨⟨_, SqK.tup upd_same, hm.n s3.n⟩, hmb⟩) (fun z => (th2.ne np).1 (by injection z))
    refine u_next ?_
    dsimp only
    refine u_seq (u_ifT (u_op ⟨_, rfl, _, _, rfl, rfl, _, rfl, u_if (fun h3 => ?_) (fun h3 => ?_)⟩))
    · exfalso
      have := of_decide_eq_true h3
      omega
    refine u_next ?_
    dsimp only
    clear h h2 h3
    refine u_seq (u_asg ⟨_, rfl, t, c, b + 1, 3, rfl, th1, by omega, by decide, by decide, fun H2 r sb2 th2 hr => ⟨_, _, rfl, rfl, u_gname ?_⟩⟩)
    dsimp only
    have hmy : (1 : Int) + (r : Int) = ((r + 1 : Nat) : Int) := by omega
    rw [hmy]
    have hy1 : 1 ≤ r + 1 := by omega
    have hy3 : r + 1 ≤ 3 := by omega
    generalize r + 1 = many at hy1 hy3 ⊢
    clear hmy hr
    have sb12 := sb1.trans sb2
    refine u_seq (u_par (u_cons (u_cb1 ?_)))
    refine lcg_rng1 (H1 := H2) (n := many) (gives_var rfl) (by omega) (fun D j H4 acc => SameB t H2 H4 ∧ ThAt H4 t c (b + 2 + j * 4) ∧ ∃ ms, RowsAt H4 acc ms ∧ ms.length = j ∧ ∀ m ∈ ms, MixB g m) ?_ ?_ ?_ (fun _ => rfl)
    · intro D hD
      have s1 := Same.of_new (o := .lst []) hD
      exact ⟨SameB.of s1, th2.same s1, [], .nil, rfl, fun m hm => by simp at hm⟩
    · rintro D j H4 acc R Z hj hD hl hDa ⟨sb4, th4, ms, hms, hml, hmb⟩ hR _
      have hDt := (th2.ne hD).1
      have hDc := (th2.ne hD).2
      refine yesG ?_
      refine ⟨_, rfl, _, rfl, t, c, b + 2 + j * 4, g, rfl, th4, by omega, hg1, hg, fun H5 p m sb5 th5 hm hmk => ?_⟩
      have hD5 := sb5 _ _ hDt hDa
      have sn5 := th4.n sb5
      have hne : SameN H5 (L2.upd H5 D (.lst (acc ++ [V.ref p]))) := SameN.lst hD5
      refine hR _ _ hD5 ⟨(sb4.trans sb5).fresh hD, (th5.put hDt hDc).mono (by omega), ms ++ [m], paired_append (RowsAt.n (RowsAt.n hms sn5) hne) (.cons (hm.n hne) .nil), by simp [hml], fun m' hm' => ?_⟩
      rcases List.mem_append.mp hm' with h | h
      · exact hmb m' h
      · rw [List.mem_singleton.mp h]; exact hmk
    rintro D H4 xm hD hDa ⟨sb4, th4, ms, hms, hml, hmb⟩
    refine ⟨D, xm, rfl, .inl ⟨SqL.of hDa, fun pm npm => ?_⟩⟩
    have s5 := Same.of_new (o := .tup xm) npm
    have hpm : (L2.upd H4 pm (.tup xm)) pm = some (.tup xm) := upd_same
    have hms5 := RowsAt.n hms s5.n
    have th5 := th4.same s5
    have sb5 : SameB t H (L2.upd H4 pm (.tup xm)) := (sb12.trans sb4).trans (SameB.of s5)
    generalize L2.upd H4 pm (.tup xm) = H5 at hpm hms5 th5 sb5 ⊢
    refine u_cons ⟨(by show 0 ≤ sizeLine; decide), fun F nF => ⟨_, _, rfl, ?_⟩⟩
    have s6 := Same.of_new (o := .lst []) nF
    have hF : (L2.upd H5 F (.lst [])) F = some (.lst []) := upd_same
    have hpm6 := s6 _ _ hpm
    have hms6 := RowsAt.n hms5 s6.n
    have th6 := th5.same s6
    have sb6 := sb5.trans (SameB.of s6)
    have nFt := (th5.ne nF).1
    have nFc := (th5.ne nF).2
    generalize L2.upd H5 F (.lst []) = H6 at hF hpm6 hms6 th6 sb6 ⊢
    clear hms5 th5 hpm hms th4
    dsimp only
    refine u_seq ?_
    refine for_rng1 (H1 := H6) (n := many) (gives_var rfl) (by omega) (fun i σ' H' => ∃ y7 y8 zs as, σ' = [some (.ref t), some (.int (g : Int)), some (.bl false), some (.int (way : Int)), some (.int (many : Int)), some (.ref pm), some (.ref F), y7, y8, none, none, none] ∧ (∀ a u, a ≠ t → a ≠ F → H6 a = some u → H' a = some u) ∧ SameN H6 H' ∧ H' F = some (.lst zs) ∧ ThAt H' t c (b + 14 + i * 4) ∧ Paired (ArAt H') zs as ∧ AI i many as) ?_ ?_ ?_
    · exact ⟨_, _, [], [], rfl, fun a u _ _ h => h, SameN.refl _, hF, th6.mono (by omega), .nil, AI.zero many⟩
    · rintro i σ' H' hi ⟨y7, y8, zs, as, rfl, sH, sN, hF', th', har, hai⟩
      refine u_seq (u_asg ?_)
      refine lcg_rng1 (H1 := H') (n := many) (gives_var rfl) (by omega) (fun D j H4 acc => SameB t H' H4 ∧ ThAt H4 t c (b + 14 + i * 4 + j) ∧ ∃ ns : List Nat, acc = ns.map iV ∧ ns.length ≤ j ∧ ns.Nodup ∧ ∀ n ∈ ns, n < j) ?_ ?_ ?_ (fun _ => rfl)
      · intro D hD
        have s1 := Same.of_new (o := .lst []) hD
        exact ⟨SameB.of s1, th'.same s1, [], rfl, by simp, List.nodup_nil, fun n hn => by simp at hn⟩
      · rintro D j H4 acc R Z hj hD hl hDa ⟨sb4, th4, ns, rfl, hnl, hnd, hnlt⟩ hR hZ
        have hDt := (th'.ne hD).1
        have hDc := (th'.ne hD).2
        refine ⟨_, rfl, t, c, _, 2, rfl, th4, by omega, by decide, by decide, fun H7 r7 sb7 th7 hr7 => ?_⟩
        have hD7 := sb7 _ _ hDt hDa
        refine ⟨rfl, _, rfl, u_if (fun h => ?_) (fun h => ?_)⟩
        · refine ⟨_, rfl, hR _ _ hD7 ⟨(sb4.trans sb7).fresh hD, (th7.put hDt hDc).mono (by omega), ns ++ [j], by rw [List.map_append]; rfl, by simp; omega, ?_, fun n hn => ?_⟩⟩
          · rw [List.nodup_append]
            refine ⟨hnd, List.nodup_cons.mpr ⟨by simp, List.nodup_nil⟩, fun a ha b hb e => ?_⟩
            rw [List.mem_singleton.mp hb] at e
            have := hnlt a ha
            omega
          · rcases List.mem_append.mp hn with h | h
            · have := hnlt n h; omega
            · rw [List.mem_singleton.mp h]; omega
        · exact hZ _ hD7 ⟨sb4.trans sb7, th7.mono (by omega), ns, rfl, by omega, hnd, fun n hn => by have := hnlt n hn; omega⟩
      · rintro D H4 acc hD hDa ⟨sb4, th4, ns, rfl, hnl, hnd, hnlt⟩
        have hDF : D ≠ F := fun e => by rw [e, hF'] at hD; cases hD
        refine u_gname ?_
        dsimp only
        have hF4 := sb4 _ _ nFt hF'
        refine ⟨_, rfl, .inl ⟨rfl, _, SqL.of hF4⟩, u_cons ?_⟩
        refine lcg_seqG (b := true) (fun v' H3 ys => SameB t H4 H3 ∧ ThAt H3 t c (b + 14 + i * 4 + 4) ∧ SqK true H3 v' ys ∧ v' ≠ .ref t ∧ ∃ ns : List Nat, ys = ns.map iV ∧ ns ≠ [] ∧ ns.Nodup ∧ (∀ n ∈ ns, n < many) ∧ ns.length ≤ 3) ?_ (fun v' H3 ys h => ⟨h.2.2.1, ?_⟩) (fun v' H3 ys E j H7 acc => Same H3 H7 ∧ SqK true H7 v' ys ∧ ∀ ns : List Nat, ys = ns.map iV → Paired (ArAt H7) acc ((ns.take j).map fun n => (i, n))) (fun v' H3 ys E j H7 acc h => h.2.1) ?_ ?_ ?_ (fun _ => rfl)
        · intro R hR
          refine ⟨_, rfl, (by show 0 ≤ sizeLine; decide), fun e he => ?_⟩
          have s5 := Same.of_new (o := .lst []) he
          refine neNil ((SqK.lst hDa).same s5) (SqK.lst upd_same) (Dq.ints ns) (by decide) ?_
          have hD5 := s5 _ _ hDa
          have th5 := th4.same s5
          generalize L2.upd H4 e (.lst []) = H5 at s5 hD5 th5 ⊢
          refine ⟨_, rfl, u_if (fun hb => ?_) (fun hb => ?_)⟩
          · refine ⟨_, rfl, hR _ _ (ns.map iV) ⟨SameB.of s5, th5.mono (by omega), SqK.lst hD5, fun z => (th'.ne hD).1 (by injection z), ns, rfl, fun e => ?_, hnd, hnlt, by omega⟩⟩
            rw [e] at hb; simp at hb
          · refine ⟨_, rfl, _, rfl, t, c, _, many, rfl, th5, by omega, by omega, by omega, fun H7 r7 sb7 th7 hr7 => ⟨(by show 1 ≤ sizeLine; decide), fun l nl => ?_⟩⟩
            have s8 := Same.of_new (o := .lst [iV r7]) nl
            refine hR _ _ ([r7].map iV) ⟨((SameB.of s5).trans sb7).trans (SameB.of s8), (th7.same s8).mono (by omega), SqK.lst upd_same, fun z => (th7.ne nl).1 (by injection z), [r7], rfl, by simp, List.nodup_cons.mpr ⟨by simp, List.nodup_nil⟩, fun n hn => ?_, by simp⟩
            rw [List.mem_singleton.mp hn]; exact hr7
        · obtain ⟨_, _, _, _, ns, rfl, _, _, _, hl⟩ := h
          rw [List.length_map]; omega
        · rintro v' H3 ys E ⟨sb3, th3, sv, hvt, _⟩ hE
          exact ⟨Same.of_new hE, sv.same (Same.of_new hE), fun ns _ => by rw [List.take_zero]; exact .nil⟩
        · rintro v' H3 ys E j x H7 acc R Z ⟨sb3, th3, sv, hvt, ns', rfl, hne', hnd', hlt', hl'⟩ hx hE hl hEa ⟨s7, sv7, hp7⟩ hR _
          refine yesG ?_
          rw [List.getElem?_map] at hx
          obtain ⟨n, hn, rfl⟩ := Option.map_eq_some_iff.mp hx
          refine ⟨_, rfl, _, rfl, sz2, fun p np => ?_⟩
          have s8 := Same.of_new (o := .tup [iV i, iV n]) np
          have hE8 := s8 _ _ hEa
          have hp8 : (L2.upd H7 p (.tup [iV i, iV n])) p = some (.tup [iV i, iV n]) := upd_same
          have nEp : p ≠ E := fun z => by rw [z, hEa] at np; cases np
          have sn9 : SameN (L2.upd H7 p (.tup [iV i, iV n])) (L2.upd (L2.upd H7 p (.tup [iV i, iV n])) E (.lst (acc ++ [V.ref p]))) := SameN.lst hE8
          refine hR _ _ hE8 ⟨fun b o h => ?_, ?_, fun ns2 e2 => ?_⟩
          · rw [upd_ne (ne_of_none h hE)]; exact s8 _ _ (s7 _ _ h)
          · obtain ⟨pv, rfl, hpv⟩ := sv
            refine ⟨pv, rfl, ?_⟩
            rw [upd_ne (ne_of_none hpv hE)]; exact s8 _ _ (s7 _ _ hpv)
          · have en : ns2[j]? = some n := by
              have h1 : (ns2.map iV)[j]? = some (iV n) := by rw [← e2, List.getElem?_map, hn]; rfl
              rw [List.getElem?_map] at h1
              obtain ⟨n2, hn2, e3⟩ := Option.map_eq_some_iff.mp h1
              rw [hn2]
              have := V.int.inj e3
              congr 1; omega
            rw [take_snoc en, List.map_append]
            exact paired_append (ArsAt.n (ArsAt.n (hp7 ns2 e2) s8.n) sn9) (.cons (SqK.n (SqK.tup hp8) sn9) .nil)
        · rintro v' H3 ys E H7 acc ⟨sb3, th3, sv, hvt, ns', rfl, hne', hnd', hlt', hl'⟩ hE hEa ⟨s7, sv7, hp7⟩
          have hp := hp7 ns' rfl
          rw [List.length_map, List.take_length] at hp
          have hF7 := s7 _ _ (sb3 _ _ nFt hF4)
          have sb47 : SameB t H' H7 := (sb4.trans sb3).trans (SameB.of s7)
          have hzl : zs.length ≤ 9 := by rw [har.length]; have := hai.len; omega
          have hal : acc.length ≤ 3 := by rw [hp.length, List.length_map]; exact hl'
          refine ⟨F, E, zs, acc, rfl, rfl, hF7, hEa, Nat.le_trans (by omega : zs.length + acc.length ≤ 12) (by decide), ?_⟩
          have snF : SameN H7 (L2.upd H7 F (.lst (zs ++ acc))) := SameN.lst hF7
          have sn47 := th'.n sb47
          refine ⟨_, _, zs ++ acc, as ++ ns'.map fun j => (i, j), rfl, fun a u h1 h2 h3 => ?_, (sN.trans sn47).trans snF, upd_same, ?_, paired_append (ArsAt.n (ArsAt.n har sn47) snF) (ArsAt.n hp snF), hai.step hne' hnd' hlt' hl'⟩
          · rw [upd_ne h2]
            exact sb47 _ _ h1 (sH a u h1 h2 h3)
          · refine ((th3.same s7).put nFt nFc).mono ?_
            rw [Nat.add_mul i 1]; omega
    · rintro σ' H' ⟨y7, y8, zs, as, rfl, sH, sN, hF', th', har, hai⟩
      dsimp only
      refine u_ret ⟨_, rfl, _, rfl, F, zs, rfl, .inl ⟨SqL.of hF', fun pa npa => ?_⟩⟩
      have s7 := Same.of_new (o := .tup zs) npa
      have hpa : (L2.upd H' pa (.tup zs)) pa = some (.tup zs) := upd_same
      have har7 := ArsAt.n har s7.n
      have th7 := th'.same s7
      have sN7 := sN.trans s7.n
      have sH7 : ∀ a u, a ≠ t → a ≠ F → H6 a = some u → (L2.upd H' pa (.tup zs)) a = some u := fun a u h1 h2 h3 => s7 _ _ (sH a u h1 h2 h3)
      generalize L2.upd H' pa (.tup zs) = H7 at hpa har7 th7 sN7 sH7 ⊢
      refine u_cons (u_cb1 ?_)
      refine lcg_rng1 (H1 := H7) (n := many) (gives_var rfl) (by omega) (fun D j H8 acc => SameB t H7 H8 ∧ ThAt H8 t c (b + 14 + many * 4 + j) ∧ ∃ qs, Nums H8 acc qs ∧ qs.length = j ∧ ∀ q ∈ qs, 0 ≤ q ∧ Bd 2 6 q) ?_ ?_ ?_ (fun _ => rfl)
      · intro D hD
        have s1 := Same.of_new (o := .lst []) hD
        exact ⟨SameB.of s1, th7.same s1, [], .nil, rfl, fun q hq => by simp at hq⟩
      · rintro D j H8 acc R Z hj hD hl hDa ⟨sb8, th8, qs, hn, hql, hqb⟩ hR _
        have hDt := (th7.ne hD).1
        have hDc := (th7.ne hD).2
        refine yesG ?_
        refine ⟨_, rfl, sz2, fun t1 n1 => ⟨(by show 4 ≤ sizeLine; decide), fun l nl => ?_⟩⟩
        have s1 := Same.of_new (o := .tup [V.int 1, V.int 2]) n1
        have h1 : (L2.upd H8 t1 (.tup [V.int 1, V.int 2])) t1 = some (.tup [V.int 1, V.int 2]) := upd_same
        generalize L2.upd H8 t1 (.tup [V.int 1, V.int 2]) = H9 at s1 h1 nl ⊢
        have s3 := Same.of_new (o := .lst [V.int 1, V.int 0, V.ref t1, V.int 3]) nl
        have h3 : (L2.upd H9 l (.lst [V.int 1, V.int 0, V.ref t1, V.int 3])) l = some (.lst [V.int 1, V.int 0, V.ref t1, V.int 3]) := upd_same
        have th9 := th8.same s1
        have hlt := (th9.ne nl).1
        generalize L2.upd H9 l (.lst [V.int 1, V.int 0, V.ref t1, V.int 3]) = HA at s3 h3 ⊢
        have s13 := s1.trans s3
        have nm : Nums HA [V.int 1, V.int 0, V.ref t1, V.int 3] [1, 0, 1 / 2, 3] :=
          .cons (Num.int _ 1) (.cons (Num.int _ 0) (.cons (Num.pair (by decide +kernel) (by decide +kernel) (by decide +kernel) (s3 _ _ h1)) (.cons (Num.int _ 3) .nil)))
        refine ⟨t, c, _, .ref l, true, _, rfl, th9.same s3, by omega, SqK.lst h3, fun z => hlt (by injection z), by simp, by simp, fun HB r x sbB thB hx => ?_⟩
        have hDB := sbB _ _ hDt (s13 _ _ hDa)
        obtain ⟨q, hq, hxq⟩ := paired_get nm hx
        have snB := (th9.same s3).n sbB
        have hne : SameN HB (L2.upd HB D (.lst (acc ++ [x]))) := SameN.lst hDB
        have hqm := mem_get hq
        refine hR _ _ hDB ⟨((sb8.trans (SameB.of s13)).trans sbB).fresh hD, thB.put hDt hDc, qs ++ [q], paired_append (((hn.mono s13.n).mono snB).mono hne) (.cons ((hxq.mono snB).mono hne) .nil), by simp [hql], fun q' hq' => ?_⟩
        rcases List.mem_append.mp hq' with h | h
        · exact hqb q' h
        · rw [List.mem_singleton.mp h]
          exact ⟨nn_list (qs := [1, 0, 1 / 2, 3]) (by decide +kernel) q hqm, bd_list (qs := [1, 0, 1 / 2, 3]) (by decide +kernel) q hqm⟩
      · rintro D H8 xw hD hDa ⟨sb8, th8, ws, hn, hwl, hwb⟩
        refine ⟨D, xw, rfl, .inl ⟨SqL.of hDa, fun pw npw => ?_⟩⟩
        have s9 := Same.of_new (o := .tup xw) npw
        have hpw : (L2.upd H8 pw (.tup xw)) pw = some (.tup xw) := upd_same
        have hn9 := hn.mono s9.n
        have th9 := th8.same s9
        have sb9 := sb8.trans (SameB.of (D := t) s9)
        generalize L2.upd H8 pw (.tup xw) = H9 at hpw hn9 th9 sb9 ⊢
        refine ⟨(by show 4 ≤ sizeLine; decide), fun p np => ?_⟩
        have sA := Same.of_new (o := .tup [V.str "walk", V.ref pm, V.ref pa, V.ref pw]) np
        have sn79 := th7.n sb9
        have snA := sn79.trans sA.n
        refine k _ _ (.walk ms as ws) (fun a u h1 h2 => ?_) ((th9.same sA).mono (by omega)) (fun n => ⟨⟨.ref pm, .ref pa, .ref pw, xm, zs, SqK.tup upd_same, ?_, ?_, (SqK.tup hpa).n snA, ArsAt.n har7 snA, ⟨xw, (SqK.tup hpw).same sA, hn9.mono sA.n⟩, hai.nd⟩, ⟨by omega, by omega, hmb, fun q hq => by rw [hml]; exact hai.lt q hq, by have := hai.len; omega, fun i hi => hai.all i (by omega)⟩, by omega, hwb⟩) (fun z => (th9.ne np).1 (by injection z))
        · have h6 := sb6 _ _ h1 h2
          refine sA _ _ (sb9 _ _ h1 (sH7 a u h1 (fun e => ?_) h6))
          have h5 := sb5 _ _ h1 h2
          rw [e, nF] at h5; cases h5
        · exact (SqK.tup hpm6).n (sN7.trans snA)
        · exact RowsAt.n hms6 (sN7.trans snA)
end
end Hp
namespace Hp
set_option Elab.async false
set_option linter.all false
set_option maxRecDepth 100000
set_option maxHeartbeats 4000000
open PySem PySem.Spec PyProof.Rows L2 NdefX
section
variable {K : PySem.W.Frag} {tl : TE} {σ : L2.St} {H : Hp}
/-- over a range whose end is made there -/
theorem lcg_rngG {k : Nat} {tt : TT} {te : TE} {vs : List Nat} {Q : VK} (Good : Nat → Hp → Prop) (he : ∀ R : VK, (∀ n H1, Good n H1 → R (.int ((n : Nat) : Int)) H1) → tl σ H R) (hn : ∀ n H1, Good n H1 → n ≤ 100000) (Pv : Nat → Hp → Addr → Nat → Hp → List V → Prop) (h0 : ∀ n H1 D, Good n H1 → H1 D = none → Pv n H1 D 0 (upd H1 D (.lst [])) [])
    (hstep : ∀ n H1 D i H' acc (R : VK) (Z : Hp → Prop), Good n H1 → i < n → H1 D = none → acc.length ≤ i → H' D = some (.lst acc) → Pv n H1 D i H' acc → (∀ y H4, H4 D = some (.lst acc) → Pv n H1 D (i + 1) (upd H4 D (.lst (acc ++ [y]))) (acc ++ [y]) → R y H4) → (∀ H3, H3 D = some (.lst acc) → Pv n H1 D (i + 1) H3 acc → Z H3) →
      tt ((wipe σ vs).set k (some (.int i))) H' fun b H3 => if b = true then te ((wipe σ vs).set k (some (.int i))) H3 R else Z H3)
    (hd : ∀ n H1 D H' acc, Good n H1 → H1 D = none → H' D = some (.lst acc) → Pv n H1 D n H' acc → Q (.ref D) H')
    (hw : ∀ x, wipe ((wipe σ vs).set k (some x)) vs = wipe σ vs) : tLc (iRng1 (tCons tl tNil)) (gName k) tt te vs σ H Q := by
  refine he _ fun n H1 hv => ?_
  have hn' := hn n H1 hv
  refine ⟨n, rfl, by omega, by omega, fun D hD => ?_⟩
  rw [Int.toNat_natCast]
  refine lcg_core walk_range (Pv n H1 D) hn' (fun _ _ _ _ => trivial) (h0 n H1 D hv hD) (fun i x H' H'' acc R Z hi hl ha hP hY hR hZ => ?_) fun H' acc => hd n H1 D H' acc hv hD
  obtain ⟨rfl, hx⟩ := hY
  have hx' : x = .int (i : Int) := hx.trans (by show V.int (0 + (i : Int)) = _; rw [Int.zero_add])
  subst hx'
  exact ⟨hw _, hstep n H1 D i _ acc R Z hv hi hD hl ha hP hR hZ⟩
end
def nb : Nat → Nat
  | 0 => 0
  | n + 1 => 45 + 3 * nb n
section
variable {P : Program} {w : World} {K : PySem.W.Frag} {mg : Str → Option Value} {base : Heap}
def sp_law_promise (n : Nat) : Sp := fun vs H Q _ => ∃ t c b g, ∃ z : Int, vs = [.ref t, .int ((g : Nat) : Int), .int z, .bl false] ∧ 0 ≤ z ∧ z + 1 = (n : Int) ∧ n ≤ 3 ∧ ThAt H t c b ∧ b + nb n < 990000 ∧ 1 ≤ g ∧ g ≤ 3 ∧ ∀ H' v p, SameB t H H' → ThAt H' t c (b + nb n) → OwnAt g n H' v p → PrOk g n p → v ≠ .ref t → Q v H'
theorem sc_law_promise : FnScope ["_law_thief_here", "_law_goods", "_law_deep", "_law_with_best", "_law_way", "_law_parts_here", "_law_turn"] ["_law_thief_here", "_law_goods", "_law_deep", "_law_with_best"] (defScope s_law_promise) := ⟨rfl, rfl, rfl, by decide +kernel, rfl, by decide +kernel, by decide +kernel⟩
theorem c_law_promise (T : Wd K mg base) : ∀ n : Nat, Cal P w K mg base (8 + n) "_law_promise" (sp_law_promise  n) []
  | 0 => by
    obtain ⟨fd, F⟩ := T.d_law_promise
    refine mkCal (k := 8 - 1) F T.g_law_promise sc_law_promise (F.bindsN fun _ _ _ _ _ _ us hl => match us, hl with | [_, _, _, _], _ => rfl) (fun vs H Q E h => ?_) (fun cdv A outer s H vs Q E hr h => ?_)
    · exfalso
      obtain ⟨t, c, b, g, z, rfl, hz0, hz, _⟩ := h; omega
    · exfalso
      obtain ⟨t, c, b, g, z, rfl, hz0, hz, _⟩ := h; omega
  | n + 1 => by
    have ih := c_law_promise T n
    obtain ⟨fd, F⟩ := T.d_law_promise
    refine mkCal (k := 8 + n) F T.g_law_promise sc_law_promise (F.bindsN fun _ _ _ _ _ _ us hl => match us, hl with | [_, _, _, _], _ => rfl) (fun vs H Q E h => ?_) (fun cdv A outer s H vs Q E hr h => ?_)
    · rcases h with ⟨t, c, b, g, z, rfl, hzz, hz, hn3, th, hb, hg1, hg, k⟩ <;> rfl
    · rcases h with ⟨t, c, b, g, z, rfl, hzz, hz, hn3, th, hb, hg1, hg, k⟩
      refine ⟨_, (pss_cons (ps_set (i := 4) sc_law_promise.nd rfl (Or.inl rfl) (pe_c (c_law_prowl T) hr (by omega) rfl (pa_cons (pv 0) (pa_cons pe_int pa_nil))))
        (pss_cons (ps_if (PW.pt (pw_or (pt_cmpR op_eq (pv 2) pe_int (nomark _)) (pw_or1 (pt_cmpR op_gt (pv 4) pe_int (nomark _))))) (pss_one (ps_ret (pe_c (c_law_leaf T) hr (by omega) rfl (pa_cons (pv 0) (pa_cons (pv 1) (pa_cons (pv 3) pa_nil)))))) pss_nil)
        (pss_cons (ps_if (pt_cmpR op_eq (pv 4) pe_int (nomark _)) (pss_one (ps_ret (pe_tup (pa_cons pe_str (pa_cons (pe_c (c_law_number T) hr (by omega) rfl (pa_cons (pv 0) (pa_cons pe_int pa_nil))) (pa_cons (pe_c (ih) hr (by omega) rfl (pa_cons (pv 0) (pa_cons (pv 1) (pa_cons (pe_op op_sub (pv 2) pe_int) (pa_cons (pv 3) pa_nil))))) pa_nil)))))) pss_nil)
        (pss_cons (ps_setLc (i := 5) (own := [("_law_turn", 6)]) rfl sc_law_promise.nd rfl rfl (sw_true rfl rfl rfl (by decide +kernel)) (pi_range1 rfl T.f_range (pa_cons (pe_ifExp (pt_cmpR op_eq (pv 4) pe_int (nomark _)) pe_int (pe_op op_add pe_int (pe_c (c_law_prowl T) hr (by omega) rfl (pa_cons (pv 0) (pa_cons pe_int pa_nil))))) pa_nil)) (blkOk_by (own := [("_law_turn", 6)]) (N := ["_law_thief_here", "_law_goods", "_law_deep", "_law_with_best", "_law_way", "_law_parts_here", "_law_turn"]) (sc := defScope s_law_promise) (by decide +kernel)) (fun _ _ _ _ _ => by exact (pg_name (i := 6) sc_law_promise.nd rfl (by first | exact Or.inl rfl | exact Or.inr rfl))) (fun _ _ _ _ _ => by exact pts_nil) (fun _ _ _ _ _ => by exact (pe_c (ih) hr (by omega) rfl (pa_cons (pv 0) (pa_cons (pv 1) (pa_cons (pe_op op_sub (pv 2) pe_int) (pa_cons (pv 3) pa_nil)))))))
        (pss_cons (ps_if (pt_cmpR op_eq (pv 4) pe_int (nomark _)) (pss_one (ps_ret (pe_tup (pa_cons pe_str (pa_cons (pe_c (c_law_prowl T) hr (by omega) rfl (pa_cons (pv 0) (pa_cons pe_int pa_nil))) (pa_cons (pe_ix ix_seq (pv 5) pe_int (fun _ _ => rfl)) (pa_cons (pe_ix ix_seq (pv 5) pe_int (fun _ _ => rfl)) pa_nil))))))) pss_nil)
        (pss_one (ps_ret (pe_tup (pa_cons (pe_ifExp (pt_cmpR op_eq (pv 4) pe_int (nomark _)) pe_str pe_str) (pa_cons (pe_callTy call_tuple_of (by rfl) T.f_tuple (by decide +kernel) (pa_cons (pv 5) pa_nil)) pa_nil)))))))))), ?_⟩
      have hnb : nb (n + 1) = 45 + 3 * nb n := rfl
      rw [hnb] at hb k
      refine u_seq (u_asg ⟨_, rfl, t, c, b, 7, rfl, th, by omega, by decide, by decide, fun H1 way sb1 th1 hway => u_gname ?_⟩)
      dsimp only
      refine u_seq (u_ifB (b := decide (V.int z = V.int 0) || decide ((4 : Int) < (way : Int))) (fun R r => ?_) (u_if (fun h => ?_) (fun h => ?_)))
      · refine ⟨_, rfl, rfl, _, rfl, u_if (fun h => ?_) (fun h => ?_)⟩
        · rw [h, Bool.true_or] at r; exact r
        · rw [h, Bool.false_or] at r
          exact ⟨_, rfl, _, _, rfl, rfl, _, rfl, r⟩
      · refine u_ret ⟨_, rfl, _, rfl, _, rfl, t, c, b + 1, g, rfl, th1, by omega, hg1, hg, fun H2 v p sb2 th2 hp hvt => ?_⟩
        exact k H2 v p (sb1.trans sb2) (th2.mono (by omega)) (hp n).1 (hp n).2 hvt
      rw [Bool.or_eq_false_iff] at h
      have hz0 : z ≠ 0 := fun e => by rw [e] at h; simp at h
      have hw4 : way ≤ 4 := by have := of_decide_eq_false h.2; omega
      clear h
      refine u_next ?_
      dsimp only
      have hzn : z - 1 + 1 = (n : Int) := by omega
      refine u_seq (u_ifT (u_op ⟨_, rfl, rfl, _, rfl, u_if (fun h => ?_) (fun h => ?_)⟩))
      · refine u_ret ⟨_, rfl, t, c, b + 1, rfl, th1, by omega, fun H2 x q sb2 th2 hx hq0 hqb => ?_⟩
        refine ⟨_, rfl, _, rfl, _, rfl, _, _, rfl, rfl, _, rfl, t, c, b + 1 + 2, g, z - 1, rfl, by omega, hzn, by omega, th2, by omega, hg1, hg, fun H3 v p sb3 th3 hv hp hvt => ?_⟩
        refine ⟨(by show 3 ≤ sizeLine; decide), fun a na => ?_⟩
        have s4 := Same.of_new (o := .tup [V.str "times", x, v]) na
        exact k _ _ (.times q p) (((sb1.trans sb2).trans sb3).trans (SameB.of s4)) ((th3.same s4).mono (by omega)) ⟨x, v, SqK.tup upd_same, (hx.mono (th2.n sb3)).mono s4.n, hv.n s4.n⟩ ⟨hq0, hqb, hp⟩ (fun z => (th3.ne na).1 (by injection z))
      refine u_next ?_
      dsimp only
      refine u_seq (u_asg ?_)
      refine lcg_rngG (fun m H2 => SameB t H1 H2 ∧ ThAt H2 t c (b + 2) ∧ 1 ≤ m ∧ m ≤ 3 ∧ (way = 1 → m = 2)) ?_ (fun m H2 h => by omega) (fun m H2 D i H4 acc => SameB t H2 H4 ∧ ThAt H4 t c (b + 2 + i * nb n) ∧ ∃ ps, Paired (OwnAt g n H4) acc ps ∧ ps.length = i ∧ ∀ p ∈ ps, PrOk g n p) ?_ ?_ ?_ (fun _ => rfl)
      · intro R hR
        refine ⟨_, rfl, rfl, _, rfl, u_if (fun h1 => ?_) (fun h1 => ?_)⟩
        · exact hR 2 H1 ⟨SameB.of (Same.refl _), th1.mono (by omega), by decide, by decide, fun _ => rfl⟩
        · refine ⟨_, rfl, t, c, b + 1, 3, rfl, th1, by omega, by decide, by decide, fun H2 r sb2 th2 hr => ⟨_, _, rfl, rfl, ?_⟩⟩
          have e : (1 : Int) + (r : Int) = ((r + 1 : Nat) : Int) := by omega
          dsimp only
          rw [e]
          refine hR (r + 1) H2 ⟨sb2, th2, by omega, by omega, fun e1 => ?_⟩
          rw [e1] at h1
          exact absurd h1 (by decide)
      · rintro m H2 D ⟨sb2, th2, _⟩ hD
        have s3 := Same.of_new (o := .lst []) hD
        exact ⟨SameB.of s3, (th2.same s3).mono (by omega), [], .nil, rfl, fun p hp => by simp at hp⟩
      · rintro m H2 D i H4 acc R Z ⟨sb2, th2, hm1, hm3, _⟩ hi hD hl hDa ⟨sb4, th4, ps, hps, hpl, hpo⟩ hR _
        have hDt := (th2.ne hD).1
        have hDc := (th2.ne hD).2
        have hin : i * nb n ≤ 2 * nb n := Nat.mul_le_mul_right _ (by omega)
        refine yesG ?_
        refine ⟨_, rfl, _, rfl, _, rfl, _, _, rfl, rfl, _, rfl, t, c, _, g, z - 1, rfl, by omega, hzn, by omega, th4, by omega, hg1, hg, fun H5 v p sb5 th5 hv hp hvt => ?_⟩
        have hD5 := sb5 _ _ hDt hDa
        have sn5 := th4.n sb5
        have hne : SameN H5 (L2.upd H5 D (.lst (acc ++ [v]))) := SameN.lst hD5
        refine hR _ _ hD5 ⟨(sb4.trans sb5).fresh hD, (th5.put hDt hDc).mono ?_, ps ++ [p], paired_append (Paired.mapP hps fun _ _ q => (OwnAt.n sn5 q).n hne) (.cons (hv.n hne) .nil), by simp [hpl], fun p' hp' => ?_⟩
        · rw [Nat.add_mul i 1]; omega
        · rcases List.mem_append.mp hp' with h | h
          · exact hpo p' h
          · rw [List.mem_singleton.mp h]; exact hp
      · rintro m H2 D H4 acc ⟨sb2, th2, hm1, hm3, hm2⟩ hD hDa ⟨sb4, th4, ps, hps, hpl, hpo⟩
        have hDt := (th2.ne hD).1
        have hDc := (th2.ne hD).2
        have hmn : m * nb n ≤ 3 * nb n := Nat.mul_le_mul_right _ hm3
        have sb14 := (sb1.trans sb2).trans sb4
        have hal := hps.length
        refine u_gname ?_
        dsimp only
        refine u_seq (u_ifT (u_op ⟨_, rfl, rfl, _, rfl, u_if (fun h1 => ?_) (fun h1 => ?_)⟩))
        · have hw1 : way = 1 := by
            have := V.int.inj (of_decide_eq_true h1)
            omega
          have hm := hm2 hw1
          subst hm
          obtain ⟨p1, p2, rfl⟩ := len2 hpl
          obtain ⟨x1, x2, rfl⟩ := len2 hal
          cases hps with
          | cons q1 t1 =>
          cases t1 with
          | cons q2 t2 =>
          refine u_ret ⟨_, rfl, t, c, _, 4, rfl, th4, by omega, by decide, by decide, fun H5 r sb5 th5 hr => ?_⟩
          have hD5 := SqK.lst (sb5 _ _ hDt hDa)
          refine ⟨_, rfl, ixOf (i := 0) hD5 rfl ⟨_, rfl, ixOf (i := 1) hD5 rfl ⟨(by show 4 ≤ sizeLine; decide), fun a na => ?_⟩⟩⟩
          have s6 := Same.of_new (o := .tup [V.str "then", V.int (r : Int), x1, x2]) na
          have sn := (th4.n sb5).trans s6.n
          exact k _ _ (.thn r p1 p2) ((sb14.trans sb5).trans (SameB.of s6)) ((th5.same s6).mono (by omega)) ⟨x1, x2, SqK.tup upd_same, q1.n sn, q2.n sn⟩ ⟨by omega, hpo _ (by simp), hpo _ (by simp)⟩ (fun z => (th5.ne na).1 (by injection z))
        refine u_next ?_
        dsimp only
        have hne : ps ≠ [] := fun e => by rw [e] at hpl; simp at hpl; omega
        refine u_ret ⟨_, rfl, rfl, _, rfl, u_if (fun h2 => ?_) (fun h2 => ?_)⟩
        · refine ⟨_, rfl, D, acc, rfl, .inl ⟨SqL.of hDa, fun p np => ⟨(by show 2 ≤ sizeLine; decide), fun a na => ?_⟩⟩⟩
          have s5 := Same.of_new (o := .tup acc) np
          have s6 := Same.of_new (o := .tup [V.str "sum", V.ref p]) na
          have s56 := s5.trans s6
          exact k _ _ (.sum ps) (sb14.trans (SameB.of s56)) ((th4.same s56).mono (by omega)) ⟨.ref p, acc, SqK.tup upd_same, (SqK.tup upd_same).same s6, Paired.mapP hps fun _ _ q => q.n s56.n⟩ ⟨hne, by omega, hpo⟩ (fun z => ((th4.same s5).ne na).1 (by injection z))
        · refine ⟨_, rfl, D, acc, rfl, .inl ⟨SqL.of hDa, fun p np => ⟨(by show 2 ≤ sizeLine; decide), fun a na => ?_⟩⟩⟩
          have s5 := Same.of_new (o := .tup acc) np
          have s6 := Same.of_new (o := .tup [V.str "greatest", V.ref p]) na
          have s56 := s5.trans s6
          exact k _ _ (.gre ps) (sb14.trans (SameB.of s56)) ((th4.same s56).mono (by omega)) ⟨.ref p, acc, SqK.tup upd_same, (SqK.tup upd_same).same s6, Paired.mapP hps fun _ _ q => q.n s56.n⟩ ⟨hne, by omega, hpo⟩ (fun z => ((th4.same s5).ne na).1 (by injection z))
end
end Hp
namespace Hp
set_option Elab.async false
set_option linter.all false
set_option maxRecDepth 100000
set_option maxHeartbeats 4000000
open PySem PySem.Spec PyProof.Rows L2 NdefX
theorem same_new2 {H : Hp} {x dx : Addr} {o u : HO} (h1 : H x = none) (h2 : H dx = none) : Same H (L2.upd (L2.upd H dx o) x u) := fun b w e => by
  rw [upd_ne (ne_of_none e h1), upd_ne (ne_of_none e h2)]; exact e
theorem same_made {H H' : Hp} {x dx : Addr} {o u : HO} (h1 : H x = none) (h2 : H dx = none) (sb : SameB x (L2.upd (L2.upd H dx o) x u) H') : Same H H' := fun b w e => sb _ _ (ne_of_none e h1) (same_new2 h1 h2 b w e)
theorem pr_ne {K : PySem.W.Frag} {g n : Nat} {H : Hp} {v : V} {p : Pr} {x : Addr} (h : PrAt K g n H v p) (hx : H x = none) : v ≠ .ref x := by
  obtain ⟨k, fs, inn, m, l, hb, _, _⟩ := h.base
  obtain ⟨a, dx, rfl, hi⟩ := hb.ins
  intro e
  cases e
  rw [hx] at hi; cases hi
theorem capM_up {n : Nat} (h : n ≤ 2) : capM 1 ≤ capM (n + 1) := by
  have h2 : n = 0 ∨ n = 1 ∨ n = 2 := by omega
  rcases h2 with rfl | rfl | rfl <;> decide
theorem up_hold {K : PySem.W.Frag} {g n i : Nat} {H : Hp} {v : V} (hn : n ≤ 2) (h : PrAt K g 1 H v (.hold i)) : PrAt K g (n + 1) H v (.hold i) := by
  obtain ⟨k, fs, inn, m, l, hb, hm, hl, h⟩ := h
  have hl' : l ≤ 1 := hl
  exact ⟨k, fs, inn, m, l, hb, Int.le_trans hm (capM_up hn), by omega, h⟩
theorem up_mix {K : PySem.W.Frag} {g n : Nat} {q : List Rat} {H : Hp} {v : V} (hn : n ≤ 2) (h : PrAt K g 1 H v (.mix q)) : PrAt K g (n + 1) H v (.mix q) := by
  obtain ⟨k, fs, inn, m, l, hb, hm, hl, h⟩ := h
  have hl' : l ≤ 1 := hl
  exact ⟨k, fs, inn, m, l, hb, Int.le_trans hm (capM_up hn), by omega, h⟩
theorem up_walk {K : PySem.W.Frag} {g n : Nat} {ms : List (List Rat)} {as : List (Nat × Nat)} {ws : List Rat} {H : Hp} {v : V} (hn : n ≤ 2) (h : PrAt K g 1 H v (.walk ms as ws)) : PrAt K g (n + 1) H v (.walk ms as ws) := by
  obtain ⟨k, fs, inn, m, l, hb, hm, hl, h⟩ := h
  have hl' : l ≤ 1 := hl
  exact ⟨k, fs, inn, m, l, hb, Int.le_trans hm (capM_up hn), by omega, h⟩
theorem rsum_nn : ∀ {l : List Rat}, (∀ q ∈ l, 0 ≤ q) → 0 ≤ rsum l
  | [], _ => Rat.le_refl
  | a :: l, h => Rat.add_nonneg (h a (by simp)) (rsum_nn fun q hq => h q (by simp [hq]))
theorem rdot_nn {a b : List Rat} (h1 : ∀ q ∈ a, 0 ≤ q) (h2 : ∀ q ∈ b, 0 ≤ q) : 0 ≤ rdot a b := rsum_nn (rmul_all fun x hx y hy => Rat.mul_nonneg (h1 x hx) (h2 y hy))
theorem walk_law {g : Nat} {ms : List (List Rat)} {as as' : List (Nat × Nat)} {ws : List Rat} {mk : List (List Rat)} (h : MacOk g ms as) (hl : ws.length = ms.length) (hw : ∀ w ∈ ws, 0 ≤ w) (hp : ∀ a, a ∈ as' ↔ a ∈ as) (hm : MkOk g mk) : lwalk ms as ws mk = rmaxs (walkW ms as' ws mk) :=
  lwalk_eq hl h.1 hw hp h.2.2.2.1 (fun i hi => h.2.2.2.2.2 i hi) fun d hd m hm' => rdot_nn (h.2.2.1 m hm').2.1.1 fun q hq => ((hm.2 d hd).2 q hq).1
theorem mac_perm {g : Nat} {ms : List (List Rat)} {as as' : List (Nat × Nat)} (h : MacOk g ms as) (hp : as'.Perm as) : MacOk g ms as' :=
  ⟨h.1, h.2.1, h.2.2.1, fun p hp' => h.2.2.2.1 p (hp.mem_iff.mp hp'), by rw [hp.length_eq]; exact h.2.2.2.2.1, fun i hi => let ⟨j, hj⟩ := h.2.2.2.2.2 i hi; ⟨j, hp.mem_iff.mpr hj⟩⟩
theorem paired_choose {α β γ : Type} {R : α → γ → Prop} {S : γ → β → Prop} {l : List α} {m : List β} (h : Paired (fun a b => ∃ c, R a c ∧ S c b) l m) : ∃ n, Paired R l n ∧ Paired S n m := by
  induction h with
  | nil => exact ⟨[], .nil, .nil⟩
  | cons r t ih =>
    obtain ⟨c, h1, h2⟩ := r
    obtain ⟨n, h3, h4⟩ := ih
    exact ⟨c :: n, .cons h1 h3, .cons h2 h4⟩
/-- p' is as good as p -/
def Like (g n : Nat) (p' p : Pr) : Prop := PrOk g n p' ∧ ∀ m, MkOk g m → worth n p' m = worth n p m
theorem like_map {g n : Nat} {l' l : List Pr} {m : List (List Rat)} (hm : MkOk g m) (h : Paired (Like g n) l' l) : l'.map (fun q => worth n q m) = l.map (fun q => worth n q m) := by
  induction h with
  | nil => rfl
  | cons r t ih => rw [List.map_cons, List.map_cons, ih, r.2 m hm]
theorem like_ok {g n : Nat} {l' l : List Pr} (h : Paired (Like g n) l' l) : ∀ q ∈ l', PrOk g n q := fun q hq => by
  obtain ⟨p, _, hp⟩ := paired_mem h q hq
  exact hp.1
end Hp
namespace Hp
set_option Elab.async false
set_option linter.all false
set_option maxRecDepth 100000
set_option maxHeartbeats 4000000
open PySem PySem.Spec PyProof.Rows L2 NdefX
section
variable {P : Program} {w : World} {K : PySem.W.Frag} {mg : Str → Option Value} {base : Heap}
def sp_law_made (K : PySem.W.Frag) (n : Nat) : Sp := fun vs H Q _ => ∃ v p g, vs = [v] ∧ OwnAt g n H v p ∧ PrOk g n p ∧ 1 ≤ g ∧ g ≤ 3 ∧ n ≤ 3 ∧ ∀ H' u p', Same H H' → PrAt K g n H' u p' → Like g n p' p → Q u H'
theorem sc_law_made : FnScope ["_law_own", "_law_parts_here", "_law_part"] ["_law_own"] (defScope s_law_made) := ⟨rfl, rfl, rfl, by decide +kernel, rfl, by decide +kernel, by decide +kernel⟩
theorem c_law_made (T : Wd K mg base) (hP : PF P): ∀ n : Nat, Cal P w K mg base (12 + n) "_law_made" (sp_law_made K n) []
  | 0 => by
    obtain ⟨fd, F⟩ := T.d_law_made
    refine mkCal (k := 12 - 1) F T.g_law_made sc_law_made (F.bindsN fun _ _ _ _ _ _ us hl => match us, hl with | [_], _ => rfl) (fun vs H Q E h => ?_) (fun cdv A outer s H vs Q E hr h => ?_)
    · exfalso
      obtain ⟨v, p, g, rfl, h, _⟩ := h; exact h
    · exfalso
      obtain ⟨v, p, g, rfl, h, _⟩ := h; exact h
  | n + 1 => by
    have ih := c_law_made T hP n
    obtain ⟨fd, F⟩ := T.d_law_made
    refine mkCal (k := 12 + n) F T.g_law_made sc_law_made (F.bindsN fun _ _ _ _ _ _ us hl => match us, hl with | [_], _ => rfl) (fun vs H Q E h => ?_) (fun cdv A outer s H vs Q E hr h => ?_)
    · rcases h with ⟨v, p, g, rfl, ho, hok, hg1, hg, hn3, k⟩ <;> rfl
    · rcases h with ⟨v, p, g, rfl, ho, hok, hg1, hg, hn3, k⟩
      refine ⟨_, (pss_cons (ps_if (pt_cmpR op_eq (pe_ix ix_seq (pv 0) pe_int (fun _ _ => rfl)) pe_str (nomark _)) (pss_one (ps_ret (pe_mk (m_Hold T hP) hr (by omega) rfl (pa_cons (pe_ix ix_seq (pv 0) pe_int (fun _ _ => rfl)) (pa_cons (pe_ix ix_seq (pv 0) pe_int (fun _ _ => rfl)) pa_nil))))) pss_nil)
        (pss_cons (ps_if (pt_cmpR op_eq (pe_ix ix_seq (pv 0) pe_int (fun _ _ => rfl)) pe_str (nomark _)) (pss_one (ps_ret (pe_mk (m_Mix T hP) hr (by omega) rfl (pa_cons (pe_ix ix_seq (pv 0) pe_int (fun _ _ => rfl)) pa_nil)))) pss_nil)
        (pss_cons (ps_if (pt_cmpR op_eq (pe_ix ix_seq (pv 0) pe_int (fun _ _ => rfl)) pe_str (nomark _)) pss_never pss_nil)
        (pss_cons (ps_if (pt_cmpR op_eq (pe_ix ix_seq (pv 0) pe_int (fun _ _ => rfl)) pe_str (nomark _)) (pss_one (ps_ret (pe_mk (m_BestWalk T hP) hr (by omega) rfl (pa_cons (pe_mk (m_Machine T) hr (by omega) rfl (pa_cons (pe_ix ix_seq (pv 0) pe_int (fun _ _ => rfl)) (pa_cons (pe_ix ix_seq (pv 0) pe_int (fun _ _ => rfl)) pa_nil))) (pa_cons (pe_ix ix_seq (pv 0) pe_int (fun _ _ => rfl)) pa_nil))))) pss_nil)
        (pss_cons (ps_if (pt_cmpR op_eq (pe_ix ix_seq (pv 0) pe_int (fun _ _ => rfl)) pe_str (nomark _)) (pss_one (ps_ret (pe_mk (m_Times T hP) hr (by omega) rfl (pa_cons (pe_ix ix_seq (pv 0) pe_int (fun _ _ => rfl)) (pa_cons (pe_c (ih) hr (by omega) rfl (pa_cons (pe_ix ix_seq (pv 0) pe_int (fun _ _ => rfl)) pa_nil)) pa_nil))))) pss_nil)
        (pss_cons (ps_if (pt_cmpR op_eq (pe_ix ix_seq (pv 0) pe_int (fun _ _ => rfl)) pe_str (nomark _)) (pss_one (ps_ret (pe_mk (m_Then T hP) hr (by omega) rfl (pa_cons (pe_ix ix_seq (pv 0) pe_int (fun _ _ => rfl)) (pa_cons (pe_c (ih) hr (by omega) rfl (pa_cons (pe_ix ix_seq (pv 0) pe_int (fun _ _ => rfl)) pa_nil)) (pa_cons (pe_c (ih) hr (by omega) rfl (pa_cons (pe_ix ix_seq (pv 0) pe_int (fun _ _ => rfl)) pa_nil)) pa_nil)))))) pss_nil)
        (pss_cons (ps_setLc (i := 1) (own := [("_law_part", 2)]) rfl sc_law_made.nd rfl rfl (sw_true rfl rfl rfl (by decide +kernel)) (pi_seq (pe_ix ix_seq (pv 0) pe_int (fun _ _ => rfl))) (blkOk_by (own := [("_law_part", 2)]) (N := ["_law_own", "_law_parts_here", "_law_part"]) (sc := defScope s_law_made) (by decide +kernel)) (fun _ _ _ _ _ => by exact (pg_name (i := 2) sc_law_made.nd rfl (by first | exact Or.inl rfl | exact Or.inr rfl))) (fun _ _ _ _ _ => by exact pts_nil) (fun _ _ _ _ _ => by exact (pe_c (ih) hr (by omega) rfl (pa_cons (pv 2) pa_nil))))
        (pss_one (ps_ret (pe_ifExp (pt_cmpR op_eq (pe_ix ix_seq (pv 0) pe_int (fun _ _ => rfl)) pe_str (nomark _)) (pe_mk (m_Sum T hP) hr (by omega) rfl (pa_cons (pv 1) pa_nil)) (pe_mk (m_Greatest T hP) hr (by omega) rfl (pa_cons (pv 1) pa_nil)))))))))))), ?_⟩
      cases p with
      | hold i =>
        have sv : SqK false H v _ := ho
        refine u_seq (u_ifT (u_op ⟨_, rfl, ixOf (i := 0) sv rfl ⟨rfl, _, rfl, itt kd_eq ?_⟩⟩))
        refine u_ret ⟨_, rfl, ixOf (i := 1) sv rfl ⟨_, rfl, ixOf (i := 2) sv rfl fun x dx nx ndx nex => ⟨x, dx, g, i, rfl, upd_same, hg1, by omega, hok, fun H' sb hpr => ⟨rfl, ?_⟩⟩⟩⟩
        exact k H' _ (.hold i) (same_made nx ndx sb) (up_hold (by omega) hpr) ⟨hok, fun m _ => rfl⟩
      | mix m =>
        obtain ⟨vm, sv, xm, sm, hm⟩ := ho
        have hmx : MixB g m := hok
        refine u_seq (u_ifT (u_op ⟨_, rfl, ixOf (i := 0) sv rfl ⟨rfl, _, rfl, itf (kd_ne (by decide)) ⟨_, rfl, ixOf (i := 0) sv rfl ⟨rfl, _, rfl, itt kd_eq ?_⟩⟩⟩⟩))
        refine u_ret ⟨_, rfl, ixOf (i := 1) sv rfl fun x dx nx ndx nex => ⟨x, dx, false, vm, xm, m, rfl, upd_same, sm.same (same_new2 nx ndx), hm.mono (same_new2 nx ndx).n, hmx.2.1, by rw [hmx.1]; omega, by rw [hmx.1]; omega, fun H' sb hpr => ⟨rfl, ?_⟩⟩⟩
        rw [hmx.1] at hpr
        exact k H' _ (.mix m) (same_made nx ndx sb) (up_mix (by omega) hpr) ⟨hok, fun m _ => rfl⟩
      | walk ms as ws =>
        obtain ⟨vm, va, vw, xm, xa, sv, sm, hm, sa, ha, ⟨xw, sw, hw⟩, hnd⟩ := ho
        obtain ⟨hma, hwl, hwb⟩ := id hok
        refine u_seq (u_ifT (u_op ⟨_, rfl, ixOf (i := 0) sv rfl ⟨rfl, _, rfl, itf (kd_ne (by decide)) ⟨_, rfl, ixOf (i := 0) sv rfl ⟨rfl, _, rfl, itf (kd_ne (by decide)) ⟨_, rfl, ixOf (i := 0) sv rfl ⟨rfl, _, rfl, itf (kd_ne (by decide)) ⟨_, rfl, ixOf (i := 0) sv rfl ⟨rfl, _, rfl, itt kd_eq ?_⟩⟩⟩⟩⟩⟩⟩⟩))
        refine u_ret ⟨_, rfl, ixOf (i := 1) sv rfl ⟨_, rfl, ixOf (i := 2) sv rfl fun x dx nx ndx nex => ?_⟩⟩
        have s1 := same_new2 (o := .own x) (u := .ins (He.ga K "Machine") dx []) nx ndx
        refine ⟨x, dx, vm, va, false, false, xm, ms, g, xa, as, rfl, upd_same, sm.same s1, RowsAt.n hm s1.n, ?_, by have := hma.2.1; omega, fun m hm' => ⟨(hma.2.2.1 m hm').1, (hma.2.2.1 m hm').2.1⟩, hg1, by omega, sa.same s1, ArsAt.n ha s1.n, hnd, by have := hma.2.2.2.2.1; omega, hma.2.2.2.1, hma.2.2.2.2.2, fun H2 as' sb hperm hmac => ⟨rfl, ?_⟩⟩
        · intro e
          have := hma.1
          rw [e] at this; simp at this
        have s2 := same_made nx ndx sb
        have hx2 : H2 x ≠ none := by
          obtain ⟨fs, _, _, _, _, ⟨a, d2, e, hi⟩, _⟩ := hmac
          cases e
          rw [hi]; simp
        refine ⟨_, rfl, ixOf (i := 3) (sv.same s2) rfl fun x2 dx2 nx2 ndx2 nex2 => ?_⟩
        have s3 := same_new2 (o := .own x2) (u := .ins (He.ga K "BestWalk") dx2 []) nx2 ndx2
        refine ⟨x2, dx2, .ref x, vw, false, xw, ws, ms, as', g, rfl, upd_same, hmac.n s3.n, fun e => ?_, sw.same (s2.trans s3), hw.mono (s2.trans s3).n, hwl, by have := hma.2.1; omega, fun q hq => (hwb q hq).1, fun H4 sb4 hpr => ⟨rfl, ?_⟩⟩
        · cases e; exact hx2 nx2
        have s4 := same_made nx2 ndx2 sb4
        have mem : ∀ a, a ∈ as' ↔ a ∈ as := fun a => hperm.mem_iff
        refine k H4 _ (.walk ms as' ws) (s2.trans s4) (up_walk (by omega) (hpr (hmac.n s4.n))) ⟨⟨mac_perm hma hperm, hwl, hwb⟩, fun m hm' => ?_⟩
        show rmaxs (walkW ms as' ws m) = rmaxs (walkW ms as ws m)
        rw [← walk_law hma hwl (fun q hq => (hwb q hq).1) mem hm', ← walk_law (as' := as) hma hwl (fun q hq => (hwb q hq).1) (fun _ => Iff.rfl) hm']
      | times q p =>
        obtain ⟨vq, vp, sv, hq, hp⟩ := ho
        obtain ⟨h0, hqb, hpo⟩ := hok
        refine u_seq (u_ifT (u_op ⟨_, rfl, ixOf (i := 0) sv rfl ⟨rfl, _, rfl, itf (kd_ne (by decide)) ⟨_, rfl, ixOf (i := 0) sv rfl ⟨rfl, _, rfl, itf (kd_ne (by decide)) ⟨_, rfl, ixOf (i := 0) sv rfl ⟨rfl, _, rfl, itf (kd_ne (by decide)) ⟨_, rfl, ixOf (i := 0) sv rfl ⟨rfl, _, rfl, itf (kd_ne (by decide)) ⟨_, rfl, ixOf (i := 0) sv rfl ⟨rfl, _, rfl, itt kd_eq ?_⟩⟩⟩⟩⟩⟩⟩⟩⟩⟩))
        refine u_ret ⟨_, rfl, ixOf (i := 1) sv rfl ⟨_, rfl, ixOf (i := 2) sv rfl ⟨vp, p, g, rfl, hp, hpo, hg1, hg, by omega, fun H1 u p' s1 hpr hlk => fun x dx nx ndx nex => ?_⟩⟩⟩
        have s2 := same_new2 (o := .own x) (u := .ins (He.ga K "Times") dx []) nx ndx
        refine ⟨x, dx, vq, u, q, p', g, n, rfl, upd_same, (hq.mono s1.n).mono s2.n, h0, hpr.n s2.n, by omega, pr_ne hpr nx, fun H' sb hk => ⟨rfl, ?_⟩⟩
        have s3 := same_made nx ndx sb
        refine k H' _ (.times q p') (s1.trans s3) (hk (hpr.n s3.n)) ⟨⟨h0, hqb, hlk.1⟩, fun m hm => ?_⟩
        show q * worth n p' m = q * worth n p m
        rw [hlk.2 m hm]
      | thn d pa pb =>
        obtain ⟨va, vb, sv, hpa, hpb⟩ := ho
        obtain ⟨hd3, hoa, hob⟩ := hok
        refine u_seq (u_ifT (u_op ⟨_, rfl, ixOf (i := 0) sv rfl ⟨rfl, _, rfl, itf (kd_ne (by decide)) ⟨_, rfl, ixOf (i := 0) sv rfl ⟨rfl, _, rfl, itf (kd_ne (by decide)) ⟨_, rfl, ixOf (i := 0) sv rfl ⟨rfl, _, rfl, itf (kd_ne (by decide)) ⟨_, rfl, ixOf (i := 0) sv rfl ⟨rfl, _, rfl, itf (kd_ne (by decide)) ⟨_, rfl, ixOf (i := 0) sv rfl ⟨rfl, _, rfl, itf (kd_ne (by decide)) ⟨_, rfl, ixOf (i := 0) sv rfl ⟨rfl, _, rfl, itt kd_eq ?_⟩⟩⟩⟩⟩⟩⟩⟩⟩⟩⟩⟩))
        refine u_ret ⟨_, rfl, ixOf (i := 1) sv rfl ⟨_, rfl, ixOf (i := 2) sv rfl ⟨va, pa, g, rfl, hpa, hoa, hg1, hg, by omega, fun H1 u p1 s1 hpr1 hlk1 => ?_⟩⟩⟩
        refine ⟨_, rfl, ixOf (i := 3) (sv.same s1) rfl ⟨vb, pb, g, rfl, hpb.n s1.n, hob, hg1, hg, by omega, fun H2 u2 p2 s2 hpr2 hlk2 => fun x dx nx ndx nex => ?_⟩⟩
        have s3 := same_new2 (o := .own x) (u := .ins (He.ga K "Then") dx []) nx ndx
        refine ⟨x, dx, d, u, u2, p1, p2, g, n, rfl, upd_same, by omega, (hpr1.n s2.n).n s3.n, hpr2.n s3.n, by omega, pr_ne (hpr1.n s2.n) nx, pr_ne hpr2 nx, fun H' sb hk => ⟨rfl, ?_⟩⟩
        have s4 := same_made nx ndx sb
        refine k H' _ (.thn d p1 p2) ((s1.trans s2).trans s4) (hk ((hpr1.n s2.n).n s4.n) (hpr2.n s4.n)) ⟨⟨hd3, hlk1.1, hlk2.1⟩, fun m hm => ?_⟩
        show worth n p1 (m.take d) * worth n p2 (m.drop d) = worth n pa (m.take d) * worth n pb (m.drop d)
        rw [hlk1.2 _ (hm.take d), hlk2.2 _ (hm.drop d)]
      | sum l =>
        obtain ⟨vp, xs, sv, sx, hx⟩ := ho
        obtain ⟨hne, hl3, hpo⟩ := hok
        have hxl := hx.length
        refine u_seq (u_ifT (u_op ⟨_, rfl, ixOf (i := 0) sv rfl ⟨rfl, _, rfl, itf (kd_ne (by decide)) ⟨_, rfl, ixOf (i := 0) sv rfl ⟨rfl, _, rfl, itf (kd_ne (by decide)) ⟨_, rfl, ixOf (i := 0) sv rfl ⟨rfl, _, rfl, itf (kd_ne (by decide)) ⟨_, rfl, ixOf (i := 0) sv rfl ⟨rfl, _, rfl, itf (kd_ne (by decide)) ⟨_, rfl, ixOf (i := 0) sv rfl ⟨rfl, _, rfl, itf (kd_ne (by decide)) ⟨_, rfl, ixOf (i := 0) sv rfl ⟨rfl, _, rfl, itf (kd_ne (by decide)) ?_⟩⟩⟩⟩⟩⟩⟩⟩⟩⟩⟩⟩))
        refine u_next ?_
        dsimp only
        refine u_seq (u_asg ?_)
        refine lc_seq (H1 := H) (b := false) (v := vp) (xs := xs) (fun R r => ⟨_, rfl, ixOf (i := 1) sv rfl r⟩) sx (by omega) (fun D j H' z => ∀ p, l[j]? = some p → ∃ p', PrAt K g n H' z p' ∧ Like g n p' p) (fun D j H1 H2 z c h p hp => let ⟨p', h1, h2⟩ := h p hp; ⟨p', h1.n c.n, h2⟩) ?_ ?_ (fun _ => rfl)
        · intro D j x H' R hxj hD s2 hDn hR
          obtain ⟨p, hp', hpx⟩ := paired_get hx hxj
          refine ⟨_, rfl, x, p, g, rfl, hpx.n s2.n, hpo p (mem_get hp'), hg1, hg, by omega, fun H3 u p' s3 hpr hlk => hR u H3 s3 fun p2 hp2 => ?_⟩
          rw [hp'] at hp2; cases hp2
          exact ⟨p', hpr, hlk⟩
        · intro D H' zs hD s2 hDz hl2 hF
          obtain ⟨l', hl1', hl2'⟩ := paired_choose (R := PrAt K g n H') (S := Like g n) (paired_of (l := zs) (m := l) (by omega) fun j z p hz hp => hF j z hz p hp)
          have hll := hl2'.length
          have hne' : l' ≠ [] := fun e => by
            rw [e] at hll
            exact hne (List.eq_nil_of_length_eq_zero hll.symm)
          refine u_gname ?_
          dsimp only
          refine u_ret ⟨_, rfl, ixOf (i := 0) (sv.same s2) rfl ⟨rfl, _, rfl, itt kd_eq ⟨_, rfl, fun x dx nx ndx nex => ?_⟩⟩⟩
          have s3 := same_new2 (o := .own x) (u := .ins (He.ga K "Sum") dx []) nx ndx
          refine ⟨x, dx, true, .ref D, zs, l', g, n, rfl, upd_same, (SqK.lst hDz).same s3, Paired.mapP hl1' fun _ _ q => q.n s3.n, hne', by omega, by omega, fun z hz => ?_, fun H4 sb hk => ⟨rfl, ?_⟩⟩
          · obtain ⟨p', _, hp'⟩ := paired_mem hl1' z hz
            exact pr_ne hp' nx
          · have s4 := same_made nx ndx sb
            refine k H4 _ (.sum l') (s2.trans s4) (hk (Paired.mapP hl1' fun _ _ q => q.n s4.n)) ⟨⟨hne', by omega, like_ok hl2'⟩, fun m hm => ?_⟩
            show rsum (l'.map fun q => worth n q m) = rsum (l.map fun q => worth n q m)
            rw [like_map hm hl2']
      | gre l =>
        obtain ⟨vp, xs, sv, sx, hx⟩ := ho
        obtain ⟨hne, hl3, hpo⟩ := hok
        have hxl := hx.length
        refine u_seq (u_ifT (u_op ⟨_, rfl, ixOf (i := 0) sv rfl ⟨rfl, _, rfl, itf (kd_ne (by decide)) ⟨_, rfl, ixOf (i := 0) sv rfl ⟨rfl, _, rfl, itf (kd_ne (by decide)) ⟨_, rfl, ixOf (i := 0) sv rfl ⟨rfl, _, rfl, itf (kd_ne (by decide)) ⟨_, rfl, ixOf (i := 0) sv rfl ⟨rfl, _, rfl, itf (kd_ne (by decide)) ⟨_, rfl, ixOf (i := 0) sv rfl ⟨rfl, _, rfl, itf (kd_ne (by decide)) ⟨_, rfl, ixOf (i := 0) sv rfl ⟨rfl, _, rfl, itf (kd_ne (by decide)) ?_⟩⟩⟩⟩⟩⟩⟩⟩⟩⟩⟩⟩))
        refine u_next ?_
        dsimp only
        refine u_seq (u_asg ?_)
        refine lc_seq (H1 := H) (b := false) (v := vp) (xs := xs) (fun R r => ⟨_, rfl, ixOf (i := 1) sv rfl r⟩) sx (by omega) (fun D j H' z => ∀ p, l[j]? = some p → ∃ p', PrAt K g n H' z p' ∧ Like g n p' p) (fun D j H1 H2 z c h p hp => let ⟨p', h1, h2⟩ := h p hp; ⟨p', h1.n c.n, h2⟩) ?_ ?_ (fun _ => rfl)
        · intro D j x H' R hxj hD s2 hDn hR
          obtain ⟨p, hp', hpx⟩ := paired_get hx hxj
          refine ⟨_, rfl, x, p, g, rfl, hpx.n s2.n, hpo p (mem_get hp'), hg1, hg, by omega, fun H3 u p' s3 hpr hlk => hR u H3 s3 fun p2 hp2 => ?_⟩
          rw [hp'] at hp2; cases hp2
          exact ⟨p', hpr, hlk⟩
        · intro D H' zs hD s2 hDz hl2 hF
          obtain ⟨l', hl1', hl2'⟩ := paired_choose (R := PrAt K g n H') (S := Like g n) (paired_of (l := zs) (m := l) (by omega) fun j z p hz hp => hF j z hz p hp)
          have hll := hl2'.length
          have hne' : l' ≠ [] := fun e => by
            rw [e] at hll
            exact hne (List.eq_nil_of_length_eq_zero hll.symm)
          refine u_gname ?_
          dsimp only
          refine u_ret ⟨_, rfl, ixOf (i := 0) (sv.same s2) rfl ⟨rfl, _, rfl, itf (kd_ne (by decide)) ⟨_, rfl, fun x dx nx ndx nex => ?_⟩⟩⟩
          have s3 := same_new2 (o := .own x) (u := .ins (He.ga K "Greatest") dx []) nx ndx
          refine ⟨x, dx, true, .ref D, zs, l', g, n, rfl, upd_same, (SqK.lst hDz).same s3, Paired.mapP hl1' fun _ _ q => q.n s3.n, hne', by omega, by omega, fun z hz => ?_, fun H4 sb hk => ⟨rfl, ?_⟩⟩
          · obtain ⟨p', _, hp'⟩ := paired_mem hl1' z hz
            exact pr_ne hp' nx
          · have s4 := same_made nx ndx sb
            refine k H4 _ (.gre l') (s2.trans s4) (hk (Paired.mapP hl1' fun _ _ q => q.n s4.n)) ⟨⟨hne', by omega, like_ok hl2'⟩, fun m hm => ?_⟩
            show rmaxs (l'.map fun q => worth n q m) = rmaxs (l.map fun q => worth n q m)
            rw [like_map hm hl2']
end
end Hp
/-! list(enumerate(x)), x a list or a tuple. -/
namespace Hp
set_option Elab.async false
set_option linter.all false
set_option maxRecDepth 100000
set_option maxHeartbeats 4000000
open PySem PySem.Spec PyProof.Rows L2
theorem en_nolen : typeLookup (.type "enumerate") "__len__" = pure none := by rw [typeLookup_type, builtinLookup_eq_fast]; kernel_rfl
theorem en_nohint : typeLookup (.type "enumerate") "__length_hint__" = pure none := by rw [typeLookup_type, builtinLookup_eq_fast]; kernel_rfl
/-- an enumerate ahead of item i: new, or with a tuple that is still out -/
def EnSt (h : Heap) (e it S : Addr) (i : Nat) : Prop := (∃ old, IsEnum h e it ((i : Nat) : Int) old) ∨ ∃ old T f oT, IsEnumHeld h e it ((i : Nat) : Int) old T f ∧ h.get? T = some oT ∧ T ≠ e ∧ T ≠ it ∧ T ≠ S
section
variable {prog : Program} {w : World} {A : Around} {E : Value → Shared → Prop} {s : Shared}
theorem en_held {e it T : Addr} {fp : List Addr} {n i : Nat} {Pv : Nat → Value → Prop} {St : Nat → Heap → Prop} {old : Value} {f : Bool} {oT : Obj} {Q : Value → Shared → Prop}
    (D : Draws prog w A it fp n Pv St) (he : IsEnumHeld s.heap e it i old T f) (hT : s.heap.get? T = some oT) (hTe : T ≠ e) (hTi : T ≠ it) (hst : St i s.heap) (hlt : i < n) (hne : e ≠ it) (hef : e ∉ fp)
    (hQ : ∀ x h' tk, Pv i x → IsEnumHeld h' e it ((i : Int) + 1) old T true → St (i + 1) h' → h'.get? s.heap.objs.size = some { cls := .type "tuple", data := .seq #[.int i tk, x] } → h'.objs.size = s.heap.objs.size + 1 →
      (∀ b o, b ≠ e → b ≠ it → s.heap.get? b = some o → h'.get? b = some o) → Q (.ref s.heap.objs.size) { s with heap := h', toks := tk + 1 }) :
    wpAny (model prog w) A (Builtin.«enumerate.__next__» ⟨[.ref e], []⟩) (fun fin s' => ∃ v, fin = .done (.ret v) ∧ Q v s') E s := by
  obtain ⟨hp, g, d, tk0, os⟩ := s
  show wpAny _ _ (field (.ref e) 2 >>= _) _ _ _
  refine wpAny_bind (wpAny_field he rfl (x := .ref it) rfl ?_)
  refine wpAny_bind (D.item i _ _ _ hlt hst fun x h1 tk hPx hit1 hs1 => ?_)
  replace hs1 : Heap.SameBut it hp h1 := hs1
  have he1 : IsEnumHeld h1 e it i old T f := (hs1.2 e hne).trans he
  show wpAny _ _ (field (.ref e) 3 >>= _) _ _ ⟨h1, g, d, tk, os⟩
  refine wpAny_bind (wpAny_field he1 rfl (x := rawInt i) rfl ?_)
  show wpAny _ _ (field (.ref e) 4 >>= _) _ _ ⟨h1, g, d, tk, os⟩
  refine wpAny_bind (wpAny_field he1 rfl (x := .none) rfl ?_)
  show wpAny _ _ (mkInt i >>= _) _ _ ⟨h1, g, d, tk, os⟩
  refine wpAny_bind (wpAny_mkInt ?_)
  show wpAny _ _ (setField (.ref e) 3 (rawInt ((i : Int) + 1)) >>= _) _ _ ⟨h1, g, d, tk + 1, os⟩
  refine wpAny_bind (wpAny_setField_rec he1 (by simp) fun h2 he2 hs2 => ?_)
  replace hs2 : Heap.SameBut e h1 h2 := hs2
  replace he2 : IsEnumHeld h2 e it ((i : Int) + 1) old T f := he2
  show wpAny _ _ (setField (.ref e) 4 .none >>= _) _ _ ⟨h2, g, d, tk + 1, os⟩
  refine wpAny_bind (wpAny_setField_rec he2 (by simp) fun h3 he3 hs3 => ?_)
  replace hs3 : Heap.SameBut e h2 h3 := hs3
  replace he3 : IsEnumHeld h3 e it ((i : Int) + 1) old T f := he3
  show wpAny _ _ (newTuple [.int i tk, x] >>= _) _ _ ⟨h3, g, d, tk + 1, os⟩
  refine wpAny_bind (wpAny_newTuple ?_)
  have he4 : IsEnumHeld (h3.push { cls := .type "tuple", data := .seq #[.int i tk, x] }) e it ((i : Int) + 1) old T f := Heap.get?_push_of_some _ he3
  generalize hh4 : h3.push { cls := .type "tuple", data := .seq #[.int i tk, x] } = h4 at he4
  have hsz : h3.objs.size = hp.objs.size := by rw [hs3.1, hs2.1, hs1.1]
  have hel : e < hp.objs.size := Heap.lt_size he
  have ht4 : h4.get? hp.objs.size = some { cls := .type "tuple", data := .seq #[.int i tk, x] } := by rw [← hh4, ← hsz]; exact Heap.get?_push_size _ rfl
  have hz4 : h4.objs.size = hp.objs.size + 1 := by rw [← hh4, Heap.size_push, hsz]
  have hk4 : ∀ b o, b ≠ e → b ≠ it → hp.get? b = some o → h4.get? b = some o := fun b o hbe hbi hb => by
    rw [← hh4]; exact Heap.get?_push_of_some _ (hs3.extBut b o hbe (hs2.extBut b o hbe (hs1.extBut b o hbi hb)))
  have hit4 : St (i + 1) h4 := D.frame _ _ _ hit1 fun b hb o y => by
    have hbe : b ≠ e := fun q => hef (q ▸ hb)
    rw [← hh4]; exact Heap.get?_push_of_some _ (hs3.extBut b o hbe (hs2.extBut b o hbe y))
  show wpAny _ _ (Builtin.SmallTypes.ownedTupleIsFree (.ref e) >>= _) _ _ ⟨h4, g, d, tk + 1, os⟩
  rw [hsz]
  clear hh4 he3 hs3 he2 hs2 he1 hs1 hit1 hsz h3 h2 h1
  refine wpAny_bind (wpAny_tupleHeld_enum (s := ⟨h4, g, d, tk + 1, os⟩) he4 (hk4 T oT hTe hTi hT) fun h5 he5 hs5 => ?_)
  replace hs5 : Heap.SameBut e h4 h5 := hs5
  simp only [Bool.false_eq_true, if_false]
  refine wpAny_pure ⟨_, rfl, hQ x h5 tk hPx he5 (D.frame _ _ _ hit4 fun b hb o y => hs5.extBut b o (fun q => hef (q ▸ hb)) y) (hs5.extBut _ _ (Nat.ne_of_gt hel) ht4) ?_ fun b o hbe hbi hb => hs5.extBut b o hbe (hk4 b o hbe hbi hb)⟩
  show h5.objs.size = hp.objs.size + 1
  rw [hs5.1, hz4]
theorem en_item {e it S : Addr} {fp : List Addr} {n i : Nat} {Pv : Nat → Value → Prop} {St : Nat → Heap → Prop} {Q : Option Value → Shared → Prop}
    (D : Draws prog w A.in1 it fp n Pv St) (he : EnSt s.heap e it S i) (hst : St i s.heap) (hlt : i < n) (hne : e ≠ it) (hef : e ∉ fp) (hei : it < s.heap.objs.size) (hS : S < s.heap.objs.size)
    (hQ : ∀ x h' tk, Pv i x → EnSt h' e it S (i + 1) → St (i + 1) h' → h'.get? s.heap.objs.size = some { cls := .type "tuple", data := .seq #[.int i tk, x] } → h'.objs.size = s.heap.objs.size + 1 →
      (∀ b o, b ≠ e → b ≠ it → s.heap.get? b = some o → h'.get? b = some o) → Q (some (.ref s.heap.objs.size)) { s with heap := h', toks := tk + 1 }) : wpAny (model prog w) A (pyNext (.ref e)) Q E s := by
  have e1 : ((i + 1 : Nat) : Int) = (i : Int) + 1 := by omega
  rcases he with ⟨old, he⟩ | ⟨old, T, f, oT, he, hT, hTe, hTi, hTS⟩
  · have hel : e < s.heap.objs.size := Heap.lt_size he
    refine wpAny_pyNext_enum_itemD D he hst hlt hne hef fun x h' tk a b c d k q => hQ x h' tk a (.inr ⟨x, s.heap.objs.size, false, _, ?_, d, Nat.ne_of_gt hel, Nat.ne_of_gt hei, Nat.ne_of_gt hS⟩) c d k q
    rw [e1]; exact b
  · have hTy : s.TypeIs (.ref e) "enumerate" := ⟨_, he, rfl⟩
    unfold pyNext
    refine wpAny_bind (wpAny_attempt (wpAny_callSpecial?_slot (name := Str.ofString "__next__") hTy F.slot_enumerate_next
      (wpAny_call_entry F.slot_enumerate_next hTy F.entry_enumerate_next
        (en_held D he hT hTe hTi hst hlt hne hef fun x h' tk a b c d k q => wpAny_pure (hQ x h' tk a (.inr ⟨old, T, true, oT, ?_, q T oT hTe hTi hT, hTe, hTi, hTS⟩) c d k q)) (F.args_enumerate_next_1 _))))
    rw [e1]; exact b
theorem en_done {e it S : Addr} {fp : List Addr} {n : Nat} {Pv : Nat → Value → Prop} {St : Nat → Heap → Prop} {Q : Option Value → Shared → Prop} (D : Draws prog w A.in1 it fp n Pv St) (he : EnSt s.heap e it S n) (hst : St n s.heap)
    (hQ : ∀ h', Heap.ExtBut it s.heap h' → Q none { s with heap := h' }) : wpAny (model prog w) A (pyNext (.ref e)) Q E s := by
  rcases he with ⟨old, he⟩ | ⟨old, T, f, oT, he, hT, hTe, hTi, hTS⟩
  · exact wpAny_pyNext_enum_endD D he hst hQ
  · have hTy : s.TypeIs (.ref e) "enumerate" := ⟨_, he, rfl⟩
    unfold pyNext
    refine wpAny_bind (wpAny_attempt (wpAny_callSpecial?_slot (name := Str.ofString "__next__") hTy F.slot_enumerate_next
      (wpAny_call_entry F.slot_enumerate_next hTy F.entry_enumerate_next ?_ (F.args_enumerate_next_1 _))))
    show wpAny _ _ (field (.ref e) 2 >>= _) _ _ _
    refine wpAny_bind (wpAny_field he rfl (x := .ref it) rfl ?_)
    refine wpAny_bind (D.done _ _ _ hst fun h' x he' hx' => ?_)
    obtain ⟨o, ho, hc⟩ := hx'
    refine wpAny_bind (wpAny_isInstance (T := "StopIteration") (b := true) ⟨o, ho, hc⟩ isSubtype_stop ?_)
    exact wpAny_pure (hQ _ he')
theorem EnSt.keep {h h' : Heap} {e it S : Addr} {i : Nat} (x : EnSt h e it S i) (heS : e ≠ S) (k : ∀ b o, b ≠ S → h.get? b = some o → h'.get? b = some o) : EnSt h' e it S i := by
  rcases x with ⟨old, he⟩ | ⟨old, T, f, oT, he, hT, hTe, hTi, hTS⟩
  · exact .inl ⟨old, k e _ heS he⟩
  · exact .inr ⟨old, T, f, oT, k e _ heS he, k T _ hTS hT, hTe, hTi, hTS⟩
theorem EnSt.lt {h : Heap} {e it S : Addr} {i : Nat} (x : EnSt h e it S i) : e < h.objs.size := by
  rcases x with ⟨old, he⟩ | ⟨old, T, f, oT, he, _⟩
  · exact Heap.lt_size he
  · exact Heap.lt_size he
theorem EnSt.ty {e it S : Addr} {i : Nat} (x : EnSt s.heap e it S i) : s.TypeIs (.ref e) "enumerate" := by
  rcases x with ⟨old, he⟩ | ⟨old, T, f, oT, he, _⟩
  · exact ⟨_, he, rfl⟩
  · exact ⟨_, he, rfl⟩
end
section
variable {X : Cx} {pins : List (Addr × Obj)} {σ : L2.St} {A : Around} {R : Result → Shared → Prop}
/-- the pairs (i, x) of the first n -/
def EnPairs (H : Hp) (zs : List V) (xs : List V) (n : Nat) : Prop := zs.length = n ∧ ∀ j z x, zs[j]? = some z → xs[j]? = some x → SqK false H z [.int ((j : Nat) : Int), x]
theorem le_loop {b : Bool} {S e it a : Addr} {xs : List V} {its : List Value} {H0 : Hp} (hh : A.handled = none) (res : Value) (rv : Vals xs its) (hai : a ≠ it) (hae : a ≠ e) (hne : e ≠ it) (hSe : S ≠ e) (hSi : S ≠ it) (hSa : S ≠ a) (hlen : xs.length ≤ 1000)
    (hR : ∀ s' H' zs, Inv X pins σ H' s' → H' S = some (.lst zs) → EnPairs H' zs xs xs.length → (∀ c o, c ≠ S → H0 c = some o → H' c = some o) → R (.ok (.ret res)) s') :
    ∀ (k i : Nat) (s : Shared) (H : Hp) (zs : List V), xs.length - i = k → i ≤ xs.length → Inv X pins σ H s → H S = some (.lst zs) → EnPairs H zs xs i → (∀ c o, c ≠ S → H0 c = some o → H c = some o) → FpOk X pins H e → FpOk X pins H it →
      EnSt s.heap e it S i → HIsIt b s.heap it a i → HIsSq b s.heap a its.toArray → codeAny (model X.prog X.w) A (.builtin "list.extend.loop" ⟨[.ref S, .ref e, res], []⟩) R s := by
  have hil : its.toArray.size = xs.length := by rw [List.size_toArray, rv.length]
  have D : Draws X.prog X.w A.in1.in1 it [it, a] xs.length (fun i v => its.toArray[i]? = some v) (fun i h => HIsIt b h it a i ∧ HIsSq b h a its.toArray) := by
    have d := draws_sq (prog := X.prog) (w := X.w) (A := A.in1.in1) hh b it a hai its.toArray
    rw [hil] at d
    exact d
  intro k
  induction k with
  | zero =>
    intro i s H zs hk hi I hS hz h0 fe fi he hit hsq
    have hin : i = xs.length := by omega
    subst hin
    refine codeAny_builtin PySem.F.entry_extend_loop ?_
    rw [Around.under_plainId PySem.F.plain_extend_loop _]
    show wpAny _ A.in1 (pyNext (.ref e) >>= _) _ _ s
    refine wpAny_bind (en_done D he ⟨hit, hsq⟩ fun h' eb => ?_)
    have I2 : Inv X pins σ H { s with heap := h' } := I.turned (t' := s.toks) (fun c o hb q => eb c o hb q) fi.1 fi.2.1 fi.2.2.2.1 fi.2.2.2.2.1 fi.2.2.2.2.2
    exact wpAny_pure (hR _ H zs I2 hS hz h0)
  | succ k ih =>
    intro i s H zs hk hi I hS hz h0 fe fi he hit hsq
    have hlt : i < xs.length := by omega
    have hx : xs[i]? = some xs[i] := by simp
    obtain ⟨u, hu, ru⟩ := rv.get hx
    have hil' : it < s.heap.objs.size := by obtain ⟨_, q, _⟩ := hisIt_obj hit; exact Heap.lt_size q
    have hel := he.lt
    obtain ⟨_, _, _, _, _, eS⟩ := I.lstM hS
    have hSl : S < s.heap.objs.size := Heap.lt_size eS
    refine codeAny_builtin PySem.F.entry_extend_loop ?_
    rw [Around.under_plainId PySem.F.plain_extend_loop _]
    show wpAny _ A.in1 (pyNext (.ref e) >>= _) _ _ s
    refine wpAny_bind (en_item D he ⟨hit, hsq⟩ hlt hne (by simp; exact ⟨hne, fun q => hae q.symm⟩) hil' hSl fun u' h' tk hu' he' st' hT hsz hk' => ?_)
    have eu : u' = u := by
      rw [show its.toArray[i]? = its[i]? by simp] at hu'
      rw [hu] at hu'; exact (Option.some.inj hu').symm
    subst eu
    have new : ObjOk X.prog X.w (upd H s.heap.objs.size (.tup [.int (i : Nat), xs[i]])) h' s.heap.objs.size (.tup [.int (i : Nat), xs[i]]) :=
      ⟨by show 2 ≤ sizeLine; decide, [.int i tk, u'], .cons ⟨_, rfl⟩ (.cons ru .nil), ⟨_, hT, rfl, _, rfl⟩⟩
    have hf : ∀ c ∈ [e, it], FpOk X pins H c := fun c hc => by
      have e' : c = e ∨ c = it := by simpa using hc
      rcases e' with z | z <;> rw [z]
      · exact fe
      · exact fi
    have I1 : Inv X pins σ (upd H s.heap.objs.size (.tup [.int (i : Nat), xs[i]])) { s with heap := h', toks := tk + 1 } :=
      I.turnedNew (t' := tk + 1) (ch := [e, it]) (fun c o hb q => hk' c o (fun q' => hb (by simp [q'])) (fun q' => hb (by simp [q'])) q) hf (Nat.le_refl _) new
    have hfr : H s.heap.objs.size = none := I.hok.fresh (Nat.le_refl _)
    have hS1 : (upd H s.heap.objs.size (.tup [.int (i : Nat), xs[i]])) S = some (.lst zs) := by rw [upd_ne (Nat.ne_of_lt hSl)]; exact hS
    have hT1 : (upd H s.heap.objs.size (.tup [.int (i : Nat), xs[i]])) s.heap.objs.size = some (.tup [.int (i : Nat), xs[i]]) := upd_same
    have hs1 : Same H (upd H s.heap.objs.size (.tup [.int (i : Nat), xs[i]])) := Same.of_new hfr
    have fe1 : FpOk X pins (upd H s.heap.objs.size (.tup [.int (i : Nat), xs[i]])) e := ⟨by rw [upd_ne (Nat.ne_of_lt hel)]; exact fe.1, fe.2⟩
    have fi1 : FpOk X pins (upd H s.heap.objs.size (.tup [.int (i : Nat), xs[i]])) it := ⟨by rw [upd_ne (Nat.ne_of_lt hil')]; exact fi.1, fi.2⟩
    have hTS : s.heap.objs.size ≠ S := Nat.ne_of_gt hSl
    generalize upd H s.heap.objs.size (.tup [.int (i : Nat), xs[i]]) = H1 at I1 hS1 hT1 hs1 fe1 fi1
    obtain ⟨hzl, its1, n1, r1, hl1, eS1⟩ := I1.lstM hS1
    have hz1 : its1.length = i := by rw [← hl1]; exact hz.1
    show wpAny _ A.in1 (updateSeq S (·.push (Value.ref s.heap.objs.size)) >>= _) _ _ _
    refine wpAny_bind ?_
    have sl : 1000 + 2 ≤ sizeLine := by decide
    refine wpAny_updateSeq eS1 rfl (wpAny_pure ⟨plainId_quiet PySem.F.plain_extend_loop _, ?_⟩) (by rw [List.size_toArray]; omega) (by show (its1.toArray.push (Value.ref s.heap.objs.size)).size ≤ sizeLine + 1; rw [Array.size_push, List.size_toArray]; omega)
    have I2 := I1.lset (its' := its1 ++ [Value.ref s.heap.objs.size]) (ys := zs ++ [.ref s.heap.objs.size]) (f := (·.push (Value.ref s.heap.objs.size))) (t' := tk + 1) hS1 eS1 (by simp) (r1.append (.cons (show L2.RelV (.ref s.heap.objs.size) (Value.ref s.heap.objs.size) from rfl) .nil)) (by rw [List.length_append, List.length_singleton]; omega)
    have snS : SameN H1 (upd H1 S (.lst (zs ++ [.ref s.heap.objs.size]))) := SameN.lst hS1
    have up : ∀ c o, c ≠ S → h'.get? c = some o → (h'.update S (Obj.mapSeq (·.push (Value.ref s.heap.objs.size)))).get? c = some o := fun c o hc q => (Heap.get?_update_other _ _ (Ne.symm hc)).trans q
    refine ih (i + 1) _ (upd H1 S (.lst (zs ++ [.ref s.heap.objs.size]))) _ (by omega) hlt I2 upd_same ⟨by simp [hz.1], fun j z x hj hxj => ?_⟩ (fun c o hc q => ?_) ⟨by rw [upd_ne (Ne.symm hSe)]; exact fe1.1, fe1.2⟩ ⟨by rw [upd_ne (Ne.symm hSi)]; exact fi1.1, fi1.2⟩ (he'.keep (Ne.symm hSe) up) ?_ ?_
    · by_cases hji : j < zs.length
      · rw [List.getElem?_append_left hji] at hj
        exact ((hz.2 j z x hj hxj).same hs1).n snS
      · have ej : j = zs.length := by
          have := (List.getElem?_eq_some_iff.mp hj).1
          simp at this; omega
        subst ej
        rw [List.getElem?_append_right (Nat.le_refl _)] at hj
        simp at hj
        subst hj
        rw [hz.1] at hxj ⊢
        rw [hx] at hxj; cases hxj
        exact (SqK.tup hT1).n snS
    · rw [upd_ne hc]; exact hs1 _ _ (h0 c o hc q)
    · exact (D.frame _ _ _ st' fun c hc o q => up c o (fun z => by
        have e' : c = it ∨ c = a := by simpa using hc
        rcases e' with y | y
        · exact hSi (z.symm.trans y)
        · exact hSa (z.symm.trans y)) q).1
    · exact (D.frame _ _ _ st' fun c hc o q => up c o (fun z => by
        have e' : c = it ∨ c = a := by simpa using hc
        rcases e' with y | y
        · exact hSi (z.symm.trans y)
        · exact hSa (z.symm.trans y)) q).2
/-- ahead of the walk: what list asks of its argument -/
theorem le_extend {b : Bool} {S e it a : Addr} {xs : List V} {its : List Value} {s : Shared} {H : Hp} (hh : A.handled = none) (res : Value) (rv : Vals xs its) (hai : a ≠ it) (hae : a ≠ e) (hne : e ≠ it) (hSe : S ≠ e) (hSi : S ≠ it) (hSa : S ≠ a) (hlen : xs.length ≤ 1000)
    (I : Inv X pins σ H s) (hS : H S = some (.lst [])) (fe : FpOk X pins H e) (fi : FpOk X pins H it) {old : Value} (he : IsEnum s.heap e it 0 old) (hit : HIsIt b s.heap it a 0) (hsq : HIsSq b s.heap a its.toArray)
    (hR : ∀ s' H' zs, Inv X pins σ H' s' → H' S = some (.lst zs) → EnPairs H' zs xs xs.length → (∀ c o, c ≠ S → H c = some o → H' c = some o) → R (.ok (.ret res)) s') :
    wpAny (model X.prog X.w) A.in1 (Builtin.List.listExtendWith (.ref S) (.ref e) res)
      (fun fin s' => match fin with | .done f => R (.ok f) s' | .again c' => c'.quiet = true ∧ codeAny (model X.prog X.w) A c' R s') (fun e s' => R (.error e) s') s := by
  have hty : s.TypeIs (.ref e) "enumerate" := ⟨_, he, rfl⟩
  unfold Builtin.List.listExtendWith
  refine wpAny_bind (wpAny_typeOf (T := "enumerate") hty ?_)
  have h1 : Builtin.List.listSameRef (.ref S) (.ref e) = false := by simp [Builtin.List.listSameRef, hSe]
  have h2 : (Value.type "enumerate" == Value.type "list") = false := by decide
  have h3 : (Value.type "enumerate" == Value.type "tuple") = false := by decide
  simp only [h1, h2, h3, Bool.or_false, Bool.false_eq_true, if_false]
  refine wpAny_bind (wpAny_pyIter_enum he ?_)
  refine wpAny_bind (wpAny_holding ?_)
  unfold Builtin.List.listLengthHint
  refine wpAny_bind (wpAny_specialOf hty en_nolen ?_)
  show wpAny _ A.in1 (specialOf (Value.ref e) (Str.ofString "__length_hint__") >>= _) _ _ _
  refine wpAny_bind (wpAny_specialOf hty en_nohint ?_)
  refine wpAny_pure ?_
  show wpAny _ A.in1 (rule "list.extend.makes-room" >>= fun _ => Builtin.List.listTouch (.ref S) >>= fun _ => again (.builtin "list.extend.loop" ⟨[.ref S, .ref e, res], []⟩)) _ _ _
  refine wpAny_bind (wpAny_rule ?_)
  obtain ⟨_, its1, n1, r1, hl1, eS⟩ := I.lstM hS
  have e0 : its1 = [] := List.eq_nil_of_length_eq_zero (by rw [← hl1]; rfl)
  subst e0
  refine wpAny_bind ?_
  show wpAny _ A.in1 (updateSeq S (·.push .none) >>= fun _ => updateSeq S (·.pop)) _ _ _
  refine wpAny_bind (wpAny_updateSeq eS rfl ?_)
  have I1 := I.lset (its' := [Value.none]) (ys := [.non]) (f := (·.push Value.none)) (t' := s.toks) hS eS (by simp) (.cons (show L2.RelV .non Value.none from rfl) .nil) (by decide)
  have hS1 : (upd H S (.lst [V.non])) S = some (.lst [.non]) := upd_same
  obtain ⟨_, its2, n2, r2, hl2, eS2⟩ := I1.lstM hS1
  have hi2 : its2.toArray.pop = ([] : List Value).toArray := by
    match its2, hl2 with
    | [_], _ => rfl
  have hz2 : its2.length = 1 := hl2.symm
  refine wpAny_updateSeq eS2 rfl ?_ (by rw [List.size_toArray, hz2]; decide) (by rw [hi2]; decide)
  have I2 := I1.lset (its' := []) (ys := []) (f := (·.pop)) (t' := s.toks) hS1 eS2 hi2 .nil (by decide)
  have up1 : ∀ c o, c ≠ S → s.heap.get? c = some o → ((s.heap.update S (Obj.mapSeq (·.push Value.none))).update S (Obj.mapSeq (·.pop))).get? c = some o := fun c o hc q => (Heap.get?_update_other _ _ (Ne.symm hc)).trans ((Heap.get?_update_other _ _ (Ne.symm hc)).trans q)
  have D : Draws X.prog X.w A it [it, a] its.toArray.size (fun i v => its.toArray[i]? = some v) (fun i h => HIsIt b h it a i ∧ HIsSq b h a its.toArray) := draws_sq hh b it a hai its.toArray
  have fr := D.frame _ _ _ ⟨hit, hsq⟩ fun c hc o q => up1 c o (fun z => by
    have e' : c = it ∨ c = a := by simpa using hc
    rcases e' with y | y
    · exact hSi (z.symm.trans y)
    · exact hSa (z.symm.trans y)) q
  refine wpAny_pure ⟨plainId_quiet PySem.F.plain_extend_loop _, le_loop (H0 := H) hh res rv hai hae hne hSe hSi hSa hlen hR xs.length 0 _ _ [] rfl (Nat.zero_le _) I2 upd_same ⟨rfl, fun j z x h => by simp at h⟩ (fun c o hc q => by rw [upd_ne hc, upd_ne hc]; exact q) ⟨by rw [upd_ne (Ne.symm hSe), upd_ne (Ne.symm hSe)]; exact fe.1, fe.2⟩ ⟨by rw [upd_ne (Ne.symm hSi), upd_ne (Ne.symm hSi)]; exact fi.1, fi.2⟩ (.inl ⟨old, up1 e _ (Ne.symm hSe) he⟩) fr.1 fr.2⟩
/-- list(an enumerate) -/
theorem le_call {b : Bool} {e it a : Addr} {xs : List V} {its : List Value} {s : Shared} {H : Hp} {Q : Value → Shared → Prop} {E : Value → Shared → Prop} (hh : A.handled = none) (rv : Vals xs its) (hai : a ≠ it) (hae : a ≠ e) (hne : e ≠ it) (hlen : xs.length ≤ 1000) (hal : a < s.heap.objs.size) (hel : e < s.heap.objs.size) (hil : it < s.heap.objs.size)
    (I : Inv X pins σ H s) (fe : FpOk X pins H e) (fi : FpOk X pins H it) {old : Value} (he : IsEnum s.heap e it 0 old) (hit : HIsIt b s.heap it a 0) (hsq : HIsSq b s.heap a its.toArray)
    (hQ : ∀ s' H' zs, Inv X pins σ H' s' → H' s.heap.objs.size = some (.lst zs) → EnPairs H' zs xs xs.length → Same H H' → Q (.ref s.heap.objs.size) s') :
    wpAny (model X.prog X.w) A (call (.type "list") [.ref e]) Q E s := by
  refine callType_codes (Q₁ := fun obj s₁ => obj = .ref s.heap.objs.size ∧ s₁ = { s with heap := s.heap.push { cls := .type "list", data := .seq #[] } }) PySem.F.called_list (PySem.F.typeCall_list_1 _) PySem.F.entry_list_init
    (code_list_new _ ⟨rfl, rfl⟩) fun obj s₁ h₁ => ?_
  obtain ⟨rfl, rfl⟩ := h₁
  have hS : (s.heap.push { cls := .type "list", data := .seq #[] }).get? s.heap.objs.size = some { cls := .type "list", data := .seq #[] } := Heap.get?_push_size _ rfl
  have hfr : H s.heap.objs.size = none := I.hok.fresh (Nat.le_refl _)
  have I1 : Inv X pins σ (upd H s.heap.objs.size (.lst [])) { s with heap := s.heap.push { cls := .type "list", data := .seq #[] } } := I.lnew (its := []) (t' := s.toks) .nil (by decide)
  have hS1 : (upd H s.heap.objs.size (.lst [])) s.heap.objs.size = some (.lst []) := upd_same
  have sm : Same H (upd H s.heap.objs.size (.lst [])) := Same.of_new hfr
  have nS : ∀ c, c < s.heap.objs.size → (upd H s.heap.objs.size (.lst [])) c = H c := fun c hc => upd_ne (Nat.ne_of_lt hc)
  have D : Draws X.prog X.w A it [it, a] its.toArray.size (fun i v => its.toArray[i]? = some v) (fun i h => HIsIt b h it a i ∧ HIsSq b h a its.toArray) := draws_sq hh b it a hai its.toArray
  refine ⟨⟨_, hS, rfl⟩, PySem.F.args_list_init_2 _ _, ?_⟩
  show wpAny _ _ (do let old ← Builtin.List.listItems (.ref s.heap.objs.size); Builtin.List.listUpdate (.ref s.heap.objs.size) (fun _ => #[]); letGo old.toList.reverse; Builtin.List.listExtendWith (.ref s.heap.objs.size) (.ref e) .none) _ _ _
  refine wpAny_bind ?_
  unfold Builtin.List.listItems
  refine wpAny_bind (wpAny_seqItems hS rfl (wpAny_pure ?_))
  show wpAny _ _ (updateSeq s.heap.objs.size (fun _ => #[]) >>= fun _ => letGo (#[] : Array Value).toList.reverse >>= fun _ => Builtin.List.listExtendWith (.ref s.heap.objs.size) (.ref e) .none) _ _ _
  refine wpAny_bind (wpAny_updateSeq hS rfl ?_)
  have I2 := I1.lset (its := []) (its' := []) (ys := []) (f := fun _ => #[]) (t' := s.toks) hS1 hS rfl .nil (by decide)
  have up : ∀ c o, c ≠ s.heap.objs.size → s.heap.get? c = some o → ((s.heap.push { cls := .type "list", data := .seq #[] }).update s.heap.objs.size (Obj.mapSeq (fun _ => (#[] : Array Value)))).get? c = some o :=
    fun c o hc q => (Heap.get?_update_other _ _ (Ne.symm hc)).trans (Heap.get?_push_of_some _ q)
  have fr := D.frame _ _ _ ⟨hit, hsq⟩ fun c hc o q => up c o (fun z => by
    have e' : c = it ∨ c = a := by simpa using hc
    rcases e' with y | y
    · exact Nat.ne_of_lt hil (y.symm.trans z)
    · exact Nat.ne_of_lt hal (y.symm.trans z)) q
  refine wpAny_bind (wpAny_letGo ?_)
  refine le_extend (A := A.in1) (S := s.heap.objs.size) hh .none rv hai hae hne (Nat.ne_of_gt hel) (Nat.ne_of_gt hil) (Nat.ne_of_gt hal) hlen I2 upd_same ⟨by rw [upd_ne (Nat.ne_of_lt hel), nS e hel]; exact fe.1, fe.2⟩ ⟨by rw [upd_ne (Nat.ne_of_lt hil), nS it hil]; exact fi.1, fi.2⟩ (up e _ (Nat.ne_of_lt hel) he) fr.1 fr.2 fun s' H' zs I' hS' hz hk => ?_
  refine ⟨rfl, hQ s' H' zs I' hS' hz fun c o q => ?_⟩
  have hc : c ≠ s.heap.objs.size := fun z => by rw [z, hfr] at q; cases q
  exact hk c o hc (by rw [upd_ne hc]; exact sm _ _ q)
end
section
variable {X : Cx}
def tLE (K : PySem.W.Frag) (ta : TA) : TE := fun σ H Q => ta σ H fun vs H1 => ∃ b a xs, vs = [.ref a] ∧ SqB K b H1 a xs ∧ xs.length ≤ 1000 ∧ ∀ q H' zs, Same H1 H' → H1 q = none → H' q = some (.lst zs) → EnPairs H' zs xs xs.length → Q (.ref q) H'
theorem pe_listEnum {e : Expr} {ta : TA} {p p2 pos pos2 : Pos} (hc : X.calm = true) (hgl : Gl X "list") (hml : X.mg "list" = none) (hg : Gl X "enumerate") (hm : X.mg "enumerate" = none) (ha : PA X [e] ta) (hs : starEach [e] X.env = [(false, eval e X.env)] := by rfl)
    (na : starEach [.Call (.Name "enumerate" p) [e] [] pos] X.env = (false, eval (.Call (.Name "enumerate" p) [e] [] pos) X.env) :: starEach [] X.env := by rfl) :
    PE X (.Call (.Name "list" p2) [.Call (.Name "enumerate" p) [e] [] pos] [] pos2) (tLE X.K ta) := by
  refine ⟨fun pins s σ H Q I h => ?_⟩
  refine Call_ (ld_blt I hgl hml boot_list (PyProof.Rows.callWith_type1 (args_cons ?_ na) na))
  refine Call_ (ld_blt I hg hm boot_enumerate (PyProof.Rows.callWith_type1 (thn (ha.run pos pins s σ H _ I h) fun us s1 ⟨vs, H1, I1, r1, q1⟩ => ?_) hs rfl))
  obtain ⟨b, a, xs, ex, hq, hlen, q⟩ := q1
  subst ex
  cases r1 with
  | cons r rr =>
    cases rr
    cases r
    obtain ⟨its, rv, p', hz, hal⟩ := inv_sq I1 hq
    refine enum_begins1 (begins_sq b a its.toArray) p' fun h' he hit hsz hk => ?_
    have I2 : Inv X pins σ H1 { s1 with heap := h' } := I1.kept (t' := s1.toks) hk
    refine args_nil ?_
    have f1 : FpOk X pins H1 (s1.heap.objs.size + 1) := I1.fpOk (Nat.le_add_right _ _) (I1.hok.fresh (Nat.le_add_right _ _))
    have f2 : FpOk X pins H1 s1.heap.objs.size := I1.fpOk (Nat.le_refl _) (I1.hok.fresh (Nat.le_refl _))
    have D : Draws X.prog X.w X.A s1.heap.objs.size [s1.heap.objs.size, a] its.toArray.size (fun i v => its.toArray[i]? = some v) (fun i h => HIsIt b h s1.heap.objs.size a i ∧ HIsSq b h a its.toArray) := draws_sq (I.ok.hd hc) b _ a (Nat.ne_of_lt hal) its.toArray
    have hqq : HIsSq b h' a its.toArray := by
      cases b
      · exact Heap.IsTuple.at p' fun o q => hk a o q
      · exact Heap.IsList.at p' fun o q => hk a o q
    refine le_call (I.ok.hd hc) rv (Nat.ne_of_lt hal) (Nat.ne_of_lt (Nat.lt_succ_of_lt hal)) (Nat.succ_ne_self _) hlen (by show a < h'.objs.size; rw [hsz]; exact Nat.lt_of_lt_of_le hal (Nat.le_add_right _ _)) (by show _ < h'.objs.size; rw [hsz]; exact Nat.lt_succ_self _) (by show _ < h'.objs.size; rw [hsz]; exact Nat.lt_of_lt_of_le (Nat.lt_succ_self _) (Nat.le_succ _)) I2 f1 f2 he (hisIt_new hit) hqq fun s' H' zs I' hS' hzz sm => ?_
    exact ⟨.ref _, H', I', rfl, q _ H' zs sm (I2.hok.fresh (Nat.le_refl _)) hS' hzz⟩
end
end Hp
namespace Hp
set_option Elab.async false
set_option linter.all false
set_option maxRecDepth 100000
set_option maxHeartbeats 4000000
open PySem PySem.Spec PyProof.Rows L2 NdefX
/-- at z: a walk, a standing and a number -/
def WyAt (H : Hp) (z : V) (p : Nat × Rat) : Prop := ∃ vq, SqK false H z [.int ((p.1 : Nat) : Int), vq] ∧ Num H vq p.2
theorem WyAt.n {H H' : Hp} {z : V} {p : Nat × Rat} (h : WyAt H z p) (e : SameN H H') : WyAt H' z p := let ⟨vq, h1, h2⟩ := h; ⟨vq, h1.n e, h2.mono e⟩
theorem WysAt.n {H H' : Hp} {zs : List V} {L : Wy} (h : Paired (WyAt H) zs L) (e : SameN H H') : Paired (WyAt H') zs L := Paired.mapP h fun _ _ q => q.n e
theorem larr1_snoc (l : List (Nat × Nat)) (a : Nat × Nat) (p : Nat × Rat) : larr1 (l ++ [a]) p = larr1 l p ++ (if a.1 = p.1 then [(a.2, p.2)] else []) := by
  unfold larr1
  rw [List.filter_append, List.map_append]
  congr 1
  by_cases e : a.1 = p.1
  · simp [e]
  · simp [e]
theorem larr_snoc (as : List (Nat × Nat)) (L : Wy) (p : Nat × Rat) : larr as (L ++ [p]) = larr as L ++ larr1 as p := by
  unfold larr; rw [List.flatMap_append]; simp
theorem larr1_len (as : List (Nat × Nat)) (p : Nat × Rat) : (larr1 as p).length ≤ as.length := by
  unfold larr1; rw [List.length_map]; exact List.length_filter_le _ _
theorem larr_len (as : List (Nat × Nat)) : ∀ L : Wy, (larr as L).length ≤ as.length * L.length
  | [] => by simp [larr]
  | p :: L => by
    have h1 := larr1_len as p
    have h2 := larr_len as L
    unfold larr at h2 ⊢
    rw [List.flatMap_cons, List.length_append, List.length_cons, Nat.mul_succ]
    omega
/-- sizes of walks ahead of day i -/
def WyB (k i : Nat) (L : Wy) : Prop := (∀ p ∈ L, p.1 < k ∧ Bd (2 * 15120 ^ i) (6 * 181440 ^ i) p.2) ∧ L.length ≤ 3 * 9 ^ i
theorem WyB.enum {k : Nat} {ws : List Rat} (hk : ws.length = k) (h3 : k ≤ 3) (hb : ∀ w ∈ ws, Bd 2 6 w) : WyB k 0 (enumW ws) := by
  refine ⟨fun p hp => ?_, by unfold enumW; simp; omega⟩
  unfold enumW at hp
  obtain ⟨j, hj, rfl⟩ := List.mem_map.mp hp
  have hj' : j < ws.length := by simpa using hj
  exact ⟨by omega, by simpa using getD_mem hb hj'⟩
theorem WyB.lmul {g k i : Nat} {ms : List (List Rat)} {d : List Rat} {L : Wy} (h : WyB k i L) (hk : ms.length = k) (hg : g ≤ 3) (hm : ∀ m ∈ ms, MixB g m) (hd : DayOk g d) : (∀ p ∈ lmul ms d L, p.1 < k ∧ Bd (2 * 15120 ^ (i + 1)) (6 * 181440 ^ (i + 1)) p.2) ∧ (lmul ms d L).length ≤ 3 * 9 ^ i := by
  refine ⟨fun p hp => ?_, by unfold Hp.lmul; rw [List.length_map]; exact h.2⟩
  unfold Hp.lmul at hp
  obtain ⟨q, hq, rfl⟩ := List.mem_map.mp hp
  obtain ⟨h1, h2⟩ := h.1 q hq
  refine ⟨h1, ?_⟩
  have hmm : ms.getD q.1 [] ∈ ms := by
    rw [List.getD_eq_getElem?_getD, List.getElem?_eq_getElem (by omega)]; exact List.getElem_mem _
  rw [Nat.pow_succ, Nat.pow_succ, ← Nat.mul_assoc, ← Nat.mul_assoc]
  exact h2.mul (day_dot hg (hm _ hmm) hd)
theorem WyB.step {g k i : Nat} {ms : List (List Rat)} {as : List (Nat × Nat)} {d : List Rat} {L : Wy} (last : Bool) (h : WyB k i L) (hk : ms.length = k) (hg : g ≤ 3) (hm : ∀ m ∈ ms, MixB g m) (hd : DayOk g d) (ha : ∀ p ∈ as, p.1 < k ∧ p.2 < k) (hl : as.length ≤ 9) : WyB k (i + 1) (lstep ms as last L d) := by
  obtain ⟨h1, h2⟩ := h.lmul hk hg hm hd
  unfold lstep
  cases last with
  | true => exact ⟨h1, Nat.le_trans h2 (by rw [Nat.pow_succ]; omega)⟩
  | false =>
    refine ⟨fun p hp => ?_, ?_⟩
    · obtain ⟨j, hj, hq⟩ := larr_mem.mp (show (p.1, p.2) ∈ larr as (Hp.lmul ms d L) from hp)
      exact ⟨(ha _ hj).2, (h1 _ hq).2⟩
    · have := larr_len as (Hp.lmul ms d L)
      refine Nat.le_trans this ?_
      rw [Nat.pow_succ]
      calc as.length * (Hp.lmul ms d L).length ≤ 9 * (3 * 9 ^ i) := Nat.mul_le_mul hl h2
        _ = 3 * (9 ^ i * 9) := by omega
theorem wy_sz {i : Nat} {q : Rat} (hi : i ≤ 3) (h : Bd (2 * 15120 ^ i) (6 * 181440 ^ i) q) : Sz q := by
  have : i = 0 ∨ i = 1 ∨ i = 2 ∨ i = 3 := by omega
  rcases this with rfl | rfl | rfl | rfl <;> exact h.sz (by decide) (by decide +kernel) (by decide +kernel)
theorem foldl_rmax_sz {i : Nat} (hi : i ≤ 3) {L : List Rat} (h : ∀ q ∈ L, Bd (2 * 15120 ^ i) (6 * 181440 ^ i) q) : Sz (L.foldl rmax 0) := by
  rcases (foldl_rmax L 0).at_ with e | e
  · rw [e]; exact (Bd.zero 1 1).sz (by decide) (by decide) (by decide)
  · exact wy_sz hi (h _ e)
end Hp
namespace Hp
set_option Elab.async false
set_option linter.all false
set_option maxRecDepth 100000
set_option maxHeartbeats 4000000
open PySem PySem.Spec PyProof.Rows L2 NdefX
theorem rmax_t {p q : Rat} (h : p < q) : rmax p q = q := if_pos h
theorem rmax_f {p q : Rat} (h : ¬ p < q) : rmax p q = p := if_neg h
section
variable {P : Program} {w : World} {K : PySem.W.Frag} {mg : Str → Option Value} {base : Heap}
def sp_law_walked  : Sp :=  fun vs H Q _ => ∃ v u b ys mk ms as ws g, vs = [v, u] ∧ OwnAt g 1 H v (.walk ms as ws) ∧ PrOk g 1 (.walk ms as ws) ∧ g ≤ 3 ∧ SqK b H u ys ∧ RowsAt H ys mk ∧ MkOk g mk ∧ ∀ x H', Same H H' → Num H' x (rmaxs (walkW ms as ws mk)) → Q x H'
theorem sc_law_walked : FnScope ["_law_own", "_law_market", "_law_kind", "_law_mixes", "_law_arrows", "_law_weights", "_law_ways", "_law_at", "_law_day", "_law_one", "_law_number_here", "_law_later", "_law_found", "_law_start", "_law_two"] ["_law_own", "_law_market"] (defScope s_law_walked) := ⟨rfl, rfl, rfl, by decide +kernel, rfl, by decide +kernel, by decide +kernel⟩
theorem c_law_walked (T : Wd K mg base) : Cal P w K mg base 6 "_law_walked" sp_law_walked [] := by
  obtain ⟨fd, F⟩ := T.d_law_walked
  refine mkCal (k := 6 - 1) F T.g_law_walked sc_law_walked (F.bindsN fun _ _ _ _ _ _ us hl => match us, hl with | [_, _], _ => rfl) (fun vs H Q E h => ?_) (fun cdv A outer s H vs Q E hr h => ?_)
  · rcases h with ⟨v, u, b, ys, mk, ms, as, ws, g, rfl, ho, hok, hg, sy, hy, hmk, k⟩ <;> rfl
  · rcases h with ⟨v, u, b, ys, mk, ms, as, ws, g, rfl, ho, hok, hg, sy, hy, hmk, k⟩
    refine ⟨_, (pss_cons (ps_asg (pv 0) (pg_tup rfl (pgs_cons (pg_name (i := 2) sc_law_walked.nd rfl (Or.inl rfl)) (pgs_cons (pg_name (i := 3) sc_law_walked.nd rfl (Or.inr rfl)) (pgs_cons (pg_name (i := 4) sc_law_walked.nd rfl (Or.inl rfl)) (pgs_cons (pg_name (i := 5) sc_law_walked.nd rfl (Or.inl rfl)) pgs_nil))))))
  (pss_cons (ps_set (i := 6) sc_law_walked.nd rfl (Or.inl rfl) (pe_listEnum rfl (by rfl) T.f_list (by rfl) T.f_enumerate (pa_cons (pv 5) pa_nil)))
  (pss_cons (ps_for PassesOwn.never rfl (pi_enumS (by rfl) T.f_enumerate (pa_cons (pv 1) pa_nil)) (pg_tup rfl (pgs_cons (pg_name (i := 7) sc_law_walked.nd rfl (Or.inl rfl)) (pgs_cons (pg_name (i := 8) sc_law_walked.nd rfl (Or.inr rfl)) pgs_nil)))
  (pss_cons (ps_setLc (i := 6) (own := [("_law_one", 9), ("_law_number_here", 10)]) rfl sc_law_walked.nd rfl rfl (sw_true rfl rfl rfl (by decide +kernel)) (pi_seq (pv 6)) (blkOk_by (own := [("_law_one", 9), ("_law_number_here", 10)]) (N := ["_law_own", "_law_market", "_law_kind", "_law_mixes", "_law_arrows", "_law_weights", "_law_ways", "_law_at", "_law_day", "_law_one", "_law_number_here", "_law_later", "_law_found", "_law_start", "_law_two"]) (sc := defScope s_law_walked) (by decide +kernel)) (fun _ _ _ _ _ => by exact (by refine pg_pair (K := K) (i := 9) (j := 10) ?_ ?_ ?_ ?_ ?_ ?_ ?_ <;> first | exact sc_law_walked.nd | rfl)) (fun _ _ _ _ _ => by exact pts_nil) (fun _ _ _ _ _ => by exact (pe_tup (pa_cons (pv 9) (pa_cons (pe_c (c_law_times T) hr (by decide) rfl (pa_cons (pv 10) (pa_cons (pe_c (c_law_paid T) hr (by decide) rfl (pa_cons (pe_ix (ixK (K := K) rfl) (pv 3) (pv 9) (fun _ _ => rfl)) (pa_cons (pv 8) pa_nil))) pa_nil))) pa_nil)))))
  (pss_one (ps_if (pt_cmpR op_lt (pv 7) (pe_op op_sub (pe_callB call_len_seq (by rfl) T.f_len (by decide +kernel) (pa_cons (pv 1) pa_nil)) pe_int) (nomark _)) (pss_cons (ps_set (i := 11) sc_law_walked.nd rfl (Or.inl rfl) (pe_lst pa_nil))
  (pss_cons (ps_for PassesOwn.never rfl (pi_seq (pv 6)) (pg_tup rfl (pgs_cons (pg_name (i := 9) sc_law_walked.nd rfl (Or.inr rfl)) (pgs_cons (pg_name (i := 10) sc_law_walked.nd rfl (Or.inr rfl)) pgs_nil)))
  (pss_one (ps_expr (pe_bm PySem.F.plainAttrs_list PySem.F.slot_list_extend PySem.F.type_list_extend mt_extend (pv 11) (pa_cons (pe_lc (own := [("_law_start", 13), ("_law_two", 14)]) rfl sc_law_walked.nd (pi_seq (pv 4)) (blkOk_by (own := [("_law_start", 13), ("_law_two", 14)]) (N := ["_law_own", "_law_market", "_law_kind", "_law_mixes", "_law_arrows", "_law_weights", "_law_ways", "_law_at", "_law_day", "_law_one", "_law_number_here", "_law_later", "_law_found", "_law_start", "_law_two"]) (sc := defScope s_law_walked) (by decide +kernel)) (fun _ _ _ _ _ => by exact (by refine pg_pair (K := K) (i := 13) (j := 14) ?_ ?_ ?_ ?_ ?_ ?_ ?_ <;> first | exact sc_law_walked.nd | rfl)) (fun _ _ _ _ _ => by exact (pts_one (pt_cmpR op_eq (pv 13) (pv 9) (nomark _)))) (fun _ _ _ _ _ => by exact (pe_tup (pa_cons (pv 14) (pa_cons (pv 10) pa_nil))))) pa_nil)))))
  (pss_one (ps_set (i := 6) sc_law_walked.nd rfl (Or.inl rfl) (pv 11))))) pss_nil))))
  (pss_cons (ps_set (i := 12) sc_law_walked.nd rfl (Or.inl rfl) pe_int)
  (pss_cons (ps_for PassesOwn.never rfl (pi_seq (pv 6)) (pg_tup rfl (pgs_cons (pg_name (i := 9) sc_law_walked.nd rfl (Or.inr rfl)) (pgs_cons (pg_name (i := 10) sc_law_walked.nd rfl (Or.inr rfl)) pgs_nil)))
  (pss_one (ps_set (i := 12) sc_law_walked.nd rfl (Or.inl rfl) (pe_ifExp (pt_val (pe_c (c_law_is_less T) hr (by decide) rfl (pa_cons (pv 12) (pa_cons (pv 10) pa_nil)))) (pv 10) (pv 12)))))
  (pss_one (ps_ret (pv 12)))))))), ?_⟩
    obtain ⟨vm, va, vw, xm, xa, ⟨pv, rfl, hpv⟩, sm, hm, sa, ha, ⟨xw, sw, hw⟩, hnd⟩ := ho
    obtain ⟨hma, hwl, hwb⟩ := hok
    obtain ⟨pu, rfl, hpu⟩ := id sy
    obtain ⟨pw, rfl, hpw⟩ := id sw
    have hmixes := hma.2.2.1
    have har := hma.2.2.2.1
    have hal9 := hma.2.2.2.2.1
    have hm3 := hma.2.1
    have hml := hm.length
    have hyl := hy.length
    have hmkl := hmk.1
    have hwl' := hw.length
    have hxal := ha.length
    have hfin : lways ms as mk (enumW ws) = lways ms as mk (enumW ws) := rfl
    refine u_seq (u_asg ⟨_, rfl, pv, _, rfl, SqT.of hpv, rfl, _, _, rfl, _, _, rfl, _, _, rfl, _, _, rfl, rfl, ?_⟩)
    dsimp only
    refine u_seq (u_asg ⟨_, rfl, false, pw, xw, rfl, SqB.of (b := false) hpw, by omega, fun W H1 zs0 s1 _ hW hz0 => u_gname ?_⟩)
    dsimp only
    have hL0 : Paired (WyAt H1) zs0 (enumW ws) := by
      refine paired_of (by rw [hz0.1, hwl']; simp [enumW]) fun i z p hz hp => ?_
      unfold enumW at hp
      rw [List.getElem?_map] at hp
      obtain ⟨i', hi', rfl⟩ := Option.map_eq_some_iff.mp hp
      have e : i' = i := by
        have := List.getElem?_eq_some_iff.mp hi'
        simpa using this.2.symm
      subst e
      have hil : i' < ws.length := by
        have := (List.getElem?_eq_some_iff.mp hi').1
        simpa using this
      have hx : xw[i']? = some (xw[i']'(by omega)) := by simp
      obtain ⟨q, hq, hxq⟩ := paired_get hw hx
      refine ⟨_, hz0.2 i' z _ hz hx, ?_⟩
      rw [List.getD_eq_getElem?_getD, hq]
      exact hxq.mono s1.n
    refine u_seq ?_
    refine for_enum (H1 := H1) (v := .ref pu) (b := b) (xs := ys) (gives_var rfl) (sy.same s1) (fun i σ' H' => ∃ W zs L y7 y8 y9 y10 y11 y12 y13 y14, σ' = [some (.ref pv), some (.ref pu), some (.str "walk"), some vm, some va, some (.ref pw), some (.ref W), y7, y8, y9, y10, y11, y12, y13, y14] ∧ Same H1 H' ∧ H' W = some (.lst zs) ∧ Paired (WyAt H') zs L ∧ WyB ms.length i L ∧ lways ms as (mk.drop i) L = lways ms as mk (enumW ws)) ?_ ?_ ?_ ?_
    · exact ⟨W, zs0, enumW ws, _, _, _, _, _, _, _, _, rfl, Same.refl _, hW, hL0, WyB.enum hwl hm3 fun w hw => (hwb w hw).2, rfl⟩
    · rintro i σ' H' _ ⟨W', zs, L, _, _, _, _, _, _, _, _, rfl, s2, _⟩
      exact (sy.same s1).same s2
    · rintro i z σ' H' T hz ⟨W', zs, L, y7, y8, y9, y10, y11, y12, y13, y14, rfl, s2, hW', hL, hB, hlw⟩ hT
      obtain ⟨d, hd, hzd⟩ := paired_get hy hz
      have hdd := hmk.2 d (mem_get hd)
      have hi3 : i < mk.length := (List.getElem?_eq_some_iff.mp hd).1
      have s3 := s2.trans (Same.of_new (o := .tup [V.int (i : Int), z]) hT)
      have sT := Same.of_new (o := .tup [V.int (i : Int), z]) hT
      have hW3 := sT _ _ hW'
      have hL3 := WysAt.n hL sT.n
      generalize L2.upd H' T (.tup [V.int (i : Int), z]) = H2 at s3 hW3 hL3 ⊢
      have s13 := s1.trans s3
      have hzl := hL.length
      have hmul := hB.lmul rfl hg hmixes hdd
      have h9 : 3 * 9 ^ i ≤ 243 := by
        have : 9 ^ i ≤ 9 ^ 2 := Nat.pow_le_pow_right (by decide) (by omega)
        omega
      refine u_seq (u_asg ?_)
      refine lcg_pairs (H1 := H2) (v := .ref W') (b := true) (xs := zs) (gives_var rfl) (SqK.lst hW3) (by have := hB.2; omega) (fun D j H4 acc => Same H2 H4 ∧ Paired (WyAt H4) acc ((lmul ms d L).take j)) (fun D j H4 acc h => (SqK.lst hW3).same h.1) ?_ ?_ ?_ (fun _ _ => rfl)
      · intro D hD
        exact ⟨Same.of_new hD, by rw [List.take_zero]; exact .nil⟩
      · rintro D j x H4 acc R Z hx hD hl hDa ⟨s4, hacc⟩ hR _
        obtain ⟨p, hp, vq, sq, hq⟩ := paired_get hL3 hx
        have hpB := hB.1 p (mem_get hp)
        have hgm : xm[p.1]? = some (xm[p.1]'(by omega)) := by simp
        obtain ⟨m, hmm, hrow, sr, hr⟩ := paired_get hm hgm
        have s14 := s13.trans s4
        have hmx := hmixes m (mem_get hmm)
        obtain ⟨zs5, sz5, hz5⟩ := hzd
        refine ⟨_, _, sq.n s4.n, yesG ?_⟩
        refine ⟨_, rfl, _, rfl, _, rfl, _, rfl, ixOf (i := p.1) (sm.same s14) hgm ⟨_, rfl, false, false, _, _, hrow, zs5, m, d, rfl, sr.same s14, sz5.same s14, hr.mono s14.n, hz5.mono s14.n, by rw [hr.length, hmx.1]; omega, mix_sz hmx, day_sz hdd, day_sum hg hmx hdd, fun y H5 s5 hy5 => ?_⟩⟩
        have hdb := day_dot hg hmx hdd
        refine ⟨_, _, p.2, rdot m d, rfl, (hq.mono s4.n).mono s5.n, hy5, wy_sz (by omega) hpB.2, hdb.sz (by decide) (by decide) (by decide), fun y2 H6 s6 hy6 => ⟨sz2, fun t nt => ?_⟩⟩
        have s7 := Same.of_new (o := .tup [V.int (p.1 : Int), y2]) nt
        have s47 := (s5.trans s6).trans s7
        have hD7 := s47 _ _ hDa
        have ht7 : (L2.upd H6 t (.tup [V.int (p.1 : Int), y2])) t = some (.tup [V.int (p.1 : Int), y2]) := upd_same
        have hy7 := hy6.mono s7.n
        generalize L2.upd H6 t (.tup [V.int (p.1 : Int), y2]) = H7 at s47 hD7 ht7 hy7 ⊢
        have sn : SameN H7 (L2.upd H7 D (.lst (acc ++ [V.ref t]))) := SameN.lst hD7
        have e9 : (lmul ms d L)[j]? = some (p.1, p.2 * rdot m d) := by
          unfold lmul
          rw [List.getElem?_map, hp, Option.map_some, List.getD_eq_getElem?_getD, hmm]; rfl
        refine hR _ _ hD7 ⟨fun a o h => ?_, ?_⟩
        · rw [upd_ne (ne_of_none h hD)]; exact s47 _ _ (s4 _ _ h)
        · rw [take_snoc e9]
          exact paired_append (WysAt.n (WysAt.n hacc s47.n) sn) (.cons ⟨_, (SqK.tup ht7).n sn, hy7.mono sn⟩ .nil)
      · rintro D H4 acc hD hDa ⟨s4, hacc⟩
        have hll : (lmul ms d L).length = L.length := by unfold lmul; rw [List.length_map]
        rw [hzl, ← hll, List.take_length] at hacc
        refine u_gname ?_
        dsimp only
        have s24 := s3.trans s4
        have edrop : mk.drop i = d :: mk.drop (i + 1) := by
          have : mk[i]? = some d := hd
          rw [List.drop_eq_getElem_cons hi3]
          congr 1
          exact Option.some.inj ((List.getElem?_eq_getElem hi3).symm.trans this)
        rw [edrop] at hlw
        have hlw' : lways ms as (mk.drop (i + 1)) (lstep ms as (mk.drop (i + 1)).isEmpty L d) = lways ms as mk (enumW ws) := hlw
        have hBs := hB.step (mk.drop (i + 1)).isEmpty rfl hg hmixes hdd har hal9
        refine ⟨_, rfl, _, rfl, _, _, rfl, (sy.same (s1.trans s24)).or, _, _, rfl, rfl, _, _, rfl, rfl, _, rfl, u_if (fun hb => ?_) (fun hb => ?_)⟩
        · have hlt : (mk.drop (i + 1)).isEmpty = false := by
            have h1 := of_decide_eq_true hb
            rw [hyl] at h1
            rw [List.isEmpty_eq_false_iff]
            intro e
            have := congrArg List.length e
            rw [List.length_drop] at this
            simp at this
            omega
          rw [hlt] at hlw' hBs
          refine u_seq (u_asg ⟨(by show 0 ≤ sizeLine; decide), fun F nF => u_gname ?_⟩)
          dsimp only
          have s5 := Same.of_new (o := .lst []) nF
          have hF5 : (L2.upd H4 F (.lst [])) F = some (.lst []) := upd_same
          have hD5 := s5 _ _ hDa
          have hacc5 := WysAt.n hacc s5.n
          have s25 := s24.trans s5
          have DF : D ≠ F := fun e => by rw [e, nF] at hDa; cases hDa
          have oldF : ∀ a u, H1 a = some u → a ≠ F := fun a u h => ne_of_none (s24 _ _ h) nF
          have sF : ∀ a u, H4 a = some u → a ≠ F := fun a u h => ne_of_none h nF
          generalize L2.upd H4 F (.lst []) = H5 at s5 hF5 hD5 hacc5 s25 ⊢
          have hal : acc.length ≤ 243 := by rw [hacc.length, hll]; have := hB.2; omega
          refine u_seq ?_
          refine for_pairs (H1 := H5) (v := .ref D) (b := true) (xs := acc) (gives_var rfl) (SqK.lst hD5) (fun j σ' H6 => ∃ zs2 y9 y10 y13 y14, σ' = [some (.ref pv), some (.ref pu), some (.str "walk"), some vm, some va, some (.ref pw), some (.ref D), some (.int (i : Int)), some z, y9, y10, some (.ref F), y12, y13, y14] ∧ SameB F H5 H6 ∧ H6 F = some (.lst zs2) ∧ Paired (WyAt H6) zs2 (larr as ((lmul ms d L).take j))) ?_ ?_ ?_ ?_
          · exact ⟨[], _, _, _, _, rfl, SameB.of (Same.refl _), hF5, by rw [List.take_zero]; exact .nil⟩
          · rintro j σ' H6 _ ⟨zs2, _, _, _, _, rfl, sb, _⟩
            exact ⟨D, rfl, sb _ _ DF hD5⟩
          · rintro j x σ' H6 hx ⟨zs2, _, _, _, _, rfl, sb, hF6, hz2⟩
            obtain ⟨p, hp, vq, sq, hq⟩ := paired_get hacc5 hx
            have snb : SameN H5 H6 := Chg.n ⟨sb, _, hF5⟩
            refine ⟨_, _, sq.n snb, ?_⟩
            have hq6 := hq.mono snb
            have oldH : Same H H6 := fun a o h => sb _ _ (oldF a o (s1 _ _ h)) (s25 _ _ (s1 _ _ h))
            refine ⟨_, rfl, .inl ⟨rfl, _, SqL.of hF6⟩, u_cons ?_⟩
            refine lcg_pairs (H1 := H6) (v := va) (b := false) (xs := xa) (gives_var rfl) (sa.same oldH) (by omega) (fun E l H7 acc2 => Same H6 H7 ∧ Paired (WyAt H7) acc2 (larr1 (as.take l) p)) (fun E l H7 acc2 h => (sa.same oldH).same h.1) ?_ ?_ ?_ (fun _ _ => rfl)
            · intro E hE
              exact ⟨Same.of_new hE, by rw [List.take_zero]; exact .nil⟩
            · rintro E l x2 H7 acc2 R Z hx2 hE hl2 hEa ⟨s7, hacc2⟩ hR hZ
              obtain ⟨a, ha2, hxa⟩ := paired_get ha hx2
              refine ⟨_, _, SqK.same hxa (oldH.trans s7), _, rfl, _, rfl, rfl, _, rfl, u_if (fun h => ?_) (fun h => ?_)⟩
              · have e1 : a.1 = p.1 := by
                  have := V.int.inj (of_decide_eq_true h)
                  omega
                refine ⟨_, rfl, _, rfl, sz2, fun t nt => ?_⟩
                have s8 := Same.of_new (o := .tup [V.int (a.2 : Int), vq]) nt
                have hE8 := s8 _ _ hEa
                have ht8 : (L2.upd H7 t (.tup [V.int (a.2 : Int), vq])) t = some (.tup [V.int (a.2 : Int), vq]) := upd_same
                have hq8 := (hq6.mono s7.n).mono s8.n
                generalize L2.upd H7 t (.tup [V.int (a.2 : Int), vq]) = H8 at s8 hE8 ht8 hq8 ⊢
                have sn : SameN H8 (L2.upd H8 E (.lst (acc2 ++ [V.ref t]))) := SameN.lst hE8
                refine hR _ _ hE8 ⟨fun b o h => ?_, ?_⟩
                · rw [upd_ne (ne_of_none h hE)]; exact s8 _ _ (s7 _ _ h)
                · rw [take_snoc ha2, larr1_snoc, if_pos e1]
                  exact paired_append (WysAt.n (WysAt.n hacc2 s8.n) sn) (.cons ⟨_, (SqK.tup ht8).n sn, hq8.mono sn⟩ .nil)
              · have e1 : ¬ a.1 = p.1 := fun e => by
                  have := of_decide_eq_false h
                  exact this (by rw [e])
                refine hZ _ hEa ⟨s7, ?_⟩
                rw [take_snoc ha2, larr1_snoc, if_neg e1, List.append_nil]
                exact hacc2
            · rintro E H7 acc2 hE hEa ⟨s7, hacc2⟩
              rw [hxal, List.take_length] at hacc2
              have hF7 := s7 _ _ hF6
              have hFE : F ≠ E := fun e => by rw [e, hE] at hF6; cases hF6
              have hz7 := WysAt.n hz2 s7.n
              have l1 : zs2.length ≤ 9 * 243 := by
                rw [hz2.length]
                refine Nat.le_trans (larr_len as _) (Nat.mul_le_mul hal9 ?_)
                rw [List.length_take, hll]; have := hB.2; omega
              have l2 : acc2.length ≤ 9 := by rw [hacc2.length]; exact Nat.le_trans (larr1_len as p) hal9
              refine ⟨F, E, zs2, acc2, rfl, rfl, hF7, hEa, Nat.le_trans (by omega : zs2.length + acc2.length ≤ 9 * 243 + 9) (by decide), ?_⟩
              have sn : SameN H7 (L2.upd H7 F (.lst (zs2 ++ acc2))) := SameN.lst hF7
              refine ⟨zs2 ++ acc2, _, _, _, _, rfl, (sb.trans (SameB.of s7)).trans SameB.upd, upd_same, ?_⟩
              rw [take_snoc hp, larr_snoc]
              exact paired_append (WysAt.n hz7 sn) (WysAt.n hacc2 sn)
          · rintro σ' H6 ⟨zs2, y9, y10, y13, y14, rfl, sb, hF6, hz2⟩
            rw [hacc.length, List.take_length] at hz2
            dsimp only
            refine u_asg ⟨_, rfl, u_gname ?_⟩
            refine ⟨F, zs2, _, _, _, _, _, _, _, _, _, rfl, fun a o h => sb _ _ (oldF a o h) (s25 _ _ h), hF6, hz2, hBs, hlw'⟩
        · have hlt : (mk.drop (i + 1)).isEmpty = true := by
            have h1 := of_decide_eq_false hb
            rw [hyl] at h1
            rw [List.isEmpty_iff]
            refine List.eq_nil_of_length_eq_zero ?_
            rw [List.length_drop]
            omega
          rw [hlt] at hlw' hBs
          exact u_next ⟨D, acc, _, _, _, _, _, _, _, _, _, rfl, s24, hDa, hacc, hBs, hlw'⟩
    · rintro σ' H' ⟨W', zs, L, y7, y8, y9, y10, y11, y12, y13, y14, rfl, s2, hW', hL, hB, hlw⟩
      rw [hyl, List.drop_length] at hlw
      have hlw' : L = lways ms as mk (enumW ws) := hlw
      rw [hyl] at hB
      dsimp only
      refine u_seq (u_asg (u_tC (u_gname ?_)))
      dsimp only
      refine u_seq ?_
      have hall : ∀ q ∈ L.map (·.2), Bd (2 * 15120 ^ mk.length) (6 * 181440 ^ mk.length) q := fun q hq => by
        obtain ⟨p, hp, rfl⟩ := List.mem_map.mp hq
        exact (hB.1 p hp).2
      refine for_pairs (H1 := H') (v := .ref W') (b := true) (xs := zs) (gives_var rfl) (SqK.lst hW') (fun j σ' H6 => ∃ y y9 y10, σ' = [some (.ref pv), some (.ref pu), some (.str "walk"), some vm, some va, some (.ref pw), some (.ref W'), y7, y8, y9, y10, y11, some y, y13, y14] ∧ Same H' H6 ∧ Num H6 y (((L.map (·.2)).take j).foldl rmax 0)) ?_ ?_ ?_ ?_
      · exact ⟨_, _, _, rfl, Same.refl _, by rw [List.take_zero]; exact Num.int H' 0⟩
      · rintro j σ' H6 _ ⟨y, _, _, rfl, s6, _⟩
        exact (SqK.lst hW').same s6
      · rintro j x σ' H6 hx ⟨y, _, _, rfl, s6, hy6⟩
        obtain ⟨p, hp, vq, sq, hq⟩ := paired_get hL hx
        have hq6 := hq.mono s6.n
        have ej : (L.map (·.2))[j]? = some p.2 := by rw [List.getElem?_map, hp]; rfl
        refine ⟨_, _, sq.same s6, ?_⟩
        have z1 : Sz (((L.map (·.2)).take j).foldl rmax 0) := foldl_rmax_sz hmkl fun q hq => hall q (List.mem_of_mem_take hq)
        have z2 : Sz p.2 := wy_sz hmkl (hall _ (mem_get ej))
        refine u_asg ⟨_, rfl, _, rfl, _, _, _, _, rfl, hy6, hq6, z1, z2, fun H7 s7 => ⟨_, rfl, u_if (fun h => ?_) (fun h => ?_)⟩⟩
        · refine ⟨_, rfl, u_gname ⟨_, _, _, rfl, s6.trans s7, ?_⟩⟩
          rw [foldl_take_snoc rmax 0 ej]
          rw [rmax_t (of_decide_eq_true h)]
          exact hq6.mono s7.n
        · refine ⟨_, rfl, u_gname ⟨_, _, _, rfl, s6.trans s7, ?_⟩⟩
          rw [foldl_take_snoc rmax 0 ej]
          rw [rmax_f (of_decide_eq_false h)]
          exact hy6.mono s7.n
      · rintro σ' H6 ⟨y, y9, y10, rfl, s6, hy6⟩
        dsimp only
        refine u_ret ⟨_, rfl, k y H6 ((s1.trans s2).trans s6) ?_⟩
        have e1 : zs.length = (L.map (·.2)).length := by rw [hL.length, List.length_map]
        rw [e1, List.take_length] at hy6
        have e2 := walk_law (as' := as) hma hwl (fun q hq => (hwb q hq).1) (fun _ => Iff.rfl) hmk
        unfold lwalk at e2
        rw [← e2, ← hlw']
        exact hy6
end
end Hp
namespace Hp
set_option Elab.async false
set_option linter.all false
set_option maxRecDepth 100000
set_option maxHeartbeats 4000000
open PySem PySem.Spec PyProof.Rows L2 NdefX
def prKd : Pr → Str
  | .hold _ => "hold"
  | .mix _ => "mix"
  | .walk _ _ _ => "walk"
  | .times _ _ => "times"
  | .thn _ _ _ => "then"
  | .sum _ => "sum"
  | .gre _ => "greatest"
theorem OwnAt.head {g n : Nat} {H : Hp} {v : V} {p : Pr} (h : OwnAt g n H v p) : ∃ xs, SqK false H v xs ∧ xs[0]? = some (.str (prKd p)) := by
  cases n with
  | zero => exact absurd h (fun z => z)
  | succ n =>
    cases p with
    | hold i => exact ⟨_, h, rfl⟩
    | mix m => obtain ⟨vm, h1, _⟩ := h; exact ⟨_, h1, rfl⟩
    | walk ms as ws => obtain ⟨vm, va, vw, xm, xa, h1, _⟩ := h; exact ⟨_, h1, rfl⟩
    | times q p => obtain ⟨vq, vp, h1, _⟩ := h; exact ⟨_, h1, rfl⟩
    | thn d a b => obtain ⟨va, vb, h1, _⟩ := h; exact ⟨_, h1, rfl⟩
    | sum l => obtain ⟨vp, xs, h1, _⟩ := h; exact ⟨_, h1, rfl⟩
    | gre l => obtain ⟨vp, xs, h1, _⟩ := h; exact ⟨_, h1, rfl⟩
theorem foldl_sz {b : Rat} {l : List Rat} (h0 : Sz b) (h : ∀ q ∈ l, Sz q) : Sz (l.foldl rmax b) := by
  rcases (foldl_rmax l b).at_ with e | e
  · rw [e]; exact h0
  · exact h _ e
theorem rmaxs_all_foldl {a : Rat} {l : List Rat} (h : l[0]? = some a) : l.foldl rmax a = rmaxs l := by
  cases l with
  | nil => simp at h
  | cons b l =>
    have e : b = a := by simpa using h
    subst e
    show l.foldl rmax (rmax b b) = l.foldl rmax b
    have : rmax b b = b := by unfold rmax; split <;> rfl
    rw [this]
section
variable {P : Program} {w : World} {K : PySem.W.Frag} {mg : Str → Option Value} {base : Heap}
def sp_law_worth (n : Nat) : Sp := fun vs H Q _ => ∃ v p u b ys mk g, vs = [v, u] ∧ OwnAt g n H v p ∧ PrOk g n p ∧ g ≤ 3 ∧ n ≤ 3 ∧ SqK b H u ys ∧ RowsAt H ys mk ∧ MkOk g mk ∧ ∀ x H', Same H H' → Num H' x (worth n p mk) → Q x H'
theorem sc_law_worth : FnScope ["_law_own", "_law_market", "_law_found", "_law_day", "_law_worths", "_law_number_here", "_law_part", "_law_good", "_law_count"] ["_law_own", "_law_market"] (defScope s_law_worth) := ⟨rfl, rfl, rfl, by decide +kernel, rfl, by decide +kernel, by decide +kernel⟩
theorem c_law_worth (T : Wd K mg base) : ∀ n : Nat, Cal P w K mg base (6 + n) "_law_worth" (sp_law_worth  n) []
  | 0 => by
    obtain ⟨fd, F⟩ := T.d_law_worth
    refine mkCal (k := 6 - 1) F T.g_law_worth sc_law_worth (F.bindsN fun _ _ _ _ _ _ us hl => match us, hl with | [_, _], _ => rfl) (fun vs H Q E h => ?_) (fun cdv A outer s H vs Q E hr h => ?_)
    · exfalso
      obtain ⟨v, p, u, b, ys, mk, g, rfl, h, _⟩ := h; exact h
    · exfalso
      obtain ⟨v, p, u, b, ys, mk, g, rfl, h, _⟩ := h; exact h
  | n + 1 => by
    have ih := c_law_worth T n
    obtain ⟨fd, F⟩ := T.d_law_worth
    refine mkCal (k := 6 + n) F T.g_law_worth sc_law_worth (F.bindsN fun _ _ _ _ _ _ us hl => match us, hl with | [_, _], _ => rfl) (fun vs H Q E h => ?_) (fun cdv A outer s H vs Q E hr h => ?_)
    · rcases h with ⟨v, p, u, b, ys, mk, g, rfl, ho0, hok, hg, hn3, sy0, hy0, hmk, k0⟩ <;> rfl
    · rcases h with ⟨v, p, u, b, ys, mk, g, rfl, ho0, hok, hg, hn3, sy0, hy0, hmk, k0⟩
      refine ⟨_, (pss_cons (ps_if (pt_cmpR op_in_seq (pe_ix ix_seq (pv 0) pe_int (fun _ _ => rfl)) (pe_tup (pa_cons pe_str (pa_cons pe_str pa_nil))) (by with_unfolding_all rfl)) (pss_cons (ps_set (i := 2) sc_law_worth.nd rfl (Or.inl rfl) pe_int)
        (pss_cons (ps_for PassesOwn.never rfl (pi_seq (pv 1)) (pg_name (i := 3) sc_law_worth.nd rfl (Or.inl rfl))
        (pss_one (ps_set (i := 2) sc_law_worth.nd rfl (Or.inl rfl) (pe_c (c_law_times T) hr (by omega) rfl (pa_cons (pv 2) (pa_cons (pe_ifExp (pt_cmpR op_eq (pe_ix ix_seq (pv 0) pe_int (fun _ _ => rfl)) pe_str (nomark _)) (pe_ix ix_seq (pv 3) (pe_ix ix_seq (pv 0) pe_int (fun _ _ => rfl)) (fun _ _ => rfl)) (pe_c (c_law_paid T) hr (by omega) rfl (pa_cons (pe_ix ix_seq (pv 0) pe_int (fun _ _ => rfl)) (pa_cons (pv 3) pa_nil)))) pa_nil))))))
        (pss_one (ps_ret (pv 2))))) pss_nil)
        (pss_cons (ps_if (pt_cmpR op_eq (pe_ix ix_seq (pv 0) pe_int (fun _ _ => rfl)) pe_str (nomark _)) pss_never pss_nil)
        (pss_cons (ps_if (pt_cmpR op_eq (pe_ix ix_seq (pv 0) pe_int (fun _ _ => rfl)) pe_str (nomark _)) (pss_one (ps_ret (pe_c (c_law_walked T) hr (by omega) rfl (pa_cons (pv 0) (pa_cons (pv 1) pa_nil))))) pss_nil)
        (pss_cons (ps_if (pt_cmpR op_eq (pe_ix ix_seq (pv 0) pe_int (fun _ _ => rfl)) pe_str (nomark _)) (pss_one (ps_ret (pe_c (c_law_times T) hr (by omega) rfl (pa_cons (pe_ix ix_seq (pv 0) pe_int (fun _ _ => rfl)) (pa_cons (pe_c (ih) hr (by omega) rfl (pa_cons (pe_ix ix_seq (pv 0) pe_int (fun _ _ => rfl)) (pa_cons (pv 1) pa_nil))) pa_nil))))) pss_nil)
        (pss_cons (ps_if (pt_cmpR op_eq (pe_ix ix_seq (pv 0) pe_int (fun _ _ => rfl)) pe_str (nomark _)) (pss_one (ps_ret (pe_c (c_law_times T) hr (by omega) rfl (pa_cons (pe_c (ih) hr (by omega) rfl (pa_cons (pe_ix ix_seq (pv 0) pe_int (fun _ _ => rfl)) (pa_cons (pe_slice sl_any (pv 1) po_none (po_some (pe_ix ix_seq (pv 0) pe_int (fun _ _ => rfl)))) pa_nil))) (pa_cons (pe_c (ih) hr (by omega) rfl (pa_cons (pe_ix ix_seq (pv 0) pe_int (fun _ _ => rfl)) (pa_cons (pe_slice sl_any (pv 1) (po_some (pe_ix ix_seq (pv 0) pe_int (fun _ _ => rfl))) po_none) pa_nil))) pa_nil))))) pss_nil)
        (pss_cons (ps_setLc (i := 4) (own := [("_law_part", 6)]) rfl sc_law_worth.nd rfl rfl (sw_true rfl rfl rfl (by decide +kernel)) (pi_seq (pe_ix ix_seq (pv 0) pe_int (fun _ _ => rfl))) (blkOk_by (own := [("_law_part", 6)]) (N := ["_law_own", "_law_market", "_law_found", "_law_day", "_law_worths", "_law_number_here", "_law_part", "_law_good", "_law_count"]) (sc := defScope s_law_worth) (by decide +kernel)) (fun _ _ _ _ _ => by exact (pg_name (i := 6) sc_law_worth.nd rfl (by first | exact Or.inl rfl | exact Or.inr rfl))) (fun _ _ _ _ _ => by exact pts_nil) (fun _ _ _ _ _ => by exact (pe_c (ih) hr (by omega) rfl (pa_cons (pv 6) (pa_cons (pv 1) pa_nil)))))
        (pss_cons (ps_if (pt_cmpR op_eq (pe_ix ix_seq (pv 0) pe_int (fun _ _ => rfl)) pe_str (nomark _)) (pss_one (ps_ret (pe_c (c_law_total T) hr (by omega) rfl (pa_cons (pv 4) pa_nil)))) pss_nil)
        (pss_cons (ps_set (i := 2) sc_law_worth.nd rfl (Or.inl rfl) (pe_ix ix_seq (pv 4) pe_int (fun _ _ => rfl)))
        (pss_cons (ps_for PassesOwn.never rfl (pi_seq (pv 4)) (pg_name (i := 5) sc_law_worth.nd rfl (Or.inl rfl))
        (pss_one (ps_set (i := 2) sc_law_worth.nd rfl (Or.inl rfl) (pe_ifExp (pt_val (pe_c (c_law_is_less T) hr (by omega) rfl (pa_cons (pv 2) (pa_cons (pv 5) pa_nil)))) (pv 5) (pv 2)))))
        (pss_one (ps_ret (pv 2)))))))))))), ?_⟩
      obtain ⟨xs0, sx0, hx0⟩ := ho0.head
      refine u_seq (u_ifT (u_op ⟨_, rfl, ixOf (i := 0) sx0 hx0 ⟨sz2, fun T0 nT => ⟨T0, _, rfl, .inr (SqT.of upd_same), rfl, rfl, _, rfl, ?_⟩⟩⟩))
      have s0 := Same.of_new (o := .tup [V.str "hold", V.str "mix"]) nT
      have ho := ho0.n s0.n
      have sy := sy0.same s0
      have hy := RowsAt.n hy0 s0.n
      have k : ∀ x H', Same (L2.upd H T0 (.tup [V.str "hold", V.str "mix"])) H' → Num H' x (worth (n + 1) p mk) → Q x H' := fun x H' s => k0 x H' (s0.trans s)
      generalize L2.upd H T0 (.tup [V.str "hold", V.str "mix"]) = H1 at ho sy hy k ⊢
      clear k0 ho0 sx0 hx0 sy0 hy0
      have hylen := hy.length
      cases p with
      | hold i =>
        have sv : SqK false H1 v _ := ho
        dsimp only [prKd]
        refine itt (by decide +kernel) ?_
        refine u_seq (u_asg (u_tC (u_gname ?_)))
        dsimp only
        have szp : SzProd (mk.map fun d => d.getD i 0) := szprod_of (L := 3) (worth_hold_bd hok hmk) (by rw [List.length_map]; exact hmk.1) (by decide) (by decide) (by decide) (by decide) (by decide)
        refine u_seq ?_
        refine for_seq (H1 := H1) (v := u) (b := b) (xs := ys) (gives_var rfl) sy (fun j σ' H' => ∃ y y3, σ' = [some v, some u, some y, y3, none, none, none, none, none] ∧ Same H1 H' ∧ Num H' y (rprod ((mk.map fun d => d.getD i 0).take j))) ?_ ?_ ?_ ?_
        · exact ⟨_, _, rfl, Same.refl _, by rw [List.take_zero]; exact Num.int H1 1⟩
        · rintro j σ' H' _ ⟨_, _, rfl, s, _⟩
          exact sy.same s
        · rintro j z σ' H' hz ⟨y, y3, rfl, s, hyy⟩
          obtain ⟨d, hd, zs, sz, hzs⟩ := paired_get hy hz
          have hdl := (hmk.2 d (mem_get hd)).1
          have hj : i < zs.length := by rw [hzs.length, hdl]; exact hok
          have hg' : zs[i]? = some zs[i] := by simp
          obtain ⟨q, hq, hn'⟩ := paired_get hzs hg'
          have ej : (mk.map fun d => d.getD i 0)[j]? = some q := by rw [List.getElem?_map, hd, Option.map_some, List.getD_eq_getElem?_getD, hq]; rfl
          refine u_asg ⟨_, rfl, _, rfl, ixOf (i := 0) (sv.same s) rfl ⟨rfl, _, rfl, itt kd_eq ⟨_, rfl, _, rfl, ixOf (i := 2) (sv.same s) rfl (ixOf (i := i) (sz.same s) hg' ⟨_, _, _, q, rfl, hyy, hn'.mono s.n, szp.2 j, szp.1 q (mem_get ej), fun x H5 s5 hx => u_gname ⟨_, _, rfl, s.trans s5, ?_⟩⟩)⟩⟩⟩
          rw [rprod_take ej]; exact hx
        · rintro σ' H' ⟨y, y3, rfl, s, hyy⟩
          rw [hylen, ← List.length_map (f := fun d : List Rat => d.getD i 0), List.take_length] at hyy
          dsimp only
          exact u_ret ⟨_, rfl, k y H' s hyy⟩
      | mix m =>
        obtain ⟨vm, sv, xm, sm, hm⟩ := ho
        have hmx : MixB g m := hok
        dsimp only [prKd]
        refine itt (by decide +kernel) ?_
        refine u_seq (u_asg (u_tC (u_gname ?_)))
        dsimp only
        have szp : SzProd (mk.map (rdot m)) := szprod_of (L := 3) (worth_mix_bd hg hmx hmk) (by rw [List.length_map]; exact hmk.1) (by decide) (by decide) (by decide) (by decide) (by decide)
        refine u_seq ?_
        refine for_seq (H1 := H1) (v := u) (b := b) (xs := ys) (gives_var rfl) sy (fun j σ' H' => ∃ y y3, σ' = [some v, some u, some y, y3, none, none, none, none, none] ∧ Same H1 H' ∧ Num H' y (rprod ((mk.map (rdot m)).take j))) ?_ ?_ ?_ ?_
        · exact ⟨_, _, rfl, Same.refl _, by rw [List.take_zero]; exact Num.int H1 1⟩
        · rintro j σ' H' _ ⟨_, _, rfl, s, _⟩
          exact sy.same s
        · rintro j z σ' H' hz ⟨y, y3, rfl, s, hyy⟩
          obtain ⟨d, hd, zs, sz, hzs⟩ := paired_get hy hz
          have hdd := hmk.2 d (mem_get hd)
          have ej : (mk.map (rdot m))[j]? = some (rdot m d) := by rw [List.getElem?_map, hd]; rfl
          refine u_asg ⟨_, rfl, _, rfl, ixOf (i := 0) (sv.same s) rfl ⟨rfl, _, rfl, itf (kd_ne (by decide)) ⟨_, rfl, ixOf (i := 1) (sv.same s) rfl ⟨_, rfl, false, false, vm, z, xm, zs, m, d, rfl, sm.same s, sz.same s, hm.mono s.n, hzs.mono s.n, by rw [hm.length, hmx.1]; omega, mix_sz hmx, day_sz hdd, day_sum hg hmx hdd, fun x2 H2 s2 hx2 => ?_⟩⟩⟩⟩
          refine ⟨_, _, _, _, rfl, hyy.mono s2.n, hx2, szp.2 j, szp.1 _ (mem_get ej), fun x H5 s5 hx => u_gname ⟨_, _, rfl, (s.trans s2).trans s5, ?_⟩⟩
          rw [rprod_take ej]; exact hx
        · rintro σ' H' ⟨y, y3, rfl, s, hyy⟩
          rw [hylen, ← List.length_map (f := rdot m), List.take_length] at hyy
          dsimp only
          exact u_ret ⟨_, rfl, k y H' s hyy⟩
      | walk ms as ws =>
        have ho' : OwnAt g 1 H1 v (.walk ms as ws) := ho
        obtain ⟨vm, va, vw, xm, xa, sv, _⟩ := ho
        dsimp only [prKd]
        refine itf (by decide +kernel) (u_next ?_)
        dsimp only
        refine u_seq (u_ifT (u_op ⟨_, rfl, ixOf (i := 0) sv rfl ⟨rfl, _, rfl, itf (kd_ne (by decide)) ⟨_, rfl, ixOf (i := 0) sv rfl ⟨rfl, _, rfl, itt kd_eq ?_⟩⟩⟩⟩))
        exact u_ret ⟨_, rfl, _, rfl, v, u, b, ys, mk, ms, as, ws, g, rfl, ho', hok, hg, sy, hy, hmk, k⟩
      | times q p =>
        obtain ⟨vq, vp, sv, hq, hp⟩ := ho
        obtain ⟨h0, hqb, hpo⟩ := hok
        dsimp only [prKd]
        refine itf (by decide +kernel) (u_next ?_)
        dsimp only
        refine u_seq (u_ifT (u_op ⟨_, rfl, ixOf (i := 0) sv rfl ⟨rfl, _, rfl, itf (kd_ne (by decide)) ⟨_, rfl, ixOf (i := 0) sv rfl ⟨rfl, _, rfl, itf (kd_ne (by decide)) ⟨_, rfl, ixOf (i := 0) sv rfl ⟨rfl, _, rfl, itt kd_eq ?_⟩⟩⟩⟩⟩⟩))
        cases n with
        | zero => exact absurd hpo (fun z => z)
        | succ n =>
        refine u_ret ⟨_, rfl, ixOf (i := 1) sv rfl ⟨_, rfl, ixOf (i := 2) sv rfl ⟨_, rfl, vp, p, u, b, ys, mk, g, rfl, hp, hpo, hg, by omega, sy, hy, hmk, fun x H2 s2 hx => ?_⟩⟩⟩
        exact ⟨_, _, _, _, rfl, hq.mono s2.n, hx, hqb.sz (by decide) (by decide) (by decide), worth_sz hg (by omega) hpo hmk, fun y H3 s3 hy3 => k y H3 (s2.trans s3) hy3⟩
      | thn d pa pb =>
        obtain ⟨va, vb, sv, hpa, hpb⟩ := ho
        obtain ⟨hd3, hoa, hob⟩ := hok
        dsimp only [prKd]
        refine itf (by decide +kernel) (u_next ?_)
        dsimp only
        refine u_seq (u_ifT (u_op ⟨_, rfl, ixOf (i := 0) sv rfl ⟨rfl, _, rfl, itf (kd_ne (by decide)) ⟨_, rfl, ixOf (i := 0) sv rfl ⟨rfl, _, rfl, itf (kd_ne (by decide)) ⟨_, rfl, ixOf (i := 0) sv rfl ⟨rfl, _, rfl, itf (kd_ne (by decide)) ⟨_, rfl, ixOf (i := 0) sv rfl ⟨rfl, _, rfl, itt kd_eq ?_⟩⟩⟩⟩⟩⟩⟩⟩))
        cases n with
        | zero => exact absurd hoa (fun z => z)
        | succ n =>
        refine u_ret ⟨_, rfl, ixOf (i := 2) sv rfl ⟨_, rfl, _, rfl, ixOf (i := 1) sv rfl ⟨(d : Int), rfl, slOf sy fun p1 H2 s2 q1 => ?_⟩⟩⟩
        rw [cut_take] at q1
        refine ⟨va, pa, _, _, _, _, g, rfl, hpa.n s2.n, hoa, hg, by omega, q1, (hy.take d).n s2.n, hmk.take d, fun x H3 s3 hx => ?_⟩
        have s23 := s2.trans s3
        refine ⟨_, rfl, ixOf (i := 3) (sv.same s23) rfl ⟨_, rfl, _, rfl, ixOf (i := 1) (sv.same s23) rfl ⟨(d : Int), rfl, slOf (sy.same s23) fun p2 H4 s4 q2 => ?_⟩⟩⟩
        rw [cut_drop] at q2
        have s24 := s23.trans s4
        refine ⟨vb, pb, _, _, _, _, g, rfl, hpb.n s24.n, hob, hg, by omega, q2, (hy.drop d).n s24.n, hmk.drop d, fun x2 H5 s5 hx2 => ?_⟩
        exact ⟨_, _, _, _, rfl, (hx.mono s4.n).mono s5.n, hx2, worth_sz hg (by omega) hoa (hmk.take d), worth_sz hg (by omega) hob (hmk.drop d), fun y H6 s6 hy6 => k y H6 ((s24.trans s5).trans s6) hy6⟩
      | sum l =>
        obtain ⟨vp, xs, sv, sx, hx⟩ := ho
        obtain ⟨hne, hl3, hpo⟩ := hok
        have hxl := hx.length
        dsimp only [prKd]
        refine itf (by decide +kernel) (u_next ?_)
        dsimp only
        refine u_seq (u_ifT (u_op ⟨_, rfl, ixOf (i := 0) sv rfl ⟨rfl, _, rfl, itf (kd_ne (by decide)) ⟨_, rfl, ixOf (i := 0) sv rfl ⟨rfl, _, rfl, itf (kd_ne (by decide)) ⟨_, rfl, ixOf (i := 0) sv rfl ⟨rfl, _, rfl, itf (kd_ne (by decide)) ⟨_, rfl, ixOf (i := 0) sv rfl ⟨rfl, _, rfl, itf (kd_ne (by decide)) ?_⟩⟩⟩⟩⟩⟩⟩⟩))
        cases n with
        | zero =>
          cases l with
          | nil => exact absurd rfl hne
          | cons a l => exact absurd (hpo a (by simp)) (fun z => z)
        | succ n =>
        refine u_next ?_
        dsimp only
        refine u_seq (u_asg ?_)
        refine lc_seq (H1 := H1) (b := false) (v := vp) (xs := xs) (fun R r => ⟨_, rfl, ixOf (i := 1) sv rfl r⟩) sx (by omega) (fun D j H' z => ∀ p, l[j]? = some p → Num H' z (worth (n + 1) p mk)) (fun D j H1 H2 z c h p hp => (h p hp).mono c.n) ?_ ?_ (fun _ => rfl)
        · intro D j x H' R hxj hD s2 hDn hR
          obtain ⟨p, hp', hpx⟩ := paired_get hx hxj
          refine ⟨_, rfl, _, rfl, x, p, u, b, ys, mk, g, rfl, hpx.n s2.n, hpo p (mem_get hp'), hg, by omega, sy.same s2, RowsAt.n hy s2.n, hmk, fun z H3 s3 hz => hR z H3 s3 fun p2 hp2 => ?_⟩
          rw [hp'] at hp2; cases hp2; exact hz
        · intro D H' zs hD s2 hDz hl2 hF
          have hb : ∀ q ∈ l.map (fun q => worth (n + 1) q mk), Bd (DW n) (NW n) q := fun q hq => by
            obtain ⟨p, hp', rfl⟩ := List.mem_map.mp hq
            exact worth_bd hg (hpo p hp') hmk
          have dz := DW_sz (n := n) (by omega)
          have hnum : Nums H' zs (l.map fun q => worth (n + 1) q mk) := paired_of (by rw [hl2, List.length_map]; exact hxl) fun j z r hz hr => by
            rw [List.getElem?_map] at hr
            obtain ⟨p, hp', rfl⟩ := Option.map_eq_some_iff.mp hr
            exact hF j z hz p hp'
          refine u_gname ?_
          dsimp only
          refine u_seq (u_ifT (u_op ⟨_, rfl, ixOf (i := 0) (sv.same s2) rfl ⟨rfl, _, rfl, itt kd_eq ?_⟩⟩))
          refine u_ret ⟨_, rfl, true, _, zs, _, rfl, SqK.lst hDz, hnum, szsum_of (L := 3) hb (by rw [List.length_map]; exact hl3) (by decide) (DW_pos n) (by omega) ?_, fun x H3 s3 hx3 => k x H3 (s2.trans s3) hx3⟩
          have h1 := log2_mul_le 3 (NW n)
          have h2 : (3 : Nat).log2 = 1 := by decide
          omega
      | gre l =>
        obtain ⟨vp, xs, sv, sx, hx⟩ := ho
        obtain ⟨hne, hl3, hpo⟩ := hok
        have hxl := hx.length
        dsimp only [prKd]
        refine itf (by decide +kernel) (u_next ?_)
        dsimp only
        refine u_seq (u_ifT (u_op ⟨_, rfl, ixOf (i := 0) sv rfl ⟨rfl, _, rfl, itf (kd_ne (by decide)) ⟨_, rfl, ixOf (i := 0) sv rfl ⟨rfl, _, rfl, itf (kd_ne (by decide)) ⟨_, rfl, ixOf (i := 0) sv rfl ⟨rfl, _, rfl, itf (kd_ne (by decide)) ⟨_, rfl, ixOf (i := 0) sv rfl ⟨rfl, _, rfl, itf (kd_ne (by decide)) ?_⟩⟩⟩⟩⟩⟩⟩⟩))
        cases n with
        | zero =>
          cases l with
          | nil => exact absurd rfl hne
          | cons a l => exact absurd (hpo a (by simp)) (fun z => z)
        | succ n =>
        refine u_next ?_
        dsimp only
        refine u_seq (u_asg ?_)
        refine lc_seq (H1 := H1) (b := false) (v := vp) (xs := xs) (fun R r => ⟨_, rfl, ixOf (i := 1) sv rfl r⟩) sx (by omega) (fun D j H' z => ∀ p, l[j]? = some p → Num H' z (worth (n + 1) p mk)) (fun D j H1 H2 z c h p hp => (h p hp).mono c.n) ?_ ?_ (fun _ => rfl)
        · intro D j x H' R hxj hD s2 hDn hR
          obtain ⟨p, hp', hpx⟩ := paired_get hx hxj
          refine ⟨_, rfl, _, rfl, x, p, u, b, ys, mk, g, rfl, hpx.n s2.n, hpo p (mem_get hp'), hg, by omega, sy.same s2, RowsAt.n hy s2.n, hmk, fun z H3 s3 hz => hR z H3 s3 fun p2 hp2 => ?_⟩
          rw [hp'] at hp2; cases hp2; exact hz
        · intro D H' zs hD s2 hDz hl2 hF
          have hsz : ∀ q ∈ l.map (fun q => worth (n + 1) q mk), Sz q := fun q hq => by
            obtain ⟨p, hp', rfl⟩ := List.mem_map.mp hq
            exact worth_sz hg (by omega) (hpo p hp') hmk
          have hnum : Nums H' zs (l.map fun q => worth (n + 1) q mk) := paired_of (by rw [hl2, List.length_map]; exact hxl) fun j z r hz hr => by
            rw [List.getElem?_map] at hr
            obtain ⟨p, hp', rfl⟩ := Option.map_eq_some_iff.mp hr
            exact hF j z hz p hp'
          have hfin : worth (n + 1 + 1) (.gre l) mk = rmaxs (l.map fun q => worth (n + 1) q mk) := rfl
          rw [hfin] at k
          have hll : (l.map fun q => worth (n + 1) q mk).length = l.length := List.length_map _
          have h1 : 1 ≤ l.length := by
            cases l with
            | nil => exact absurd rfl hne
            | cons a l => simp
          generalize l.map (fun q => worth (n + 1) q mk) = qs at hsz hnum k hll
          refine u_gname ?_
          dsimp only
          refine u_seq (u_ifT (u_op ⟨_, rfl, ixOf (i := 0) (sv.same s2) rfl ⟨rfl, _, rfl, itf (kd_ne (by decide)) ?_⟩⟩))
          refine u_next ?_
          dsimp only
          have hz0 : zs[0]? = some (zs[0]'(by omega)) := by simp
          obtain ⟨q0, hq0, hzq0⟩ := paired_get hnum hz0
          refine u_seq (u_asg ⟨_, rfl, ixOf (i := 0) (SqK.lst hDz) hz0 (u_gname ?_)⟩)
          dsimp only
          refine u_seq ?_
          refine for_seq (H1 := H') (v := .ref D) (b := true) (xs := zs) (gives_var rfl) (SqK.lst hDz) (fun j σ' H6 => ∃ y y5, σ' = [some v, some u, some y, none, some (.ref D), y5, none, none, none] ∧ Same H' H6 ∧ Num H6 y ((qs.take j).foldl rmax q0)) ?_ ?_ ?_ ?_
          · exact ⟨_, _, rfl, Same.refl _, by rw [List.take_zero]; exact hzq0⟩
          · rintro j σ' H6 _ ⟨_, _, rfl, s, _⟩
            exact (SqK.lst hDz).same s
          · rintro j z σ' H6 hz ⟨y, y5, rfl, s, hyy⟩
            obtain ⟨q, hq, hzq⟩ := paired_get hnum hz
            have hq6 := hzq.mono s.n
            refine u_asg ⟨_, rfl, _, rfl, _, _, _, _, rfl, hyy, hq6, foldl_sz (hsz q0 (mem_get hq0)) (fun q hq => hsz q (List.mem_of_mem_take hq)), hsz q (mem_get hq), fun H7 s7 => ⟨_, rfl, u_if (fun h => ?_) (fun h => ?_)⟩⟩
            · refine ⟨_, rfl, u_gname ⟨_, _, rfl, s.trans s7, ?_⟩⟩
              rw [foldl_take_snoc rmax q0 hq, rmax_t (of_decide_eq_true h)]
              exact hq6.mono s7.n
            · refine ⟨_, rfl, u_gname ⟨_, _, rfl, s.trans s7, ?_⟩⟩
              rw [foldl_take_snoc rmax q0 hq, rmax_f (of_decide_eq_false h)]
              exact hyy.mono s7.n
          · rintro σ' H6 ⟨y, y5, rfl, s, hyy⟩
            rw [hnum.length, List.take_length, rmaxs_all_foldl hq0] at hyy
            dsimp only
            exact u_ret ⟨_, rfl, k y H6 (s2.trans s) hyy⟩
end
end Hp
namespace Hp
set_option Elab.async false
set_option linter.all false
set_option maxRecDepth 100000
set_option maxHeartbeats 4000000
open PySem PySem.Spec PyProof.Rows L2 NdefX
section
variable {K : PySem.W.Frag} {tl : TE} {σ : L2.St} {H : Hp} {b : Bool} {D : Ends}
/-- a sequence that is made there is walked, its items told there -/
theorem for_seqX {g : TG} {tb : TS} (Good : V → Hp → List V → Prop) (he : ∀ R : VK, (∀ v H1 xs, Good v H1 xs → R v H1) → tl σ H R) (sq : ∀ v H1 xs, Good v H1 xs → SqK b H1 v xs) (Pv : V → Hp → List V → Nat → L2.St → Hp → Prop) (h0 : ∀ v H1 xs, Good v H1 xs → Pv v H1 xs 0 σ H1) (hl : ∀ v H1 xs i σ' H', Good v H1 xs → i ≤ xs.length → Pv v H1 xs i σ' H' → SqK b H' v xs)
    (hs : ∀ v H1 xs k x σ' H', Good v H1 xs → xs[k]? = some x → Pv v H1 xs k σ' H' → g x σ' H' fun σ2 H2 => tb { D with nx := Pv v H1 xs (k + 1), ct := Pv v H1 xs (k + 1), bk := D.nx } σ2 H2) (hd : ∀ v H1 xs σ' H', Good v H1 xs → Pv v H1 xs xs.length σ' H' → D.nx σ' H') : tFor (iSeq K tl) g tb D σ H := by
  cases b
  · refine .inr (he _ fun v H1 xs hv => ?_)
    obtain ⟨p, rfl, hp⟩ := sq v H1 xs hv
    refine ⟨p, rfl, ⟨xs, SqT.of hp⟩, for_it walk_tup (Pv (.ref p) H1 xs) (h0 _ _ _ hv) (fun i σ' H' hi q => ?_) (fun k x σ' H' H'' _ q y => ?_) (fun σ' H' => hd _ _ _ σ' H' hv)⟩
    · obtain ⟨p', e, h⟩ := hl _ _ _ i σ' H' hv hi q
      cases e; exact SqT.of h
    · obtain ⟨rfl, hx⟩ := y
      exact hs _ _ _ k x σ' _ hv hx q
  · refine .inl (he _ fun v H1 xs hv => ?_)
    obtain ⟨p, rfl, hp⟩ := sq v H1 xs hv
    refine ⟨p, rfl, ⟨xs, SqL.of hp⟩, for_it walk_list (Pv (.ref p) H1 xs) (h0 _ _ _ hv) (fun i σ' H' hi q => ?_) (fun k x σ' H' H'' _ q y => ?_) (fun σ' H' => hd _ _ _ σ' H' hv)⟩
    · obtain ⟨p', e, h⟩ := hl _ _ _ i σ' H' hv hi q
      cases e; exact SqL.of h
    · obtain ⟨rfl, hx⟩ := y
      exact hs _ _ _ k x σ' _ hv hx q
end
/-- all words -/
def longer (g : Nat) (w : List Nat) : List (List Nat) := (List.range g).map fun i => w ++ [i]
def wordsL (g : Nat) : Nat → List (List Nat)
  | 0 => [[]]
  | n + 1 => (wordsL g n).flatMap (longer g)
theorem longer_len (g : Nat) (w : List Nat) : (longer g w).length = g := by simp [longer]
theorem flat_len (g : Nat) : ∀ l : List (List Nat), (l.flatMap (longer g)).length = l.length * g
  | [] => by simp
  | w :: l => by rw [List.flatMap_cons, List.length_append, flat_len g l, longer_len, List.length_cons, Nat.succ_mul]; omega
theorem words_len (g : Nat) : ∀ n, (wordsL g n).length = g ^ n
  | 0 => rfl
  | n + 1 => by
    show ((wordsL g n).flatMap (longer g)).length = _
    rw [flat_len, words_len g n, Nat.pow_succ]
theorem words_mem (g : Nat) : ∀ (n : Nat) (w : List Nat), w ∈ wordsL g n → w.length = n ∧ ∀ j ∈ w, j < g
  | 0, w, h => by
    have : w = [] := by simpa [wordsL] using h
    rw [this]; simp
  | n + 1, w, h => by
    obtain ⟨u, hu, h2⟩ := List.mem_flatMap.mp (show w ∈ (wordsL g n).flatMap (longer g) from h)
    unfold longer at h2
    obtain ⟨i, hi, rfl⟩ := List.mem_map.mp h2
    obtain ⟨h3, h4⟩ := words_mem g n u hu
    refine ⟨by simp [h3], fun j hj => ?_⟩
    rcases List.mem_append.mp hj with h | h
    · exact h4 j h
    · rw [List.mem_singleton.mp h]; simpa using hi
theorem flat_snoc (g : Nat) (l : List (List Nat)) (w : List Nat) : (l ++ [w]).flatMap (longer g) = l.flatMap (longer g) ++ longer g w := by
  rw [List.flatMap_append]; simp
theorem stepW_words {g : Nat} {row : List Rat} (h : row.length = g) : ∀ f : List (Rat × List Nat), (stepW f row).map (·.2) = (f.map (·.2)).flatMap (longer g)
  | [] => rfl
  | z :: f => by
    have ih := stepW_words h f
    unfold stepW at ih ⊢
    rw [List.flatMap_cons, List.map_append, ih, List.map_cons, List.flatMap_cons]
    congr 1
    unfold stepZ longer
    rw [List.map_map, h]; rfl
theorem ways_words {g : Nat} : ∀ (i : Nat) {ps : List (List Rat)}, (∀ r ∈ ps, r.length = g) → i ≤ ps.length → (ways (ps.take i)).map (·.2) = wordsL g i
  | 0, ps, _, _ => by simp [ways, wordsL]
  | i + 1, ps, h, hi => by
    have e : ps[i]? = some (ps[i]'(by omega)) := by simp
    rw [ways_take e, stepW_words (h _ (List.getElem_mem _)), ways_words i h (by omega)]; rfl
/-- the factors of a word -/
def facs (ps : List (List Rat)) (w : List Nat) : List Rat := (ps.zip w).map fun p => p.1.getD p.2 0
theorem ways_prod : ∀ (i : Nat) {ps : List (List Rat)} {g : Nat}, (∀ r ∈ ps, r.length = g) → i ≤ ps.length → ∀ z ∈ ways (ps.take i), z.1 = rprod (facs (ps.take i) z.2)
  | 0, ps, g, _, _ => fun z hz => by
    have : z = (1, []) := by simpa [ways] using hz
    rw [this]; simp [facs, rprod]
  | i + 1, ps, g, h, hi => fun z hz => by
    have e : ps[i]? = some (ps[i]'(by omega)) := by simp
    have hw := ways_word i h (by omega)
    rw [ways_take e] at hz
    unfold stepW at hz
    obtain ⟨z0, hz0, hz1⟩ := List.mem_flatMap.mp hz
    unfold stepZ at hz1
    obtain ⟨j, hj, rfl⟩ := List.mem_map.mp hz1
    have ih := ways_prod i h (by omega) z0 hz0
    show z0.1 * _ = rprod (facs (ps.take (i + 1)) (z0.2 ++ [j]))
    rw [take_snoc e]
    unfold facs
    rw [List.zip_append (by rw [(hw z0 hz0).1, List.length_take]; omega), List.map_append, rprod_append, ← facs, ← ih]
    simp [rprod, Rat.mul_one]
theorem facs_get {ps : List (List Rat)} {w : List Nat} {k j : Nat} {r : List Rat} (h1 : ps[k]? = some r) (h2 : w[k]? = some j) : (facs ps w)[k]? = some (r.getD j 0) := by
  unfold facs
  rw [List.getElem?_map, (List.getElem?_zip_eq_some (l₁ := ps) (l₂ := w) (z := (r, j))).mpr ⟨h1, h2⟩]; rfl
theorem facs_len (ps : List (List Rat)) (w : List Nat) : (facs ps w).length = min ps.length w.length := by simp [facs]
end Hp
namespace Hp
set_option Elab.async false
set_option linter.all false
set_option maxRecDepth 100000
set_option maxHeartbeats 4000000
open PySem PySem.Spec PyProof.Rows L2 NdefX
/-- at z: a word -/
def WdAt (H : Hp) (z : V) (w : List Nat) : Prop := SqK false H z (w.map iV)
theorem WdsAt.n {H H' : Hp} {zs : List V} {ws : List (List Nat)} (h : Paired (WdAt H) zs ws) (e : SameN H H') : Paired (WdAt H') zs ws := Paired.mapP h fun _ _ q => SqK.n q e
section
variable {P : Program} {w : World} {K : PySem.W.Frag} {mg : Str → Option Value} {base : Heap}
def sp_law_words  : Sp :=  fun vs H Q _ => ∃ g d, vs = [.int ((g : Nat) : Int), .int ((d : Nat) : Int)] ∧ g ≤ 3 ∧ d ≤ 3 ∧ ∀ D H' zs, Same H H' → H' D = some (.lst zs) → Paired (WdAt H') zs (wordsL g d) → Q (.ref D) H'
theorem sc_law_words : FnScope ["_law_goods", "_law_days", "_law_found", "_law_day", "_law_longer", "_law_word", "_law_good"] ["_law_goods", "_law_days"] (defScope s_law_words) := ⟨rfl, rfl, rfl, by decide +kernel, rfl, by decide +kernel, by decide +kernel⟩
theorem c_law_words (T : Wd K mg base) : Cal P w K mg base 1 "_law_words" sp_law_words [] := by
  obtain ⟨fd, F⟩ := T.d_law_words
  refine mkCal (k := 1 - 1) F T.g_law_words sc_law_words (F.bindsN fun _ _ _ _ _ _ us hl => match us, hl with | [_, _], _ => rfl) (fun vs H Q E h => ?_) (fun cdv A outer s H vs Q E hr h => ?_)
  · rcases h with ⟨g, d, rfl, hg, hd, k⟩ <;> rfl
  · rcases h with ⟨g, d, rfl, hg, hd, k⟩
    refine ⟨_, (pss_cons (ps_set (i := 2) sc_law_words.nd rfl (Or.inl rfl) (pe_lst (pa_cons (pe_tup pa_nil) pa_nil)))
  (pss_cons (ps_for PassesOwn.never rfl (pi_range1 rfl T.f_range (pa_cons (pv 1) pa_nil)) (pg_name (i := 3) sc_law_words.nd rfl (Or.inl rfl))
  (pss_cons (ps_set (i := 4) sc_law_words.nd rfl (Or.inl rfl) (pe_lst pa_nil))
  (pss_cons (ps_for PassesOwn.never rfl (pi_seq (pv 2)) (pg_name (i := 5) sc_law_words.nd rfl (Or.inr rfl))
  (pss_one (ps_expr (pe_bm PySem.F.plainAttrs_list PySem.F.slot_list_extend PySem.F.type_list_extend mt_extend (pv 4) (pa_cons (pe_lc (own := [("_law_good", 6)]) rfl sc_law_words.nd (pi_range1 rfl T.f_range (pa_cons (pv 0) pa_nil)) (blkOk_by (own := [("_law_good", 6)]) (N := ["_law_goods", "_law_days", "_law_found", "_law_day", "_law_longer", "_law_word", "_law_good"]) (sc := defScope s_law_words) (by decide +kernel)) (fun _ _ _ _ _ => by exact (pg_name (i := 6) sc_law_words.nd rfl (by first | exact Or.inl rfl | exact Or.inr rfl))) (fun _ _ _ _ _ => by exact pts_nil) (fun _ _ _ _ _ => by exact (pe_op (catTK (K := K) rfl) (pv 5) (pe_tup (pa_cons (pv 6) pa_nil))))) pa_nil)))))
  (pss_one (ps_set (i := 2) sc_law_words.nd rfl (Or.inl rfl) (pv 4))))))
  (pss_one (ps_ret (pv 2))))), ?_⟩
    refine u_seq (u_asg ⟨(by show 0 ≤ sizeLine; decide), fun T nT => ⟨(by show 1 ≤ sizeLine; decide), fun W nW => u_gname ?_⟩⟩)
    dsimp only
    have s1 := Same.of_new (o := .tup []) nT
    have hT1 : (L2.upd H T (.tup [])) T = some (.tup []) := upd_same
    generalize L2.upd H T (.tup []) = H1 at s1 hT1 nW ⊢
    have s2 := Same.of_new (o := .lst [V.ref T]) nW
    have hW : (L2.upd H1 W (.lst [V.ref T])) W = some (.lst [V.ref T]) := upd_same
    have hT := s2 _ _ hT1
    have s12 := s1.trans s2
    generalize L2.upd H1 W (.lst [V.ref T]) = H2 at s12 hW hT ⊢
    refine u_seq ?_
    refine for_rng1 (H1 := H2) (n := d) (gives_var rfl) (by omega) (fun i σ' H' => ∃ W zs y3 y4 y5 y6, σ' = [some (.int (g : Int)), some (.int (d : Int)), some (.ref W), y3, y4, y5, y6] ∧ Same H2 H' ∧ H' W = some (.lst zs) ∧ Paired (WdAt H') zs (wordsL g i)) ?_ ?_ ?_
    · exact ⟨W, _, _, _, _, _, rfl, Same.refl _, hW, .cons (SqK.tup hT) .nil⟩
    · rintro i σ' H' hi ⟨W', zs, y3, y4, y5, y6, rfl, s3, hW', hz⟩
      refine u_seq (u_asg ⟨(by show 0 ≤ sizeLine; decide), fun F nF => u_gname ?_⟩)
      dsimp only
      have s4 := Same.of_new (o := .lst []) nF
      have hF4 : (L2.upd H' F (.lst [])) F = some (.lst []) := upd_same
      have hW4 := s4 _ _ hW'
      have hz4 := WdsAt.n hz s4.n
      have s34 := s3.trans s4
      have WF : W' ≠ F := fun e => by rw [e, nF] at hW'; cases hW'
      have oldF : ∀ a u, H2 a = some u → a ≠ F := fun a u h => ne_of_none (s3 _ _ h) nF
      generalize L2.upd H' F (.lst []) = H4 at s4 hF4 hW4 hz4 s34 ⊢
      have hzl := hz.length
      have hwl := words_len g i
      have hgi : g ^ i ≤ 27 := Nat.le_trans (Nat.pow_le_pow_left hg _) (Nat.le_trans (Nat.pow_le_pow_right (by decide) (by omega : i ≤ 3)) (by decide))
      refine u_seq ?_
      refine for_seq (H1 := H4) (v := .ref W') (b := true) (xs := zs) (gives_var rfl) (SqK.lst hW4) (fun j σ' H6 => ∃ zs2 y5 y6, σ' = [some (.int (g : Int)), some (.int (d : Int)), some (.ref W'), some (.int (i : Int)), some (.ref F), y5, y6] ∧ SameB F H4 H6 ∧ H6 F = some (.lst zs2) ∧ Paired (WdAt H6) zs2 (((wordsL g i).take j).flatMap (longer g))) ?_ ?_ ?_ ?_
      · exact ⟨[], _, _, rfl, SameB.of (Same.refl _), hF4, by rw [List.take_zero]; exact .nil⟩
      · rintro j σ' H6 _ ⟨zs2, _, _, rfl, sb, _⟩
        exact ⟨W', rfl, sb _ _ WF hW4⟩
      · rintro j x σ' H6 hx ⟨zs2, _, _, rfl, sb, hF6, hz2⟩
        obtain ⟨wd, hw, hwx⟩ := paired_get hz4 hx
        have snb : SameN H4 H6 := Chg.n ⟨sb, _, hF4⟩
        have hw6 : SqK false H6 x (wd.map iV) := SqK.n hwx snb
        refine ⟨_, rfl, .inl ⟨rfl, _, SqL.of hF6⟩, u_cons ?_⟩
        refine lc_rng1 (H1 := H6) (n := g) (gives_var rfl) (by omega) (fun E l H7 z => WdAt H7 z (wd ++ [l])) (fun E l H1 H2 z c h => SqK.n h c.n) ?_ ?_ (fun _ => rfl)
        · intro E l H7 R hl hE s7 hEn hR
          obtain ⟨px, rfl, hpx⟩ := id (hw6.same s7)
          refine ⟨_, rfl, _, rfl, (by show 1 ≤ sizeLine; decide), fun t nt => ?_⟩
          have s8 := Same.of_new (o := .tup [iV l]) nt
          have ht8 : (L2.upd H7 t (.tup [iV l])) t = some (.tup [iV l]) := upd_same
          have hp8 := s8 _ _ hpx
          generalize L2.upd H7 t (.tup [iV l]) = H8 at s8 ht8 hp8 ⊢
          have hwdl : wd.length ≤ 100 := by have := (words_mem g i wd (mem_get hw)).1; omega
          refine ⟨px, t, _, _, rfl, rfl, SqT.of hp8, SqT.of ht8, Nat.le_trans (by simp; omega : _ ≤ 101) (by decide), fun e => ?_, fun _ e => by simp at e, fun _ _ p np => ?_⟩
          · have e2 : wd = [] := by simpa using e
            refine hR _ _ s8 ?_
            rw [e2]; exact SqK.tup ht8
          · refine hR _ _ (s8.trans (Same.of_new np)) ?_
            show SqK false _ _ ((wd ++ [l]).map iV)
            rw [List.map_append]
            exact SqK.tup upd_same
        · intro E H7 acc hE s7 hEa hl2 hF
          have hF7 := s7 _ _ hF6
          have hacc : Paired (WdAt H7) acc (longer g wd) := paired_of (by rw [hl2, longer_len]) fun l z w2 hz hw2 => by
            unfold longer at hw2
            rw [List.getElem?_map] at hw2
            obtain ⟨l', hl', rfl⟩ := Option.map_eq_some_iff.mp hw2
            have e : l' = l := by
              have := List.getElem?_eq_some_iff.mp hl'
              simpa using this.2.symm
            subst e
            exact hF _ z hz
          have l1 : zs2.length ≤ 81 := by
            rw [hz2.length, flat_len, List.length_take]
            calc min j (wordsL g i).length * g ≤ 27 * 3 := Nat.mul_le_mul (by omega) hg
              _ = 81 := rfl
          refine ⟨F, E, zs2, acc, rfl, rfl, hF7, hEa, Nat.le_trans (by omega : zs2.length + acc.length ≤ 84) (by decide), ?_⟩
          have sn : SameN H7 (L2.upd H7 F (.lst (zs2 ++ acc))) := SameN.lst hF7
          refine ⟨zs2 ++ acc, _, _, rfl, (sb.trans (SameB.of s7)).trans SameB.upd, upd_same, ?_⟩
          rw [take_snoc hw, flat_snoc]
          exact paired_append (WdsAt.n (WdsAt.n hz2 s7.n) sn) (WdsAt.n hacc sn)
      · rintro σ' H6 ⟨zs2, y5, y6, rfl, sb, hF6, hz2⟩
        rw [hzl, List.take_length] at hz2
        dsimp only
        exact u_asg ⟨_, rfl, u_gname ⟨F, zs2, _, _, _, _, rfl, fun a o h => sb _ _ (oldF a o h) (s34 _ _ h), hF6, hz2⟩⟩
    · rintro σ' H' ⟨W', zs, y3, y4, y5, y6, rfl, s3, hW', hz⟩
      dsimp only
      exact u_ret ⟨_, rfl, k W' H' zs (s12.trans s3) hW' hz⟩
def sp_law_over_words  : Sp :=  fun vs H Q _ => ∃ vo vr va vp bR bA bP n p g rs xr ahead xs ps C N, vs = [vo, vr, va, vp] ∧ OwnAt g n H vo p ∧ PrOk g n p ∧ n ≤ 3 ∧ 1 ≤ g ∧ g ≤ 3 ∧ SqK bR H vr xr ∧ RowsAt H xr rs ∧ RsOk g rs ∧ SqK bA H va (ahead.map iV) ∧ (∀ i ∈ ahead, i < g) ∧ SqK bP H vp xs ∧ RowsAt H xs ps ∧ ahead.length + ps.length ≤ 3 ∧ (∀ r ∈ ps, r.length = g ∧ ∀ q ∈ r, q ≠ 0 ∧ Bd C N q) ∧ 0 < C ∧ 0 < N ∧ (C ^ 3).log2 < 1000 ∧ (N ^ 3).log2 < 1000 ∧ ∀ x H', Same H H' → Num H' x (over n p rs ahead ps) → Q x H'
theorem sc_law_over_words : FnScope ["_law_own", "_law_rows_here", "_law_ahead", "_law_portions", "_law_found", "_law_word", "_law_number_here", "_law_portion", "_law_good"] ["_law_own", "_law_rows_here", "_law_ahead", "_law_portions"] (defScope s_law_over_words) := ⟨rfl, rfl, rfl, by decide +kernel, rfl, by decide +kernel, by decide +kernel⟩
theorem c_law_over_words (T : Wd K mg base) : Cal P w K mg base 11 "_law_over_words" sp_law_over_words [] := by
  obtain ⟨fd, F⟩ := T.d_law_over_words
  refine mkCal (k := 11 - 1) F T.g_law_over_words sc_law_over_words (F.bindsN fun _ _ _ _ _ _ us hl => match us, hl with | [_, _, _, _], _ => rfl) (fun vs H Q E h => ?_) (fun cdv A outer s H vs Q E hr h => ?_)
  · rcases h with ⟨vo, vr, va, vp, bR, bA, bP, n, p, g, rs, xr, ahead, xs, ps, C, N, rfl, ho, hok, hn, hg1, hg, sr, hr', hrs, sa, hah, sp, hx, hal, hr3, C0, N0, szC, szN, k⟩ <;> rfl
  · rcases h with ⟨vo, vr, va, vp, bR, bA, bP, n, p, g, rs, xr, ahead, xs, ps, C, N, rfl, ho, hok, hn, hg1, hg, sr, hr', hrs, sa, hah, sp, hx, hal, hr3, C0, N0, szC, szN, k⟩
    refine ⟨_, (pss_cons (ps_set (i := 4) sc_law_over_words.nd rfl (Or.inl rfl) pe_int)
  (pss_cons (ps_for PassesOwn.never rfl (pi_seq (pe_c (c_law_words T) hr (by decide) rfl (pa_cons (pe_callB call_len_seq (by rfl) T.f_len (by decide +kernel) (pa_cons (pv 1) pa_nil)) (pa_cons (pe_callB call_len_seq (by rfl) T.f_len (by decide +kernel) (pa_cons (pv 3) pa_nil)) pa_nil)))) (pg_name (i := 5) sc_law_over_words.nd rfl (Or.inl rfl))
  (pss_cons (ps_set (i := 6) sc_law_over_words.nd rfl (Or.inl rfl) pe_int)
  (pss_cons (ps_for PassesOwn.never rfl (pi_zipS (by rfl) T.f_zip (pa_cons (pv 3) (pa_cons (pv 5) pa_nil))) (pg_tup rfl (pgs_cons (pg_name (i := 7) sc_law_over_words.nd rfl (Or.inl rfl)) (pgs_cons (pg_name (i := 8) sc_law_over_words.nd rfl (Or.inl rfl)) pgs_nil)))
  (pss_one (ps_set (i := 6) sc_law_over_words.nd rfl (Or.inl rfl) (pe_c (c_law_times T) hr (by decide) rfl (pa_cons (pv 6) (pa_cons (pe_ix ix_seq (pv 7) (pv 8) (fun _ _ => rfl)) pa_nil))))))
  (pss_one (ps_set (i := 4) sc_law_over_words.nd rfl (Or.inl rfl) (pe_c (c_law_plus T) hr (by decide) rfl (pa_cons (pv 4) (pa_cons (pe_c (c_law_times T) hr (by decide) rfl (pa_cons (pv 6) (pa_cons (pe_c (c_law_worth T n) hr (by omega) rfl (pa_cons (pv 0) (pa_cons (pe_lc (own := [("_law_good", 8)]) rfl sc_law_over_words.nd (pi_seq (pe_op op_cat (pe_callTy call_list_of (by rfl) T.f_list (by decide +kernel) (pa_cons (pv 2) pa_nil)) (pe_callTy call_list_of (by rfl) T.f_list (by decide +kernel) (pa_cons (pv 5) pa_nil)))) (blkOk_by (own := [("_law_good", 8)]) (N := ["_law_own", "_law_rows_here", "_law_ahead", "_law_portions", "_law_found", "_law_word", "_law_number_here", "_law_portion", "_law_good"]) (sc := defScope s_law_over_words) (by decide +kernel)) (fun _ _ _ _ _ => by exact (pg_name (i := 8) sc_law_over_words.nd rfl (by first | exact Or.inl rfl | exact Or.inr rfl))) (fun _ _ _ _ _ => by exact pts_nil) (fun _ _ _ _ _ => by exact (pe_ix (ixK (K := K) rfl) (pv 1) (pv 8) (fun _ _ => rfl)))) pa_nil))) pa_nil))) pa_nil))))))))
  (pss_one (ps_ret (pv 4))))), ?_⟩
    obtain ⟨n', rfl⟩ : ∃ n', n = n' + 1 := by
      cases n with
      | zero => exact absurd ho (fun z => z)
      | succ n => exact ⟨n, rfl⟩
    obtain ⟨pr, rfl, hpr⟩ := id sr
    obtain ⟨pp, rfl, hpp⟩ := id sp
    obtain ⟨pa, rfl, hpa⟩ := id sa
    have hrl := hr'.length
    have hxl := hx.length
    have hlen : ∀ r ∈ ps, r.length = g := fun r hr => (hr3 r hr).1
    have hbd : ∀ r ∈ ps, ∀ q ∈ r, Bd C N q := fun r hr q hq => ((hr3 r hr).2 q hq).2
    have hwlen := ways_len ps.length hlen (Nat.le_refl _)
    rw [List.take_length] at hwlen
    have hwbd := ways_bd ps.length hbd (Nat.le_refl _)
    rw [List.take_length] at hwbd
    have hwwd := ways_word ps.length hlen (Nat.le_refl _)
    rw [List.take_length] at hwwd
    have hwds := ways_words ps.length hlen (Nat.le_refl _)
    rw [List.take_length] at hwds
    have hwpr := ways_prod ps.length hlen (Nat.le_refl _)
    rw [List.take_length] at hwpr
    have hgi : g ^ ps.length ≤ 27 := Nat.le_trans (Nat.pow_le_pow_left hg _) (Nat.le_trans (Nat.pow_le_pow_right (by decide) (by omega : ps.length ≤ 3)) (by decide))
    have wsz : ∀ z ∈ ways ps, MkOk g (rowsOf rs (ahead ++ z.2)) := fun z hz => by
      obtain ⟨h1, h2⟩ := hwwd z hz
      exact hrs.mk (fun i hi => by
        rcases List.mem_append.mp hi with h | h
        · exact hah i h
        · exact h2 i h) (by rw [List.length_append, h1]; exact hal)
    have cL := pow_log (k := ps.length) C0 (by omega : ps.length ≤ 3) szC
    have nL := pow_log (k := ps.length) N0 (by omega : ps.length ≤ 3) szN
    have dz := DW_sz (n := n') (by omega)
    have tb : ∀ q ∈ (ways ps).map (fun z => z.1 * worth (n' + 1) p (rowsOf rs (ahead ++ z.2))), Bd (C ^ ps.length * DW n') (N ^ ps.length * NW n') q := fun q hq => by
      obtain ⟨z, hz, rfl⟩ := List.mem_map.mp hq
      exact (hwbd z hz).mul (worth_bd hg hok (wsz z hz))
    have bg := big27 (D := C ^ ps.length * DW n') (N := N ^ ps.length * NW n') (by have := log2_mul_le (C ^ ps.length) (DW n'); omega) (by have := log2_mul_le (N ^ ps.length) (NW n'); omega)
    have szs : SzSum ((ways ps).map (fun z => z.1 * worth (n' + 1) p (rowsOf rs (ahead ++ z.2)))) := szsum_of (L := 27) tb (by rw [List.length_map, hwlen]; exact hgi) (by decide) (Nat.mul_pos (Nat.pow_pos C0) (DW_pos n')) bg.1 bg.2
    refine u_seq (u_asg (u_tC (u_gname ?_)))
    dsimp only
    refine u_seq ?_
    refine for_seqX (b := true) (fun v' H3 zs => Same H H3 ∧ SqK true H3 v' zs ∧ Paired (WdAt H3) zs (wordsL g ps.length)) ?_ (fun v' H3 zs h => h.2.1) (fun v' H3 zs i σ' H' => ∃ y y5 y6 y7 y8, σ' = [some vo, some (.ref pr), some (.ref pa), some (.ref pp), some y, y5, y6, y7, y8] ∧ Same H3 H' ∧ Num H' y (rsum (((ways ps).map (fun z => z.1 * worth (n' + 1) p (rowsOf rs (ahead ++ z.2)))).take i))) ?_ ?_ ?_ ?_
    · intro R hR
      refine ⟨_, rfl, _, _, rfl, sr.or, _, rfl, _, _, rfl, sp.or, g, ps.length, ?_, hg, by omega, fun D H3 zs s3 hD hz => hR _ _ zs ⟨s3, SqK.lst hD, hz⟩⟩
      rw [hrl, hrs.1, hxl]; rfl
    · rintro v' H3 zs ⟨s3, sv, hz⟩
      exact ⟨_, _, _, _, _, rfl, Same.refl _, by rw [List.take_zero]; exact Num.int H3 0⟩
    · rintro v' H3 zs i σ' H' ⟨s3, sv, hz⟩ _ ⟨y, _, _, _, _, rfl, s4, _⟩
      exact sv.same s4
    · rintro v' H3 zs i x σ' H' ⟨s3, sv, hz⟩ hxi ⟨y, y5, y6, y7, y8, rfl, s4, hyy⟩
      obtain ⟨wd, hwd, hwx⟩ := paired_get hz hxi
      rw [← hwds, List.getElem?_map] at hwd
      obtain ⟨z, hzz, rfl⟩ := Option.map_eq_some_iff.mp hwd
      have hzm := mem_get hzz
      obtain ⟨hw1, hw2⟩ := hwwd z hzm
      have s34 := s3.trans s4
      have hwx4 : SqK false H' x (z.2.map iV) := SqK.same hwx s4
      obtain ⟨px, rfl, hpx⟩ := id hwx4
      refine u_gname ?_
      dsimp only
      refine u_seq (u_asg (u_tC (u_gname ?_)))
      dsimp only
      refine u_seq ?_
      have hfl : (facs ps z.2).length = ps.length := by rw [facs_len, hw1]; omega
      have hfb : ∀ q ∈ facs ps z.2, Bd C N q := fun q hq => by
        obtain ⟨k, hk, rfl⟩ := List.mem_iff_getElem.mp hq
        have hkl : k < ps.length := by omega
        have e1 : ps[k]? = some ps[k] := by simp
        have e2 : z.2[k]? = some (z.2[k]'(by omega)) := by simp
        have := facs_get e1 e2
        rw [List.getElem?_eq_getElem hk] at this
        rw [Option.some.inj this]
        exact getD_mem (hbd _ (List.getElem_mem hkl)) (by rw [hlen _ (List.getElem_mem hkl)]; exact hw2 _ (List.getElem_mem _))
      have hfz : SzProd (facs ps z.2) := szprod_of (L := 3) hfb (by omega) (by decide) C0 N0 (by omega) (by omega)
      refine for_zip (H1 := H') (H2 := H') (v := .ref pp) (v2 := .ref px) (b := bP) (c := false) (xs := xs) (ys := z.2.map iV) (gives_var rfl) (gives_var rfl) (sp.same s34) hwx4 (fun k σ' H6 => ∃ u y7 y8, σ' = [some vo, some (.ref pr), some (.ref pa), some (.ref pp), some y, some (.ref px), some u, y7, y8] ∧ Same H' H6 ∧ Num H6 u (rprod ((facs ps z.2).take k))) ?_ ?_ ?_ ?_
      · exact ⟨_, _, _, rfl, Same.refl _, by rw [List.take_zero]; exact Num.int H' 1⟩
      · rintro k σ' H6 ⟨u, _, _, rfl, s6, _⟩
        exact ⟨sp.same (s34.trans s6), hwx4.same s6⟩
      · rintro k a b σ' H6 T2 hak hbk ⟨u, _, _, rfl, s6, hu⟩ hT2
        rw [List.getElem?_map] at hbk
        obtain ⟨j, hj, rfl⟩ := Option.map_eq_some_iff.mp hbk
        obtain ⟨r, hrk, zr, sz, hzr⟩ := paired_get hx hak
        have s7 := s6.trans (Same.of_new (o := .tup [a, iV j]) hT2)
        have hu7 := hu.mono (Same.of_new (o := .tup [a, iV j]) hT2).n
        have s37 := s34.trans s7
        have hjl : j < zr.length := by rw [hzr.length, hlen r (mem_get hrk)]; exact hw2 j (mem_get hj)
        have hg' : zr[j]? = some zr[j] := by simp
        obtain ⟨q, hq, hzq⟩ := paired_get hzr hg'
        have ef : (facs ps z.2)[k]? = some q := by rw [facs_get hrk hj, List.getD_eq_getElem?_getD, hq]; rfl
        refine u_asg ⟨_, rfl, _, rfl, _, rfl, ixOf (i := j) (sz.same s37) hg' ⟨_, _, _, q, rfl, hu7, hzq.mono s37.n, hfz.2 k, hfz.1 q (mem_get ef), fun x H8 s8 hx8 => u_gname ⟨_, _, _, rfl, s7.trans s8, ?_⟩⟩⟩
        rw [rprod_take ef]; exact hx8
      · rintro σ' H6 ⟨u, y7, y8, rfl, s6, hu⟩
        have em : min xs.length (z.2.map iV).length = (facs ps z.2).length := by rw [hfl, hxl, List.length_map, hw1]; omega
        rw [em, List.take_length, ← hwpr z hzm] at hu
        dsimp only
        have s36 := s34.trans s6
        refine u_asg ⟨_, rfl, _, rfl, _, rfl, ?_⟩
        refine u_cons ?_
        refine lcg_seqG (b := true) (fun v' H7 ys => Same H6 H7 ∧ SqK true H7 v' ys ∧ ys = (ahead ++ z.2).map iV) ?_ (fun v' H7 ys h => ⟨h.2.1, ?_⟩) (fun v' H7 ys D l H8 acc => Same H7 H8 ∧ SqK true H8 v' ys ∧ RowsAt H8 acc ((rowsOf rs (ahead ++ z.2)).take l)) (fun v' H7 ys D l H8 acc h => h.2.1) ?_ ?_ ?_ (fun _ => rfl)
        · intro R hR
          have hpa6 := s36 _ _ hpa
          have hpx6 := s6 _ _ hpx
          refine ⟨_, rfl, pa, _, rfl, (SqK.or (K := K) ⟨pa, rfl, hpa6⟩), fun l1 n1 => ?_⟩
          have s7 := Same.of_new (o := .lst (ahead.map iV)) n1
          have h1 : (L2.upd H6 l1 (.lst (ahead.map iV))) l1 = some (.lst (ahead.map iV)) := upd_same
          have hpx7 := s7 _ _ hpx6
          generalize L2.upd H6 l1 (.lst (ahead.map iV)) = H7 at s7 h1 hpx7 ⊢
          refine ⟨_, rfl, px, _, rfl, (SqK.or (K := K) ⟨px, rfl, hpx7⟩), fun l2 n2 => ?_⟩
          have s8 := Same.of_new (o := .lst (z.2.map iV)) n2
          have h2 : (L2.upd H7 l2 (.lst (z.2.map iV))) l2 = some (.lst (z.2.map iV)) := upd_same
          have h18 := s8 _ _ h1
          generalize L2.upd H7 l2 (.lst (z.2.map iV)) = H8 at s8 h2 h18 ⊢
          refine ⟨l1, l2, _, _, rfl, rfl, h18, h2, Nat.le_trans (by rw [List.length_map, List.length_map, hw1]; exact hal : _ ≤ 3) (by decide), fun l3 n3 => hR _ _ _ ⟨(s7.trans s8).trans (Same.of_new n3), SqK.lst upd_same, by rw [List.map_append]⟩⟩
        · rw [h.2.2, List.length_map, List.length_append, hw1]; omega
        · rintro v' H7 ys D ⟨s7, sv7, _⟩ hD
          exact ⟨Same.of_new hD, sv7.same (Same.of_new hD), by rw [List.take_zero]; exact .nil⟩
        · rintro v' H7 ys D l x H8 acc R Z ⟨s7, sv7, rfl⟩ hxl2 hD hl hDa ⟨s8, sv8, hacc⟩ hR _
          rw [List.getElem?_map] at hxl2
          obtain ⟨j, hj, rfl⟩ := Option.map_eq_some_iff.mp hxl2
          have hjg : j < g := by
            rcases List.mem_append.mp (mem_get hj) with h | h
            · exact hah j h
            · exact hw2 j h
          have hgx : xr[j]? = some (xr[j]'(by rw [hrl, hrs.1]; exact hjg)) := by simp
          obtain ⟨r, hrj, hrow⟩ := paired_get hr' hgx
          have s68 := s7.trans s8
          have s38 := s36.trans s68
          have sn : SameN H8 (L2.upd H8 D (.lst (acc ++ [xr[j]'(by rw [hrl, hrs.1]; exact hjg)]))) := SameN.lst hDa
          refine yesG ⟨_, rfl, _, rfl, ixOf (i := j) (sr.same s38) hgx (hR _ _ hDa ⟨fun b o h => ?_, ?_, ?_⟩)⟩
          · rw [upd_ne (ne_of_none h hD)]; exact s8 _ _ h
          · obtain ⟨pv, rfl, hpv⟩ := sv8
            obtain ⟨pv2, e2, hpv2⟩ := sv7
            cases e2
            exact ⟨pv, rfl, by rw [upd_ne (ne_of_none hpv2 hD)]; exact hpv⟩
          · have ej : (rowsOf rs (ahead ++ z.2))[l]? = some r := by
              unfold rowsOf
              rw [List.getElem?_map, hj, Option.map_some, List.getD_eq_getElem?_getD, hrj]; rfl
            rw [take_snoc ej]
            exact paired_append (RowsAt.n hacc sn) (.cons ((hrow.n s38.n).n sn) .nil)
        · rintro v' H7 ys D H8 acc ⟨s7, sv7, rfl⟩ hD hDa ⟨s8, sv8, hacc⟩
          have e7 : ((ahead ++ z.2).map iV).length = (rowsOf rs (ahead ++ z.2)).length := by simp [rowsOf]
          rw [e7, List.take_length] at hacc
          have s68 := s7.trans s8
          have s38 := s36.trans s68
          refine ⟨vo, p, _, true, acc, _, g, rfl, ho.n s38.n, hok, hg, hn, SqK.lst hDa, hacc, wsz z hzm, fun x5 H9 s9 hx5 => ?_⟩
          have hwz := worth_sz hg (by omega) hok (wsz z hzm)
          have ez : ((ways ps).map (fun z => z.1 * worth (n' + 1) p (rowsOf rs (ahead ++ z.2))))[i]? = some (z.1 * worth (n' + 1) p (rowsOf rs (ahead ++ z.2))) := by rw [List.getElem?_map, hzz]; rfl
          refine ⟨_, _, z.1, _, rfl, (hu.mono s68.n).mono s9.n, hx5, (hwbd z hzm).sz (Nat.pow_pos C0) (by omega) (by omega), hwz, fun x6 HA sA hx6 => ?_⟩
          have s6A := (s68.trans s9).trans sA
          refine ⟨_, _, _, _, rfl, (hyy.mono s6.n).mono s6A.n, hx6, szs.2 i, szs.1 _ (mem_get ez), fun x7 HB sB hx7 => u_gname ⟨_, _, _, _, _, rfl, ((s4.trans s6).trans s6A).trans sB, ?_⟩⟩
          rw [rsum_take ez]; exact hx7
    · rintro v' H3 zs σ' H' ⟨s3, sv, hz⟩ ⟨y, y5, y6, y7, y8, rfl, s4, hyy⟩
      have e1 : zs.length = ((ways ps).map (fun z => z.1 * worth (n' + 1) p (rowsOf rs (ahead ++ z.2)))).length := by rw [hz.length, List.length_map, hwlen, words_len]
      rw [e1, List.take_length] at hyy
      dsimp only
      exact u_ret ⟨_, rfl, k y H' (s3.trans s4) hyy⟩
end
end Hp
namespace Hp
set_option Elab.async false
set_option linter.all false
set_option maxRecDepth 100000
set_option maxHeartbeats 4000000
open PySem PySem.Spec PyProof.Rows L2 NdefX
section
variable {P : Program} {w : World} {K : PySem.W.Frag} {mg : Str → Option Value} {base : Heap}
def sp_law_spread  : Sp :=  fun vs H Q _ => ∃ t c b g k v h, vs = [.ref t, .int ((g : Nat) : Int), v] ∧ ThAt H t c b ∧ b < 999000 ∧ 1 ≤ g ∧ g ≤ 3 ∧ Num H v h ∧ Hs k h ∧ k ≤ 4 ∧ ∀ H' D zs am, SameB t H H' → ThAt H' t c (b + 3) → H' D = some (.lst zs) → D ≠ t → Nums H' zs am → AmH k g am → rsum am = h → Q (.ref D) H'
theorem sc_law_spread : FnScope ["_law_thief_here", "_law_goods", "_law_total_here", "_law_some", "_law_last", "_law_at", "_law_good"] ["_law_thief_here", "_law_goods", "_law_total_here"] (defScope s_law_spread) := ⟨rfl, rfl, rfl, by decide +kernel, rfl, by decide +kernel, by decide +kernel⟩
theorem c_law_spread (T : Wd K mg base) : Cal P w K mg base 5 "_law_spread" sp_law_spread [] := by
  obtain ⟨fd, F⟩ := T.d_law_spread
  refine mkCal (k := 5 - 1) F T.g_law_spread sc_law_spread (F.bindsN fun _ _ _ _ _ _ us hl => match us, hl with | [_, _, _], _ => rfl) (fun vs H Q E h => ?_) (fun cdv A outer s H vs Q E hr h => ?_)
  · rcases h with ⟨t, c, b, g, kk, v, h, rfl, th, hb, hg1, hg, hv, hh, hkk, k⟩ <;> rfl
  · rcases h with ⟨t, c, b, g, kk, v, h, rfl, th, hb, hg1, hg, hv, hh, hkk, k⟩
    refine ⟨_, (pss_cons (ps_setLc (i := 3) (own := [("_law_good", 6)]) rfl sc_law_spread.nd rfl rfl (sw_true rfl rfl rfl (by decide +kernel)) (pi_range1 rfl T.f_range (pa_cons (pe_op op_sub (pv 1) pe_int) pa_nil)) (blkOk_by (own := [("_law_good", 6)]) (N := ["_law_thief_here", "_law_goods", "_law_total_here", "_law_some", "_law_last", "_law_at", "_law_good"]) (sc := defScope s_law_spread) (by decide +kernel)) (fun _ _ _ _ _ => by exact (pg_name (i := 6) sc_law_spread.nd rfl (by first | exact Or.inl rfl | exact Or.inr rfl))) (fun _ _ _ _ _ => by exact pts_nil) (fun _ _ _ _ _ => by exact (pe_c (c_law_one_of T) hr (by decide) rfl (pa_cons (pv 0) (pa_cons (pe_lst (pa_cons pe_int (pa_cons pe_int (pa_cons (pe_tup (pa_cons pe_int (pa_cons pe_int pa_nil))) (pa_cons (pe_un un_neg pe_int) (pa_cons pe_int (pa_cons (pe_tup (pa_cons (pe_un un_neg pe_int) (pa_cons pe_int pa_nil))) (pa_cons (pe_un un_neg pe_int) pa_nil)))))))) pa_nil)))))
  (pss_cons (ps_set (i := 4) sc_law_spread.nd rfl (Or.inl rfl) (pe_c (c_law_plus T) hr (by decide) rfl (pa_cons (pv 2) (pa_cons (pe_c (c_law_minus T) hr (by decide) rfl (pa_cons (pe_c (c_law_total T) hr (by decide) rfl (pa_cons (pv 3) pa_nil)) pa_nil)) pa_nil))))
  (pss_cons (ps_set (i := 5) sc_law_spread.nd rfl (Or.inl rfl) (pe_c (c_law_prowl T) hr (by decide) rfl (pa_cons (pv 0) (pa_cons (pv 1) pa_nil))))
  (pss_one (ps_ret (pe_op op_cat (pe_op op_cat (pe_slice sl_any (pv 3) po_none (po_some (pv 5))) (pe_lst (pa_cons (pv 4) pa_nil))) (pe_slice sl_any (pv 3) (po_some (pv 5)) po_none))))))), ?_⟩
    have eg : ((g : Int) - 1) = ((g - 1 : Nat) : Int) := by omega
    refine u_seq (u_asg ?_)
    refine lcg_rng1 (H1 := H) (n := g - 1) (fun R r => ⟨_, rfl, _, _, rfl, rfl, by show R (V.int ((g : Int) - 1)) H; rw [eg]; exact r⟩) (by omega) (fun D j H4 acc => SameB t H H4 ∧ ThAt H4 t c (b + j) ∧ ∃ qs, Nums H4 acc qs ∧ qs.length = j ∧ ∀ q ∈ qs, Bd 2 80 q) ?_ ?_ ?_ (fun _ => rfl)
    · intro D hD
      have s1 := Same.of_new (o := .lst []) hD
      exact ⟨SameB.of s1, th.same s1, [], .nil, rfl, fun q hq => by simp at hq⟩
    · rintro D j H4 acc R Z hj hD hl hDa ⟨sb4, th4, qs, hn, hql, hqb⟩ hR _
      have hDt := (th.ne hD).1
      have hDc := (th.ne hD).2
      refine yesG ?_
      refine ⟨_, rfl, sz2, fun t1 n1 => ⟨_, rfl, _, rfl, sz2, fun t2 n2 => ⟨_, rfl, (by show 7 ≤ sizeLine; decide), fun l nl => ?_⟩⟩⟩
      have s1 := Same.of_new (o := .tup [V.int 1, V.int 2]) n1
      have h1 : (L2.upd H4 t1 (.tup [V.int 1, V.int 2])) t1 = some (.tup [V.int 1, V.int 2]) := upd_same
      generalize L2.upd H4 t1 (.tup [V.int 1, V.int 2]) = H5 at s1 h1 n2 nl ⊢
      have s2 := Same.of_new (o := .tup [V.int (-7), V.int 2]) n2
      have h2 : (L2.upd H5 t2 (.tup [V.int (-7), V.int 2])) t2 = some (.tup [V.int (-7), V.int 2]) := upd_same
      generalize L2.upd H5 t2 (.tup [V.int (-7), V.int 2]) = H6 at s2 h2 nl ⊢
      have s3 := Same.of_new (o := .lst [V.int 0, V.int 1, V.ref t1, V.int (-1), V.int 3, V.ref t2, V.int (-40)]) nl
      have h3 : (L2.upd H6 l (.lst [V.int 0, V.int 1, V.ref t1, V.int (-1), V.int 3, V.ref t2, V.int (-40)])) l = some (.lst [V.int 0, V.int 1, V.ref t1, V.int (-1), V.int 3, V.ref t2, V.int (-40)]) := upd_same
      have th6 := (th4.same s1).same s2
      have hlt := (th6.ne nl).1
      generalize L2.upd H6 l (.lst [V.int 0, V.int 1, V.ref t1, V.int (-1), V.int 3, V.ref t2, V.int (-40)]) = H7 at s3 h3 ⊢
      have s23 := s2.trans s3
      have s13 := s1.trans s23
      have nm : Nums H7 [V.int 0, V.int 1, V.ref t1, V.int (-1), V.int 3, V.ref t2, V.int (-40)] [0, 1, 1 / 2, ((-1 : Int) : Rat), 3, -7 / 2, ((-40 : Int) : Rat)] :=
        .cons (Num.int _ 0) (.cons (Num.int _ 1) (.cons (Num.pair (by decide +kernel) (by decide +kernel) (by decide +kernel) (s23 _ _ h1)) (.cons (Num.int _ (-1)) (.cons (Num.int _ 3) (.cons (Num.pair (by decide +kernel) (by decide +kernel) (by decide +kernel) (s3 _ _ h2)) (.cons (Num.int _ (-40)) .nil))))))
      refine ⟨t, c, b + j, .ref l, true, _, rfl, th6.same s3, by omega, SqK.lst h3, fun z => hlt (by injection z), by simp, by simp, fun H8 r x sb8 th8 hx => ?_⟩
      have hD8 := sb8 _ _ hDt (s13 _ _ hDa)
      obtain ⟨q, hq, hxq⟩ := paired_get nm hx
      have sn8 := (th6.same s3).n sb8
      have hne : SameN H8 (L2.upd H8 D (.lst (acc ++ [x]))) := SameN.lst hD8
      have hqm := mem_get hq
      refine hR _ _ hD8 ⟨((sb4.trans (SameB.of s13)).trans sb8).fresh hD, th8.put hDt hDc, qs ++ [q], paired_append (((hn.mono s13.n).mono sn8).mono hne) (.cons ((hxq.mono sn8).mono hne) .nil), by simp [hql], fun q' hq' => ?_⟩
      rcases List.mem_append.mp hq' with h | h
      · exact hqb q' h
      · rw [List.mem_singleton.mp h]
        exact bd_list (qs := [0, 1, 1 / 2, ((-1 : Int) : Rat), 3, -7 / 2, ((-40 : Int) : Rat)]) (by decide +kernel) q hqm
    · rintro D H4 acc hD hDa ⟨sb4, th4, qs, hn, hql, hqb⟩
      have hDt := (th.ne hD).1
      refine u_gname ?_
      dsimp only
      have hv4 := hv.mono (th.n sb4)
      have hsum : SzSum qs := szsum_of (L := 2) hqb (by omega) (by decide) (by decide) (by decide) (by decide)
      have hsb := Bd.rsum hqb
      have hsz : Sz (rsum qs) := by have := hsum.2 qs.length; rwa [List.take_length] at this
      have hsn : Sz (-(rsum qs)) := (hsb.neg.mono (N' := 160) (by have := Nat.mul_le_mul_right 80 (by omega : qs.length ≤ 2); omega)).sz (by decide) (by decide) (by decide)
      refine u_seq (u_asg ⟨_, rfl, _, rfl, true, _, acc, qs, rfl, SqK.lst hDa, hn, hsum, fun x5 H5 s5 hx5 => ?_⟩)
      refine ⟨x5, _, rfl, hx5, hsz, fun x6 H6 s6 hx6 => ?_⟩
      have s56 := s5.trans s6
      refine ⟨v, x6, h, _, rfl, hv4.mono s56.n, hx6, hh.sz (by omega), hsn, fun x7 H7 s7 hx7 => u_gname ?_⟩
      dsimp only
      have s57 := s56.trans s7
      refine u_seq (u_asg ⟨_, rfl, _, rfl, t, c, b + (g - 1), g, rfl, th4.same s57, by omega, by omega, by omega, fun H8 r sb8 th8 hr => u_gname ?_⟩)
      dsimp only
      have sn8 := (th4.same s57).n sb8
      have hD8 := sb8 _ _ hDt (s57 _ _ hDa)
      have hn8 := (hn.mono s57.n).mono sn8
      have hx8 := hx7.mono sn8
      have hal : acc.length ≤ 2 := by rw [hn.length, hql]; omega
      refine u_ret ⟨_, rfl, _, rfl, (r : Int), rfl, slOf (SqK.lst hD8) fun p9 H9 s9 sq9 => ?_⟩
      rw [cut_take] at sq9
      have h9 : H9 p9 = some (.lst (acc.take r)) := let ⟨_, e, h⟩ := sq9; by cases e; exact h
      refine ⟨_, rfl, (by show 1 ≤ sizeLine; decide), fun la na => ?_⟩
      have sA := Same.of_new (o := .lst [x7]) na
      have hA : (L2.upd H9 la (.lst [x7])) la = some (.lst [x7]) := upd_same
      have hA9 := sA _ _ h9
      have s9A := s9.trans sA
      generalize L2.upd H9 la (.lst [x7]) = HA at s9A hA hA9 ⊢
      refine ⟨p9, la, _, _, rfl, rfl, hA9, hA, Nat.le_trans (by rw [List.length_take]; simp; omega : _ ≤ 4) (by decide), fun lb nb => ?_⟩
      have sB := Same.of_new (o := .lst (acc.take r ++ [x7])) nb
      have hB : (L2.upd HA lb (.lst (acc.take r ++ [x7]))) lb = some (.lst (acc.take r ++ [x7])) := upd_same
      have s9B := s9A.trans sB
      generalize L2.upd HA lb (.lst (acc.take r ++ [x7])) = HB at s9B hB ⊢
      refine ⟨_, rfl, _, rfl, (r : Int), rfl, slOf (SqK.lst (s9B _ _ hD8)) fun pc HC sC sqC => ?_⟩
      rw [cut_drop] at sqC
      have hC : HC pc = some (.lst (acc.drop r)) := let ⟨_, e, h⟩ := sqC; by cases e; exact h
      refine ⟨lb, pc, _, _, rfl, rfl, sC _ _ hB, hC, Nat.le_trans (by rw [List.length_append, List.length_take, List.length_drop]; simp; omega : _ ≤ 4) (by decide), fun ld nd => ?_⟩
      have sD := Same.of_new (o := .lst (acc.take r ++ [x7] ++ acc.drop r)) nd
      have s9D := (s9B.trans sC).trans sD
      have thD := th8.same (s9B.trans sC)
      refine k _ ld _ (qs.take r ++ [h + -(rsum qs)] ++ qs.drop r) (((sb4.trans (SameB.of s57)).trans sb8).trans (SameB.of s9D)) ((thD.same sD).mono (by omega)) upd_same (thD.ne nd).1 ?_ (am_spread hh (by omega) hg hqb) (rsum_spread qs h r)
      exact Nums.mono (paired_append (paired_append (paired_take hn8 r) (.cons hx8 .nil)) (paired_drop hn8 r)) s9D.n
def sp_law_thief  : Sp :=  fun vs H Q _ => ∃ a, ∃ ns : List Int, vs = [.ref a] ∧ SqL K H a (ns.map V.int) ∧ ns.length ≤ 63 ∧ ∀ H' t c, Same H H' → ThAt H' t c 0 → Q (.ref t) H'
theorem sc_law_thief : FnScope ["_law_script", "_law_cell"] ["_law_script"] (defScope s_law_thief) := ⟨rfl, rfl, rfl, by decide +kernel, rfl, by decide +kernel, by decide +kernel⟩
theorem c_law_thief (T : Wd K mg base) : Cal P w K mg base 1 "_law_thief" (sp_law_thief (K := K)) [] := by
  obtain ⟨fd, F⟩ := T.d_law_thief
  refine mkCal (k := 1 - 1) F T.g_law_thief sc_law_thief (F.bindsN fun _ _ _ _ _ _ us hl => match us, hl with | [_], _ => rfl) (fun vs H Q E h => ?_) (fun cdv A outer s H vs Q E hr h => ?_)
  · rcases h with ⟨a, ns, rfl, sv, hl, k⟩ <;> rfl
  · rcases h with ⟨a, ns, rfl, sv, hl, k⟩
    refine ⟨_, (pss_one (ps_ret (pe_lst (pa_cons (pe_lc (own := [("_law_cell", 1)]) rfl sc_law_thief.nd (pi_seq (pe_slice sl_any (pv 0) po_none (po_some pe_int))) (blkOk_by (own := [("_law_cell", 1)]) (N := ["_law_script", "_law_cell"]) (sc := defScope s_law_thief) (by decide +kernel)) (fun _ _ _ _ _ => by exact (pg_name (i := 1) sc_law_thief.nd rfl (by first | exact Or.inl rfl | exact Or.inr rfl))) (fun _ _ _ _ _ => by exact pts_nil) (fun _ _ _ _ _ => by exact (pe_callTy call_int1 (by rfl) T.f_int (by decide +kernel) (pa_cons (pv 1) pa_nil)))) (pa_cons pe_int (pa_cons pe_int pa_nil)))))), ?_⟩
    refine u_ret (u_lst (u_cons ?_))
    refine lcg_seqG (b := true) (fun v' H3 ys => Same H H3 ∧ SqK true H3 v' ys ∧ ys = (ns.take 57).map V.int) ?_ (fun v' H3 ys h => ⟨h.2.1, ?_⟩) (fun v' H3 ys D i H4 acc => Same H3 H4 ∧ SqK true H4 v' ys ∧ acc = ys.take i) (fun v' H3 ys D i H4 acc h => h.2.1) ?_ ?_ ?_ (fun _ => rfl)
    · intro R hR
      refine ⟨_, rfl, (57 : Int), rfl, .inl ⟨a, _, rfl, sv, fun q nq => ?_⟩⟩
      have e : cutV (ns.map V.int) none (some (57 : Int)) = (ns.map V.int).take 57 := cut_take _ 57
      rw [e, ← List.map_take]
      exact hR _ _ _ ⟨Same.of_new nq, SqK.lst upd_same, rfl⟩
    · rw [h.2.2, List.length_map, List.length_take]; omega
    · rintro v' H3 ys D ⟨s3, sv3, _⟩ hD
      exact ⟨Same.of_new hD, sv3.same (Same.of_new hD), by rw [List.take_zero]⟩
    · rintro v' H3 ys D i x H4 acc R Z ⟨s3, sv3, rfl⟩ hx hD hla hDa ⟨s4, sv4, rfl⟩ hR _
      have hx0 := hx
      rw [List.getElem?_map] at hx
      obtain ⟨n, hn, rfl⟩ := Option.map_eq_some_iff.mp hx
      refine yesG ⟨_, rfl, .inl ⟨_, rfl, hR _ _ hDa ⟨fun b o h => ?_, ?_, (take_snoc hx0).symm⟩⟩⟩
      · rw [upd_ne (ne_of_none h hD)]; exact s4 _ _ h
      · obtain ⟨pv, rfl, hpv⟩ := sv4
        obtain ⟨pv2, e2, hpv2⟩ := sv3
        cases e2
        exact ⟨pv, rfl, by rw [upd_ne (ne_of_none hpv2 hD)]; exact hpv⟩
    · rintro v' H3 ys D H4 acc ⟨s3, sv3, rfl⟩ hD hDa ⟨s4, sv4, rfl⟩
      rw [List.take_length] at hDa
      refine ⟨(by show 3 ≤ sizeLine; decide), fun t nt => ?_⟩
      have sT := Same.of_new (o := .lst [V.ref D, V.int 0, V.int 0]) nt
      refine k _ t D ((s3.trans s4).trans sT) ⟨ns.take 57, 0, 0, fun e => ?_, upd_same, sT _ _ hDa, by rw [List.length_take]; omega, Nat.le_refl _⟩
      rw [e, hDa] at nt; cases nt
end
end Hp
/-! A call by keywords alone; a call whose exceptions never come. -/
namespace Hp
set_option Elab.async false
set_option linter.all false
set_option maxRecDepth 100000
set_option maxHeartbeats 4000000
open PySem PySem.Spec PyProof.Rows L2
theorem passN {X : Cx} : Passes (L2.CX X.prog X.w) X E0 := fun _ _ _ _ _ _ _ c => by
  obtain ⟨_, _, _, _, _, _, _, _, _, _, _, _, h⟩ := c
  exact h.elim
section
variable {P : Program} {w : World} {K : PySem.W.Frag} {mg : Str → Option Value} {base : Heap}
theorem mkFn {x : Str} {st : Stmt} {N ps : List Str} {k : Nat} {sp : Sp} {f : Addr} {fd : FuncData} (F : FunD K x x (defArgs st) (defBody st) (defScope st) [] [] f fd) (S : FnScope N ps (defScope st)) (len : ∀ vs H Q E, sp vs H Q E → vs.length = ps.length)
    (hbody : ∀ (cdv : Value) (A : Around) (outer : List Env) (s : Shared) (H : Hp) (vs : List V) (Q : VK) (E : XK), Room k (A.deeper (envOfC x (defScope st) s.heap.objs.size f cdv)) → sp vs H Q E →
      ∃ t, PSs (cxOf CX0 P w K mg base N x (defScope st) f cdv A outer s H E).nox (defBody st) t ∧ t { nx := fun _ H' => Q .non H', rt := Q } (start N vs) H) : FnOk P w K mg base CX0 (k + 1) f fd ps sp :=
  F.ok S len (fun cdv A outer s H vs Q E hr h => by
    obtain ⟨t, a, b⟩ := hbody cdv A outer s H vs Q E hr h
    exact ⟨t, a.nox, b⟩)
end
section
variable {X : Cx} {CX : CXT} {k : Nat} {f : Addr} {fd : FuncData} {ps ks : List Str} {sp : Sp} {E : XK} {x : Str} {p pos : Pos} {kws : List Keyword} {tk : TA} {g : List Value → List Value → List Value} {gV : List V → List V → List V}
theorem pe_callN0 (F : FnOk X.prog X.w X.K X.mg X.base CX k f fd ps sp) (hr : Room k X.A) (hg : Gl X x) (hm : X.mg x = some (.ref f)) (hk : PySem.W.keepIn X.K (.ref f) = true) (hb : KBn X.K fd ps 0 ks g gV) (hx : Passes CX X E) (hkw : PK X kws tk)
    (hall : (backToKw pos (keywordEach kws X.env)).all (·.1.isSome) = true := by rfl) (hks : (backToKw pos (keywordEach kws X.env)).filterMap (·.1) = ks := by rfl) (hdb : (x == ("__debug__" : Str)) = false := by decide)
    (hpl : ((backTo pos (starEach [] X.env)).any (·.1) || (backToKw pos (keywordEach kws X.env)).any (·.1.isNone)) = false := by rfl) :
    PE X (.Call (.Name x p) [] kws pos) (tCallN 0 ks.length sp gV E tNil tk) := by
  refine ⟨fun pins s σ H Q I h => ?_⟩
  refine wpAny_Call_Name_kw (ld_glob I hg hm ?_ hdb)
  refine PySem.W.callWith_KW0 (h₀ := X.base) I.ok.mod.kin hk hall ?_ hpl
  refine thn (hkw.run pos pins s σ H _ I h) fun ws s2 ⟨zs, H2, I2, rz, l1, l2, q2⟩ => ⟨I2.kIn, ?_⟩
  rw [hks]
  exact run_fnN (us := []) (vs := []) F hr hb hx I2 .nil rz l1 l2 q2
end
end Hp
namespace Hp
set_option Elab.async false
set_option linter.all false
set_option maxRecDepth 100000
set_option maxHeartbeats 4000000
open PySem PySem.Spec PyProof.Rows L2 NdefX
/-- what stands while the law runs -/
structure LawSt (K : PySem.W.Frag) (H : Hp) (g : Nat) (t c : Addr) (b : Nat) (vr vo vp vc vw : V) (rs : List (List Rat)) (W : List Rat) (p p' : Pr) : Prop where
  th : ThAt H t c b
  rows : ∃ D zs, vr = .ref D ∧ D ≠ t ∧ H D = some (.lst zs) ∧ RowsAt H zs rs
  own : OwnAt g 3 H vo p
  pr : PrAt K g 3 H vp p'
  cor : CorAt K H vc rs W
  wt : RowAt H vw W
theorem LawSt.sb {K : PySem.W.Frag} {H H' : Hp} {g : Nat} {t c : Addr} {b b' : Nat} {vr vo vp vc vw : V} {rs : List (List Rat)} {W : List Rat} {p p' : Pr} (h : LawSt K H g t c b vr vo vp vc vw rs W p p') (e : SameB t H H') (th : ThAt H' t c b') : LawSt K H' g t c b' vr vo vp vc vw rs W p p' := by
  have n := h.th.n e
  obtain ⟨D, zs, h1, h2, h3, h4⟩ := h.rows
  exact ⟨th, ⟨D, zs, h1, h2, e _ _ h2 h3, RowsAt.n h4 n⟩, h.own.n n, h.pr.n n, h.cor.n n, h.wt.n n⟩
theorem LawSt.same {K : PySem.W.Frag} {H H' : Hp} {g : Nat} {t c : Addr} {b : Nat} {vr vo vp vc vw : V} {rs : List (List Rat)} {W : List Rat} {p p' : Pr} (h : LawSt K H g t c b vr vo vp vc vw rs W p p') (e : Same H H') : LawSt K H' g t c b vr vo vp vc vw rs W p p' := h.sb (SameB.of e) (h.th.same e)
theorem CorOk.sx {g : Nat} {rs : List (List Rat)} (h : CorOk g rs) : ∀ r ∈ rs, r.length = g ∧ ∀ q ∈ r, 0 ≤ q ∧ Sx 5 q := fun r hr => ⟨h.1.len r hr, fun q hq => ⟨((h.1.2 r hr).2 q hq).1, 6, 24, ((h.1.2 r hr).2 q hq).2, by decide, by decide, by decide⟩⟩
theorem ws_rep {g C N k : Nat} {W : List Rat} (h : WsOk g C N W) : ∀ r ∈ List.replicate k W, r.length = g ∧ ∀ q ∈ r, q ≠ 0 ∧ Bd C N q := fun r hr => by
  rw [List.eq_of_mem_replicate hr]; exact ⟨h.1, h.2.1⟩
theorem rest_bd3 {g d C N : Nat} {p : Pr} {rs : List (List Rat)} {W : List Rat} {w : List Nat} (hok : PrOk g 3 p) (hg : g ≤ 3) (hrs : RsOk g rs) (hws : WsOk g C N W) (hw : ∀ i ∈ w, i < g) (hd : d ≤ 3) (hwd : w.length ≤ d) :
    Bd (RD C 2) (RN C N 2) (rest 3 p rs W d w) ∧ 0 < RD C 2 ∧ (RD C 2).log2 < 2100 ∧ (RN C N 2).log2 < 3200 := by
  have z := RD_sz (C := C) (N := N) (n := 2) (by decide) hws.2.2.2.2.1 hws.2.2.2.2.2
  exact ⟨rest_bd hok hg hrs hws hw hd hwd, RD_pos hws.2.2.1, z.1, z.2⟩
theorem filter_snoc {f : Nat → Bool} {k : Nat} : (List.range (k + 1)).filter f = (List.range k).filter f ++ (if f k = true then [k] else []) := by
  rw [List.range_succ, List.filter_append]
  congr 1
  rw [List.filter_cons]
  split <;> rfl
theorem u_par3 {σ : L2.St} {H : Hp} {D : Ends} {i j l : Nat} {ta : TA} (h : ta σ H fun vs H1 => ∃ u v w, vs = [u, v, w] ∧ D.nx (((σ.set i (some u)).set j (some v)).set l (some w)) H1) : tPar3 i j l ta D σ H := h
section
variable {K : PySem.W.Frag} {H : Hp} {g : Nat} {t c : Addr} {b d : Nat} {vr vo vp vc vw : V} {rs : List (List Rat)} {W : List Rat} {p p' : Pr} {C N : Nat} {wd : List Nat}
/-- what a call of over_words asks -/
theorem LawSt.over (L : LawSt K H g t c b vr vo vp vc vw rs W p p') (hok : PrOk g 3 p) (hg1 : 1 ≤ g) (hg : g ≤ 3) (hrs : RsOk g rs) (hws : WsOk g C N W) {va : V} {bA : Bool} {k : Nat} {q : Addr} {Q : VK} {E : XK} (sa : SqK bA H va (wd.map iV)) (hw : ∀ i ∈ wd, i < g)
    (hq : H q = some (.lst (List.replicate k [vw]).flatten)) (hk : wd.length + k ≤ 3) (h : ∀ x H', Same H H' → Num H' x (Hp.over 3 p rs wd (List.replicate k W)) → Q x H') : sp_law_over_words [vo, vr, va, .ref q] H Q E := by
  obtain ⟨D, zs, rfl, _, hD, hz⟩ := L.rows
  exact ⟨vo, .ref D, va, .ref q, true, bA, true, 3, p, g, rs, zs, wd, _, List.replicate k W, C, N, rfl, L.own, hok, by decide, hg1, hg, SqK.lst hD, hz, hrs, sa, hw, SqK.lst hq, rows_rep L.wt k, by rw [List.length_replicate]; exact hk, ws_rep hws, hws.2.2.1, hws.2.2.2.1, hws.2.2.2.2.1, hws.2.2.2.2.2, h⟩
theorem rest_like (hlk : Like g 3 p' p) (hrs : RsOk g rs) (hw : ∀ i ∈ wd, i < g) (hd : d ≤ 3) (hl : wd.length ≤ d) (hWl : W.length = g) : rest 3 p' rs W d wd = rest 3 p rs W d wd := rest_congr hrs hw hd hl hWl hlk.2
theorem short_like (hlk : Like g 3 p' p) (hrs : RsOk g rs) (hw : ∀ i ∈ wd, i < g) (hd : d ≤ 3) (hl : wd.length < d) (hWl : W.length = g) {am : List Rat} {i : Nat} (hi : i < g) : short 3 p' rs W d wd am i = short 3 p rs W d wd am i := by
  unfold short
  rw [rest_like hlk hrs (fun j hj => by
    rcases List.mem_append.mp hj with h | h
    · exact hw j h
    · rw [List.mem_singleton.mp h]; exact hi) hd (by rw [List.length_append]; exact hl) hWl]
theorem LawSt.refused (L : LawSt K H g t c b vr vo vp vc vw rs W p p') (hlk : Like g 3 p' p) (hg1 : 1 ≤ g) (hg : g ≤ 3) (hrs : RsOk g rs) (hws : WsOk g C N W) (hd : d ≤ 3) (hl : wd.length < d) {vv va : V} {bA b2 : Bool} {xs : List V} {am : List Rat} {Q : VK} {E : XK} (sa : SqK bA H vv (wd.map iV)) (hw : ∀ i ∈ wd, i < g)
    (sx : SqK b2 H va xs) (hx : Nums H xs am) (ham : AmOk g am) (hge : ¬ rsum am < rest 3 p rs W d wd) (h : ∀ H', Same H H' → Q (.bl true) H') : sp_law_is_refused (K := K) [vp, vc, .int ((d : Nat) : Int), vv, va] H Q E :=
  ⟨vp, vc, vv, va, bA, b2, d, g, 3, p', rs, W, wd, xs, am, C, N, rfl, L.pr, hlk.1, by decide, hg1, hg, L.cor, hrs, hws, sa, hw, hl, hd, sx, hx, ham, by rw [rest_like hlk hrs hw hd (by omega) hws.1]; exact hge, h⟩
theorem LawSt.robbed (L : LawSt K H g t c b vr vo vp vc vw rs W p p') (hlk : Like g 3 p' p) (hg1 : 1 ≤ g) (hg : g ≤ 3) (hrs : RsOk g rs) (hws : WsOk g C N W) (hd : d ≤ 3) (hl : wd.length < d) {vv va : V} {bA b2 : Bool} {xs : List V} {am : List Rat} {Q : VK} (sa : SqK bA H vv (wd.map iV)) (hw : ∀ i ∈ wd, i < g)
    (sx : SqK b2 H va xs) (hx : Nums H xs am) (ham : AmOk g am) (hlt : rsum am < rest 3 p rs W d wd) {i0 : Nat} (h0 : i0 < g) (h1 : short 3 p rs W d wd am i0 = true) (h2 : ∀ j, j < i0 → short 3 p rs W d wd am j = false)
    (h : ∀ H', Same H H' → Q (.int ((i0 : Nat) : Int)) H') : sp_robbed K [vp, vc, .int ((d : Nat) : Int), vv, va] H Q E0 := by
  have e := rest_like hlk hrs hw hd (by omega) hws.1
  have es : ∀ i, i < g → short 3 p' rs W d wd am i = short 3 p rs W d wd am i := fun i hi => short_like hlk hrs hw hd hl hws.1 hi
  refine ⟨vp, vc, vv, va, bA, b2, d, g, 3, p', rs, W, wd, xs, am, C, N, rfl, L.pr, hlk.1, by decide, hg1, hg, L.cor, hrs, hws, sa, hw, hl, hd, sx, hx, ham, fun hn => ?_, fun _ i H' s hi hs hj => ?_, fun _ H' s hn => ?_⟩
  · rw [e] at hn; exact absurd hlt hn
  · have : i = i0 := by
      rcases Nat.lt_trichotomy i i0 with hlt' | he | hgt
      · have := h2 i hlt'
        rw [← es i hi, hs] at this; cases this
      · exact he
      · have := hj i0 hgt
        rw [es i0 h0, h1] at this; cases this
    subst this
    exact h H' s
  · have := hn i0 h0
    rw [es i0 h0, h1] at this; cases this
theorem first_uniq (hlk : Like g 3 p' p) (hrs : RsOk g rs) (hw : ∀ i ∈ wd, i < g) (hd : d ≤ 3) (hl : wd.length < d) (hWl : W.length = g) {am : List Rat} {i0 : Nat} (h0 : i0 < g) (h1 : short 3 p rs W d wd am i0 = true) (h2 : ∀ j, j < i0 → short 3 p rs W d wd am j = false) :
    (∀ i, i < g → short 3 p' rs W d wd am i = true → (∀ j, j < i → short 3 p' rs W d wd am j = false) → i = i0) ∧ ¬ ∀ i, i < g → short 3 p' rs W d wd am i = false := by
  have es : ∀ i, i < g → short 3 p' rs W d wd am i = short 3 p rs W d wd am i := fun i hi => short_like hlk hrs hw hd hl hWl hi
  refine ⟨fun i hi hs hj => ?_, fun hn => ?_⟩
  · rcases Nat.lt_trichotomy i i0 with hlt' | he | hgt
    · have := h2 i hlt'
      rw [← es i hi, hs] at this; cases this
    · exact he
    · have := hj i0 hgt
      rw [es i0 h0, h1] at this; cases this
  · have := hn i0 h0
    rw [es i0 h0, h1] at this; cases this
end
end Hp
namespace Hp
set_option Elab.async false
set_option linter.all false
set_option maxRecDepth 100000
set_option maxHeartbeats 4000000
open PySem PySem.Spec PyProof.Rows L2 NdefX
section
variable {P : Program} {w : World} {K : PySem.W.Frag} {mg : Str → Option Value} {base : Heap}
def sp_law (K : PySem.W.Frag) : Sp := fun vs H Q _ => ∃ a, ∃ ns : List Int, vs = [.ref a] ∧ SqL K H a (ns.map V.int) ∧ ns.length ≤ 63 ∧ ∀ H', Q (.bl true) H'
theorem sc_law : FnScope ["_law_script", "_law_thief_here", "_law_goods", "_law_rows_here", "_law_own", "_law_days", "_law_promise_here", "_law_corner_here", "_law_weights", "_law_price", "_law_word", "_law_has", "_law_turn", "_law_rest", "_law_enough", "_law_amounts", "_law_short", "_law_good", "_law_row", "_law_told"] ["_law_script"] (defScope s_law) := ⟨rfl, rfl, rfl, by decide +kernel, rfl, by decide +kernel, by decide +kernel⟩
theorem ok_law (T : Wd K mg base) (hP : PF P) {f : Addr} {fd : FuncData} (F : FunD K "law" "law" (defArgs s_law) (defBody s_law) (defScope s_law) [] [] f fd) : FnOk P w K mg base CX0 20 f fd ["_law_script"] (sp_law K) := by
  refine mkFn (k := 20 - 1) F sc_law (fun vs H Q E h => ?_) (fun cdv A outer s H vs Q E hr h => ?_)
  · rcases h with ⟨a0, ns, rfl, sa0, hns, k⟩ <;> rfl
  · rcases h with ⟨a0, ns, rfl, sa0, hns, k⟩
    obtain ⟨fR, fdR, psR, gvR, FR, gR, kR, bR, kbR⟩ := (c_robbed (P := P) (w := w) T).ex
    refine ⟨_, (pss_cons (ps_set (i := 1) sc_law.nd rfl (Or.inl rfl) (pe_c (c_law_thief T) hr (by decide) rfl (pa_cons (pv 0) pa_nil)))
        (pss_cons (ps_set (i := 2) sc_law.nd rfl (Or.inl rfl) (pe_c (c_law_one_of T) hr (by decide) rfl (pa_cons (pv 1) (pa_cons (pe_lst (pa_cons pe_int (pa_cons pe_int (pa_cons pe_int (pa_cons pe_int pa_nil))))) pa_nil))))
        (pss_cons (ps_asg (pe_tup (pa_cons (pe_c (c_law_corner T) hr (by decide) rfl (pa_cons (pv 1) (pa_cons (pv 2) pa_nil))) (pa_cons (pe_c (c_law_promise T 3) hr (by decide) rfl (pa_cons (pv 1) (pa_cons (pv 2) (pa_cons pe_int (pa_cons pe_bl pa_nil))))) (pa_cons (pe_op op_add pe_int (pe_c (c_law_prowl T) hr (by decide) rfl (pa_cons (pv 1) (pa_cons pe_int pa_nil)))) pa_nil)))) (pg_tup rfl (pgs_cons (pg_name (i := 3) sc_law.nd rfl (Or.inr rfl)) (pgs_cons (pg_name (i := 4) sc_law.nd rfl (Or.inl rfl)) (pgs_cons (pg_name (i := 5) sc_law.nd rfl (Or.inl rfl)) pgs_nil)))))
        (pss_cons (ps_par3 (i := 6) (j := 7) (l := 8) rfl sc_law.nd rfl rfl rfl (by decide) (by decide) (by decide) rfl rfl rfl (pa_cons (pe_c (c_law_made T hP 3) hr (by decide) rfl (pa_cons (pv 4) pa_nil)) (pa_cons (pe_mk (m_Corner T) hr (by decide) rfl (pa_cons (pv 3) pa_nil)) (pa_cons (pe_c (c_law_parts T) hr (by decide) rfl (pa_cons (pv 3) (pa_cons (pe_op op_repA (pe_tup (pa_cons pe_int pa_nil)) (pv 2)) pa_nil))) pa_nil))) (by rfl))
        (pss_cons (ps_par (i := 9) (j := 10) rfl sc_law.nd rfl rfl (by decide) rfl rfl (pa_cons (pe_c (c_law_over_words T) hr (by decide) rfl (pa_cons (pv 4) (pa_cons (pv 3) (pa_cons (pe_tup pa_nil) (pa_cons (pe_op op_rep (pe_lst (pa_cons (pv 8) pa_nil)) (pv 5)) pa_nil))))) (pa_cons (pe_lst pa_nil) pa_nil)) (by rfl))
        (pss_cons (ps_set (i := 11) sc_law.nd rfl (Or.inl rfl) (pe_c (c_law_plus T) hr (by decide) rfl (pa_cons (pv 9) (pa_cons (pe_c (c_law_one_of T) hr (by decide) rfl (pa_cons (pv 1) (pa_cons (pe_lst (pa_cons (pe_un un_neg pe_int) (pa_cons (pe_tup (pa_cons (pe_un un_neg pe_int) (pa_cons pe_int pa_nil))) (pa_cons (pe_un un_neg pe_int) (pa_cons (pe_tup (pa_cons (pe_un un_neg pe_int) (pa_cons (pe_op op_pow pe_int pe_int) pa_nil))) pa_nil))))) pa_nil))) pa_nil))))
        (pss_cons (ps_for PassesOwn.never rfl (pi_range1 rfl T.f_range (pa_cons (pv 5) pa_nil)) (pg_name (i := 12) sc_law.nd rfl (Or.inl rfl))
        (pss_cons (ps_set (i := 13) sc_law.nd rfl (Or.inl rfl) (pe_c (c_law_over_words T) hr (by decide) rfl (pa_cons (pv 4) (pa_cons (pv 3) (pa_cons (pv 10) (pa_cons (pe_op op_rep (pe_lst (pa_cons (pv 8) pa_nil)) (pe_op op_sub (pv 5) (pv 12))) pa_nil))))))
        (pss_cons (ps_set (i := 14) sc_law.nd rfl (Or.inl rfl) (pe_c (c_law_spread T) hr (by decide) rfl (pa_cons (pv 1) (pa_cons (pv 2) (pa_cons (pe_c (c_law_plus T) hr (by decide) rfl (pa_cons (pv 13) (pa_cons (pe_c (c_law_one_of T) hr (by decide) rfl (pa_cons (pv 1) (pa_cons (pe_lst (pa_cons pe_int (pa_cons pe_int (pa_cons pe_int (pa_cons (pe_tup (pa_cons pe_int (pa_cons (pe_op op_pow pe_int pe_int) pa_nil))) pa_nil))))) pa_nil))) pa_nil))) pa_nil)))))
        (pss_cons (ps_if (pt_not (pt_val (pe_c (c_law_is_refused T) hr (by decide) rfl (pa_cons (pv 6) (pa_cons (pv 7) (pa_cons (pv 5) (pa_cons (pv 10) (pa_cons (pv 14) pa_nil)))))))) (pss_one (ps_ret pe_bl)) pss_nil)
        (pss_cons (ps_set (i := 15) sc_law.nd rfl (Or.inl rfl) (pe_c (c_law_spread T) hr (by decide) rfl (pa_cons (pv 1) (pa_cons (pv 2) (pa_cons (pv 11) pa_nil)))))
        (pss_cons (ps_set (i := 16) sc_law.nd rfl (Or.inl rfl) (pe_lst pa_nil))
        (pss_cons (ps_for PassesOwn.never rfl (pi_enumS (by rfl) T.f_enumerate (pa_cons (pv 3) pa_nil)) (pg_tup rfl (pgs_cons (pg_name (i := 17) sc_law.nd rfl (Or.inl rfl)) (pgs_cons (pg_name (i := 18) sc_law.nd rfl (Or.inl rfl)) pgs_nil)))
        (pss_one (ps_if (pt_val (pe_c (c_law_is_less T) hr (by decide) rfl (pa_cons (pe_c (c_law_paid T) hr (by decide) rfl (pa_cons (pv 15) (pa_cons (pv 18) pa_nil))) (pa_cons (pe_c (c_law_over_words T) hr (by decide) rfl (pa_cons (pv 4) (pa_cons (pv 3) (pa_cons (pe_op op_cat (pv 10) (pe_lst (pa_cons (pv 17) pa_nil))) (pa_cons (pe_op op_rep (pe_lst (pa_cons (pv 8) pa_nil)) (pe_op op_sub (pe_op op_sub (pv 5) (pv 12)) pe_int)) pa_nil))))) pa_nil)))) (pss_one (ps_expr (pe_bm PySem.F.plainAttrs_list PySem.F.slot_list_append PySem.F.type_list_append mt_append (pv 16) (pa_cons (pv 17) pa_nil)))) pss_nil)))
        (pss_cons (ps_set (i := 19) sc_law.nd rfl (Or.inl rfl) (pe_call FR (hr.mono (by decide)) rfl gR kR bR .nil passN (pa_cons (pv 6) (pa_cons (pv 7) (pa_cons (pv 5) (pa_cons (pe_c (c_law_one_of T) hr (by decide) rfl (pa_cons (pv 1) (pa_cons (pe_lst (pa_cons (pv 10) (pa_cons (pe_callTy call_tuple_of (by rfl) T.f_tuple (by decide +kernel) (pa_cons (pv 10) pa_nil)) pa_nil))) pa_nil))) (pa_cons (pe_c (c_law_one_of T) hr (by decide) rfl (pa_cons (pv 1) (pa_cons (pe_lst (pa_cons (pv 15) (pa_cons (pe_callTy call_tuple_of (by rfl) T.f_tuple (by decide +kernel) (pa_cons (pv 15) pa_nil)) pa_nil))) pa_nil))) pa_nil)))))))
        (pss_cons (ps_if (PW.pt (pw_or (pt_cmpR (op_eqD (u64 hr)) (pv 16) (pe_lst pa_nil) (nomark _)) (pw_or (pt_cmpR op_ne (pe_callB SkE.call_repr_int (by rfl) T.f_repr (by decide +kernel) (pa_cons (pv 19) pa_nil)) (pe_callB SkE.call_repr_int (by rfl) T.f_repr (by decide +kernel) (pa_cons (pe_ix ix_seq (pv 16) pe_int (fun _ _ => rfl)) pa_nil)) (nomark _)) (pw_or1 (pt_cmpR op_ne (pe_callN0 FR (hr.mono (by decide)) rfl gR kR kbR passN (pk_cons (pv 15) (pk_cons (pv 10) (pk_cons (pv 5) (pk_cons (pv 7) (pk_cons (pv 6) pk_nil)))))) (pv 19) (nomark _)))))) (pss_one (ps_ret pe_bl)) pss_nil)
        (pss_one (ps_par (i := 11) (j := 10) rfl sc_law.nd rfl rfl (by decide) rfl rfl (pa_cons (pe_c (c_law_paid T) hr (by decide) rfl (pa_cons (pv 15) (pa_cons (pe_ix ix_seq (pv 3) (pv 19) (fun _ _ => rfl)) pa_nil))) (pa_cons (pe_op op_cat (pv 10) (pe_lst (pa_cons (pv 19) pa_nil))) pa_nil)) (by rfl))))))))))))
        (pss_one (ps_ret (pe_c (c_law_is_less T) hr (by decide) rfl (pa_cons (pv 11) (pa_cons (pe_c (c_law_worth T 3) hr (by decide) rfl (pa_cons (pv 4) (pa_cons (pe_lc (own := [("_law_good", 17)]) rfl sc_law.nd (pi_seq (pv 10)) (blkOk_by (own := [("_law_good", 17)]) (N := ["_law_script", "_law_thief_here", "_law_goods", "_law_rows_here", "_law_own", "_law_days", "_law_promise_here", "_law_corner_here", "_law_weights", "_law_price", "_law_word", "_law_has", "_law_turn", "_law_rest", "_law_enough", "_law_amounts", "_law_short", "_law_good", "_law_row", "_law_told"]) (sc := defScope s_law) (by decide +kernel)) (fun _ _ _ _ _ => by exact (pg_name (i := 17) sc_law.nd rfl (by first | exact Or.inl rfl | exact Or.inr rfl))) (fun _ _ _ _ _ => by exact pts_nil) (fun _ _ _ _ _ => by exact (pe_ix (ixK (K := K) rfl) (pv 3) (pv 17) (fun _ _ => rfl)))) pa_nil))) pa_nil)))))))))))), ?_⟩
    refine u_seq (u_asg ⟨_, rfl, a0, ns, rfl, sa0, hns, fun H1 t c s1 th1 => u_gname ?_⟩)
    dsimp only
    refine u_seq (u_asg ⟨_, rfl, (by show 4 ≤ sizeLine; decide), fun l2 n2 => ?_⟩)
    have s2 := Same.of_new (o := .lst [V.int 2, V.int 1, V.int 3, V.int 2]) n2
    refine ⟨t, c, 0, .ref l2, true, _, rfl, th1.same s2, by decide, SqK.lst upd_same, fun z => (th1.ne n2).1 (by injection z), by simp, by simp, fun H3 r3 x3 sb3 th3 hx3 => u_gname ?_⟩
    obtain ⟨g, rfl, hg1, hg⟩ : ∃ g : Nat, x3 = .int ((g : Nat) : Int) ∧ 1 ≤ g ∧ g ≤ 3 := by
      match r3, hx3 with
      | 0, hx => exact ⟨2, by simpa using hx.symm, by decide, by decide⟩
      | 1, hx => exact ⟨1, by simpa using hx.symm, by decide, by decide⟩
      | 2, hx => exact ⟨3, by simpa using hx.symm, by decide, by decide⟩
      | 3, hx => exact ⟨2, by simpa using hx.symm, by decide, by decide⟩
    dsimp only
    clear hx3 sb3 s2 n2
    refine u_seq (u_asg ⟨_, rfl, _, rfl, t, c, 1, g, rfl, th3, by decide, hg1, hg, fun H4 D zs rs sb4 th4 hD hDt hrows hcor => ?_⟩)
    refine ⟨_, rfl, _, rfl, t, c, 13, g, 2, rfl, by decide, rfl, by decide, th4, by decide, hg1, hg, fun H5 vo p sb5 th5 hown hok hvt => ?_⟩
    refine ⟨_, rfl, t, c, 13 + nb 3, 3, rfl, th5, by decide, by decide, by decide, fun H6 r6 sb6 th6 hr6 => ⟨_, _, rfl, rfl, (by show 3 ≤ sizeLine; decide), fun T7 n7 => ?_⟩⟩
    have ed : (1 : Int) + (r6 : Int) = ((r6 + 1 : Nat) : Int) := by omega
    have hd1 : 1 ≤ r6 + 1 := by omega
    have hd3 : r6 + 1 ≤ 3 := by omega
    dsimp only
    rw [ed]
    generalize r6 + 1 = d at hd1 hd3 ⊢
    have s7 := Same.of_new (o := .tup [V.ref D, vo, V.int (d : Int)]) n7
    refine ⟨T7, _, rfl, SqT.of upd_same, rfl, _, _, rfl, _, _, rfl, _, _, rfl, rfl, ?_⟩
    have n46 : SameN H4 H6 := (th4.n sb5).trans (th5.n sb6)
    have hD7 := s7 _ _ (sb6 _ _ hDt (sb5 _ _ hDt hD))
    have hrows7 := RowsAt.n hrows (n46.trans s7.n)
    have hown7 := (hown.n (th5.n sb6)).n s7.n
    have th7 : ThAt (L2.upd H6 T7 (.tup [V.ref D, vo, V.int (d : Int)])) t c 700 := (th6.same s7).mono (by decide)
    generalize L2.upd H6 T7 (.tup [V.ref D, vo, V.int (d : Int)]) = H7 at hD7 hrows7 hown7 th7 ⊢
    clear s7 n7 n46 sb4 sb5 sb6 th3 th4 th5 th6 hD hrows hown hr6 ed s1 th1
    refine u_seq (u_par3 ⟨_, rfl, vo, p, g, rfl, hown7, hok, hg1, hg, by decide, fun H8 vp p' s8 hpr hlk => ?_⟩)
    refine ⟨_, rfl, fun x dx nx ndx nex => ?_⟩
    have s9 := same_new2 (o := .own x) (u := .ins (He.ga K "Corner") dx []) nx ndx
    have s79 := s8.trans s9
    refine ⟨x, dx, .ref D, true, zs, rs, g, rfl, upd_same, SqK.lst (s79 _ _ hD7), RowsAt.n hrows7 s79.n, hcor.1.1, hg1, hg, hcor.sx, det_ker hg1 hg hcor.1.1 hcor.1.len hcor.2.1, fun W hW => hcor.pos hg1 hg hW, fun H10 W sb10 hca hW => ⟨rfl, ?_⟩⟩
    have s8A := same_made nx ndx sb10
    have s7A := s8.trans s8A
    refine ⟨_, rfl, (by show 1 ≤ sizeLine; decide), fun T11 n11 => ?_⟩
    have s11 := Same.of_new (o := .tup [V.int 1]) n11
    have hT11 : (L2.upd H10 T11 (.tup [V.int 1])) T11 = some (.tup [V.int 1]) := upd_same
    generalize L2.upd H10 T11 (.tup [V.int 1]) = H11 at s11 hT11
    refine ⟨_, rfl, T11, _, _, rfl, rfl, hT11, by simp, by omega, by omega, by decide, fun p12 H12 s12 hp12 => ?_⟩
    rw [Int.toNat_natCast, rep_flat] at hp12
    have sA12 := s11.trans s12
    have s712 := s7A.trans sA12
    refine ⟨.ref D, .ref p12, zs, rs, g, rfl, SqK.lst (s712 _ _ hD7), Paired.mapP (RowsAt.n hrows7 s712.n) fun _ _ q => q.b, ⟨false, _, SqK.tup hp12, paired_rep (Num.int H12 1) g⟩, hcor.1, hg1, hg, hcor.2.1, fun pw H13 s13 hwt => ⟨_, _, _, rfl, ?_⟩⟩
    have hWe := hcor.ws hg1 hg hW
    rw [← hWe] at hwt
    have sA13 := sA12.trans s13
    have s713 := s7A.trans sA13
    have L : LawSt K H13 g t c 700 (.ref D) vo vp (.ref x) (.ref pw) rs W p p' := ⟨th7.same s713, ⟨D, zs, rfl, hDt, s713 _ _ hD7, RowsAt.n hrows7 s713.n⟩, hown7.n s713.n, (hpr.n s8A.n).n sA13.n, hca.n sA13.n, hwt⟩
    obtain ⟨C, N, hws⟩ := hcor.wok hg1 hg hW
    clear s713 sA13 s712 sA12 hp12 s12 s13 hT11 s11 n11 s7A s8A sb10 s79 s9 nx ndx nex s8 hpr hca hwt hD7 hrows7 hown7 th7
    have hWl : W.length = g := hW.1
    have hrs := hcor.1
    have rlen : ∀ i, i < g → (rs.getD i []).length = g := fun i hi => by
      rw [List.getD_eq_getElem?_getD, List.getElem?_eq_getElem (by rw [hrs.1]; exact hi)]
      exact hrs.len _ (List.getElem_mem _)
    dsimp only
    refine u_seq (u_par ⟨_, rfl, _, rfl, (by show 0 ≤ sizeLine; decide), fun e0 ne0 => ?_⟩)
    have s14 := Same.of_new (o := .tup []) ne0
    have he0 : (L2.upd H13 e0 (.tup [])) e0 = some (.tup []) := upd_same
    generalize L2.upd H13 e0 (.tup []) = H14 at s14 he0
    refine ⟨_, rfl, (by show 1 ≤ sizeLine; decide), fun l15 n15 => ?_⟩
    have s15 := s14.trans (Same.of_new (o := .lst [V.ref pw]) n15)
    have he1 := (Same.of_new (o := .lst [V.ref pw]) n15) _ _ he0
    have h15 : (L2.upd H14 l15 (.lst [V.ref pw])) l15 = some (.lst [V.ref pw]) := upd_same
    generalize L2.upd H14 l15 (.lst [V.ref pw]) = H15 at s15 he1 h15
    refine ⟨_, rfl, l15, _, _, rfl, rfl, h15, by omega, by omega, Nat.le_trans (by simp; omega : _ ≤ 3) (by decide), fun q16 n16 => ?_⟩
    rw [Int.toNat_natCast]
    have s16 := s15.trans (Same.of_new (o := .lst (List.replicate d [V.ref pw]).flatten) n16)
    have he2 := (Same.of_new (o := .lst (List.replicate d [V.ref pw]).flatten) n16) _ _ he1
    refine (L.same s16).over (E := E0) (wd := []) (k := d) hok hg1 hg hrs hws (SqK.tup he2) (fun i hi => by simp at hi) upd_same (by simpa using hd3) fun vprice H17 s17 hprice => ?_
    have hpr0 : Num H17 vprice (rest 3 p rs W d []) := hprice
    have s1317 := s16.trans s17
    refine ⟨(by show 0 ≤ sizeLine; decide), fun Wd0 nW => ⟨_, _, rfl, ?_⟩⟩
    have s18 := s1317.trans (Same.of_new (o := .lst []) nW)
    have hW0 : (L2.upd H17 Wd0 (.lst [])) Wd0 = some (.lst []) := upd_same
    have hpr1 := hpr0.mono (Same.of_new (o := .lst []) nW).n
    have L18 := L.same s18
    have nWt : Wd0 ≠ t := ((L.same s1317).th.ne nW).1
    generalize L2.upd H17 Wd0 (.lst []) = H18 at s18 hW0 hpr1 L18 ⊢
    clear L hpr0 hprice s1317 he2 s16 he1 s15 s14 he0 s17 h15 ne0 n15 n16 nW
    have rb : ∀ wd : List Nat, (∀ i ∈ wd, i < g) → wd.length ≤ d → Bd (RD C 2) (RN C N 2) (rest 3 p rs W d wd) := fun wd h1 h2 => (rest_bd3 hok hg hrs hws h1 hd3 h2).1
    obtain ⟨_, rd0, rdl, rnl⟩ := rest_bd3 hok hg hrs hws (w := []) (fun i hi => by simp at hi) hd3 (Nat.zero_le _)
    have rsz : ∀ wd : List Nat, (∀ i ∈ wd, i < g) → wd.length ≤ d → Sz (rest 3 p rs W d wd) := fun wd h1 h2 => (rb wd h1 h2).sz rd0 (by omega) (by omega)
    dsimp only
    refine u_seq (u_asg ⟨_, rfl, _, rfl, _, rfl, _, rfl, sz2, fun t1 n1 => ⟨_, rfl, _, rfl, _, _, rfl, rfl, ⟨by decide, by decide, by decide⟩, sz2, fun t2 n2 => ⟨(by show 4 ≤ sizeLine; decide), fun l nl => ?_⟩⟩⟩)
    have s1 := Same.of_new (o := .tup [V.int (-1), V.int 1000]) n1
    have h1 : (L2.upd H18 t1 (.tup [V.int (-1), V.int 1000])) t1 = some (.tup [V.int (-1), V.int 1000]) := upd_same
    generalize L2.upd H18 t1 (.tup [V.int (-1), V.int 1000]) = H19 at s1 h1 n2 nl ⊢
    have s2 := Same.of_new (o := .tup [V.int (-1), V.int ((10 : Int) ^ (12 : Int).toNat)]) n2
    have h2 : (L2.upd H19 t2 (.tup [V.int (-1), V.int ((10 : Int) ^ (12 : Int).toNat)])) t2 = some (.tup [V.int (-1), V.int ((10 : Int) ^ (12 : Int).toNat)]) := upd_same
    generalize L2.upd H19 t2 (.tup [V.int (-1), V.int ((10 : Int) ^ (12 : Int).toNat)]) = H20 at s2 h2 nl ⊢
    have s3 := Same.of_new (o := .lst [V.int (-1), V.ref t1, V.int (-30), V.ref t2]) nl
    have h3 : (L2.upd H20 l (.lst [V.int (-1), V.ref t1, V.int (-30), V.ref t2])) l = some (.lst [V.int (-1), V.ref t1, V.int (-30), V.ref t2]) := upd_same
    have th20 := (L18.th.same s1).same s2
    have hlt := (th20.ne nl).1
    generalize L2.upd H20 l (.lst [V.int (-1), V.ref t1, V.int (-30), V.ref t2]) = H21 at s3 h3 ⊢
    have s23 := s2.trans s3
    have s1821 := s1.trans s23
    have nm : Nums H21 [V.int (-1), V.ref t1, V.int (-30), V.ref t2] [((-1 : Int) : Rat), -1 / 1000, ((-30 : Int) : Rat), -1 / 10 ^ 12] :=
      .cons (Num.int _ (-1)) (.cons (Num.pair (by decide +kernel) (by decide +kernel) (by decide +kernel) (s23 _ _ h1)) (.cons (Num.int _ (-30)) (.cons (Num.pair (by decide +kernel) (by decide +kernel) (by decide +kernel) (s3 _ _ h2)) .nil)))
    refine ⟨t, c, 700, .ref l, true, _, rfl, th20.same s3, by decide, SqK.lst h3, fun z => hlt (by injection z), by simp, by simp, fun H22 r22 x22 sb22 th22 hx22 => ?_⟩
    obtain ⟨q22, hq22, hxq22⟩ := paired_get nm hx22
    have hqm := mem_get hq22
    have L22 := (L18.same s1821).sb sb22 th22
    have sn22 := (th20.same s3).n sb22
    have hneg : q22 < 0 := of_decide_eq_true (List.all_eq_true.mp (show ([((-1 : Int) : Rat), -1 / 1000, ((-30 : Int) : Rat), -1 / 10 ^ 12] : List Rat).all (fun q => decide (q < 0)) = true by decide +kernel) q22 hqm)
    have hqb : Bd (10 ^ 12) (30 * 10 ^ 12) q22 := bd_list (qs := [((-1 : Int) : Rat), -1 / 1000, ((-30 : Int) : Rat), -1 / 10 ^ 12]) (by decide +kernel) q22 hqm
    have hqz : Sz q22 := hqb.sz (by decide) (by decide +kernel) (by decide +kernel)
    refine ⟨_, _, _, q22, rfl, (hpr1.mono s1821.n).mono sn22, hxq22.mono sn22, rsz [] (fun i hi => by simp at hi) (Nat.zero_le _), hqz, fun vh H23 s23' hvh => u_gname ?_⟩
    dsimp only
    have hH0 : Hs 0 (rest 3 p rs W d [] + q22) := hs_plus rd0 rdl rnl (rb [] (fun i hi => by simp at hi) (Nat.zero_le _)) hqb
    have hlt0 : rest 3 p rs W d [] + q22 < rest 3 p rs W d [] := by grind
    have L23 := L22.same s23'
    have hW23 := s23' _ _ (sb22 _ _ nWt (s1821 _ _ hW0))
    clear hqz hqb hneg sn22 L22 hqm hxq22 hq22 hx22 th22 sb22 nm s1821 s23 hlt th20 h3 s3 h2 s2 h1 s1 hpr1 hW0 L18 n1 n2 nl
    generalize rest 3 p rs W d [] + q22 = h0 at hvh hH0 hlt0
    refine u_seq ?_
    refine for_rng1 (H1 := H23) (n := d) (gives_var rfl) (by omega) (fun i σ' H' => ∃ b vh h Wd wd y12 y13 y14 y15 y16 y17 y18 y19, σ' = [some (.ref a0), some (.ref t), some (.int (g : Int)), some (.ref D), some vo, some (.int (d : Int)), some vp, some (.ref x), some (.ref pw), some vprice, some (.ref Wd), some vh, y12, y13, y14, y15, y16, y17, y18, y19] ∧ LawSt K H' g t c b (.ref D) vo vp (.ref x) (.ref pw) rs W p p' ∧ b ≤ 710 + 20 * i ∧ H' Wd = some (.lst (wd.map iV)) ∧ Wd ≠ t ∧ wd.length = i ∧ (∀ j ∈ wd, j < g) ∧ Num H' vh h ∧ Hs i h ∧ h < rest 3 p rs W d wd) ?_ ?_ ?_
    · exact ⟨_, vh, h0, Wd0, [], _, _, _, _, _, _, _, _, rfl, L23, by omega, hW23, nWt, rfl, fun j hj => by simp at hj, hvh, hH0, hlt0⟩
    · rintro i σ' H' hi ⟨b, vh, h, Wd, wd, y12, y13, y14, y15, y16, y17, y18, y19, rfl, L, hb, hWd, hWt, hwl, hwg, hvh, hHs, hlt⟩
      subst hwl
      have hwd : wd.length < d := hi
      have hrsz := rsz wd hwg (by omega)
      have hrb := rb wd hwg (by omega)
      -- the rest
      refine u_seq (u_asg ⟨_, rfl, _, rfl, _, rfl, _, rfl, (by show 1 ≤ sizeLine; decide), fun l1 n1 => ?_⟩)
      have s1 := Same.of_new (o := .lst [V.ref pw]) n1
      have h1 : (L2.upd H' l1 (.lst [V.ref pw])) l1 = some (.lst [V.ref pw]) := upd_same
      have hWd1 := s1 _ _ hWd
      generalize L2.upd H' l1 (.lst [V.ref pw]) = H1 at s1 h1 hWd1
      have en : ((d : Int) - (wd.length : Int)).toNat = d - wd.length := by omega
      refine ⟨_, rfl, _, rfl, _, _, rfl, rfl, l1, _, _, rfl, rfl, h1, by omega, by omega, Nat.le_trans (by rw [en]; simp; omega : _ ≤ 3) (by decide), fun q2 n2 => ?_⟩
      rw [en]
      have s2 := s1.trans (Same.of_new (o := .lst (List.replicate (d - wd.length) [V.ref pw]).flatten) n2)
      have hWd2 := (Same.of_new (o := .lst (List.replicate (d - wd.length) [V.ref pw]).flatten) n2) _ _ hWd1
      refine (L.same s2).over (E := E0) (wd := wd) (k := d - wd.length) hok hg1 hg hrs hws (SqK.lst hWd2) hwg upd_same (by omega) fun vrest H3 s3 hvr => u_gname ?_
      have hvr' : Num H3 vrest (rest 3 p rs W d wd) := hvr
      have s13 := s2.trans s3
      have L3 := L.same s13
      have hWd3 := s13 _ _ hWd
      have hvh3 := hvh.mono s13.n
      dsimp only
      clear L hWd hvh hvr s13 s3 hWd2 s2 n2 hWd1 h1 s1 n1
      -- enough
      refine u_seq (u_asg ⟨_, rfl, _, rfl, _, rfl, _, rfl, _, _, rfl, rfl, ⟨by decide, by decide, by decide⟩, sz2, fun t4 n4 => ⟨(by show 4 ≤ sizeLine; decide), fun l5 n5 => ?_⟩⟩)
      have s4 := Same.of_new (o := .tup [V.int 1, V.int ((10 : Int) ^ (9 : Int).toNat)]) n4
      have h4 : (L2.upd H3 t4 (.tup [V.int 1, V.int ((10 : Int) ^ (9 : Int).toNat)])) t4 = some (.tup [V.int 1, V.int ((10 : Int) ^ (9 : Int).toNat)]) := upd_same
      generalize L2.upd H3 t4 (.tup [V.int 1, V.int ((10 : Int) ^ (9 : Int).toNat)]) = H4 at s4 h4 n5 ⊢
      have s5 := Same.of_new (o := .lst [V.int 0, V.int 0, V.int 1, V.ref t4]) n5
      have h5 : (L2.upd H4 l5 (.lst [V.int 0, V.int 0, V.int 1, V.ref t4])) l5 = some (.lst [V.int 0, V.int 0, V.int 1, V.ref t4]) := upd_same
      have L4 := L3.same s4
      have hlt5 := (L4.th.ne n5).1
      generalize L2.upd H4 l5 (.lst [V.int 0, V.int 0, V.int 1, V.ref t4]) = H5 at s5 h5 ⊢
      have s45 := s4.trans s5
      have L5 := L3.same s45
      have nm : Nums H5 [V.int 0, V.int 0, V.int 1, V.ref t4] [0, 0, 1, 1 / 10 ^ 9] :=
        .cons (Num.int _ 0) (.cons (Num.int _ 0) (.cons (Num.int _ 1) (.cons (Num.pair (by decide +kernel) (by decide +kernel) (by decide +kernel) (s5 _ _ h4)) .nil)))
      refine ⟨t, c, b, .ref l5, true, _, rfl, L5.th, by omega, SqK.lst h5, fun z => hlt5 (by injection z), by simp, by simp, fun H6 r6 x6 sb6 th6 hx6 => ?_⟩
      obtain ⟨q6, hq6, hxq6⟩ := paired_get nm hx6
      have hqm := mem_get hq6
      have L6 := L5.sb sb6 th6
      have sn6 := L5.th.n sb6
      have hq0 : 0 ≤ q6 := nn_list (qs := [0, 0, 1, 1 / 10 ^ 9]) (by decide +kernel) q6 hqm
      have hqb : Bd (10 ^ 12) (30 * 10 ^ 12) q6 := bd_list (qs := [0, 0, 1, 1 / 10 ^ 9]) (by decide +kernel) q6 hqm
      have hqz : Sz q6 := hqb.sz (by decide) (by decide +kernel) (by decide +kernel)
      refine ⟨_, _, _, q6, rfl, (hvr'.mono s45.n).mono sn6, hxq6.mono sn6, hrsz, hqz, fun v7 H7 s7 hv7 => ?_⟩
      have L7 := L6.same s7
      have hWd7 := s7 _ _ (sb6 _ _ hWt (s45 _ _ hWd3))
      have hvh7 := ((hvh3.mono s45.n).mono sn6).mono s7.n
      have hHe := hs_plus rd0 rdl rnl hrb hqb
      have hge : ¬ rest 3 p rs W d wd + q6 < rest 3 p rs W d wd := by grind
      generalize rest 3 p rs W d wd + q6 = he at hv7 hHe hge
      clear L3 hWd3 hvh3 hvr' L6 L5 L4 sn6 hqm hq6 hxq6 nm sb6 th6 hx6 s45 s5 h5 s4 h4 n4 n5 hlt5 hqb hqz hq0
      refine ⟨t, c, b + 1, g, 0, v7, he, rfl, L7.th, by omega, hg1, hg, hv7, hHe, by decide, fun H8 En zsE amE sb8 th8 hE hEt hnE hamE hsumE => u_gname ?_⟩
      dsimp only
      have L8 := L7.sb sb8 th8
      have hWd8 := sb8 _ _ hWt hWd7
      have hvh8 := hvh7.mono (L7.th.n sb8)
      clear L7 hWd7 hvh7 hv7 s7
      -- enough is refused
      refine u_seq ?_
      refine ⟨_, rfl, _, rfl, _, rfl, _, rfl, _, rfl, ?_⟩
      refine ⟨vp, .ref x, .ref Wd, .ref En, true, true, d, g, 3, p', rs, W, wd, zsE, amE, C, N, rfl, L8.pr, hlk.1, by decide, hg1, hg, L8.cor, hrs, hws, SqK.lst hWd8, hwg, hwd, hd3, SqK.lst hE, hnE, hamE.ok (by decide), by rw [rest_like hlk hrs hwg hd3 (by omega) hWl, hsumE]; exact hge, fun H9 s9 => ?_⟩
      refine ⟨_, rfl, iteF (u_next ?_)⟩
      have L9 := L8.same s9
      have hWd9 := s9 _ _ hWd8
      have hvh9 := hvh8.mono s9.n
      clear L8 hWd8 hvh8 hE hEt hnE hamE hsumE hge hHe sb8 th8 s9
      dsimp only
      -- the amounts
      refine u_seq (u_asg ⟨_, rfl, _, rfl, _, rfl, t, c, b + 1 + 3, g, wd.length, vh, h, rfl, L9.th, by omega, hg1, hg, hvh9, hHs, by omega, fun H10 A zsA am sb10 th10 hA hAt hnA hamA hsumA => u_gname ?_⟩)
      have L10 := L9.sb sb10 th10
      have hWd10 := sb10 _ _ hWt hWd9
      clear L9 hWd9 hvh9 sb10 th10
      dsimp only
      have hamO := hamA.ok (by omega)
      have hpos := hcor.pos hg1 hg hW
      obtain ⟨i0, hi0, hs1, hs2, lrest, hfl⟩ := first_of (some_short hW rlen hamA.1 hpos hwd (by rw [hsumA]; exact hlt))
      -- who is short
      refine u_seq (u_asg ⟨(by show 0 ≤ sizeLine; decide), fun S nS => u_gname ?_⟩)
      dsimp only
      have s11 := Same.of_new (o := .lst []) nS
      have hS : (L2.upd H10 S (.lst [])) S = some (.lst []) := upd_same
      have hSt := (L10.th.ne nS).1
      have hSc := (L10.th.ne nS).2
      have hSW : Wd ≠ S := fun e => by rw [e, nS] at hWd10; cases hWd10
      have hSA : A ≠ S := fun e => by rw [e, nS] at hA; cases hA
      have hSD : D ≠ S := fun e => by
        obtain ⟨D', zs', eD, _, hD', _⟩ := L10.rows
        cases eD
        rw [e, nS] at hD'; cases hD'
      have L11 := L10.same s11
      have hWd11 := s11 _ _ hWd10
      have hA11 := s11 _ _ hA
      have hnA11 := hnA.mono s11.n
      generalize L2.upd H10 S (.lst []) = H11 at s11 hS L11 hWd11 hA11 hnA11 ⊢
      clear L10 hWd10 hA hnA nS s11
      obtain ⟨D', zsR, eD, _, hD11, hz11⟩ := id L11.rows
      cases eD
      have hzl := hz11.length
      have hLk : ∀ {H12 : Hp}, SameB S H11 H12 → ∀ xs, H12 S = some (.lst xs) → LawSt K H12 g t c (b + 1 + 3 + 3) (.ref D) vo vp (.ref x) (.ref pw) rs W p p' := fun {H12} sb xs hx => by
        have n12 : SameN H11 H12 := Chg.n ⟨sb, _, hS⟩
        obtain ⟨cells, at_, lf, q1, q2, q3, q4, q5⟩ := L11.th
        exact ⟨⟨cells, at_, lf, q1, sb _ _ (Ne.symm hSt) q2, sb _ _ (Ne.symm hSc) q3, q4, q5⟩, ⟨D, zsR, rfl, hDt, sb _ _ hSD hD11, RowsAt.n hz11 n12⟩, L11.own.n n12, L11.pr.n n12, L11.cor.n n12, L11.wt.n n12⟩
      refine u_seq ?_
      refine for_enum (H1 := H11) (v := .ref D) (b := true) (xs := zsR) (gives_var rfl) (SqK.lst hD11) (fun j σ' H12 => ∃ y17 y18, σ' = [some (.ref a0), some (.ref t), some (.int (g : Int)), some (.ref D), some vo, some (.int (d : Int)), some vp, some (.ref x), some (.ref pw), some vprice, some (.ref Wd), some vh, some (.int (wd.length : Int)), some vrest, some (.ref En), some (.ref A), some (.ref S), y17, y18, y19] ∧ SameB S H11 H12 ∧ H12 S = some (.lst (((List.range j).filter (short 3 p rs W d wd am)).map iV))) ?_ ?_ ?_ ?_
      · exact ⟨_, _, rfl, SameB.of (Same.refl _), hS⟩
      · rintro j σ' H12 _ ⟨_, _, rfl, sb, _⟩
        exact ⟨D, rfl, sb _ _ hSD hD11⟩
      · rintro j z σ' H12 T hz ⟨y17, y18, rfl, sb, hS12⟩ hT
        obtain ⟨r, hrj, zr, szr, hzr⟩ := paired_get hz11 hz
        have hjg : j < g := by
          have := (List.getElem?_eq_some_iff.mp hrj).1
          rw [hrs.1] at this; exact this
        have hrr := hrs.2 r (mem_get hrj)
        have hget : rs.getD j [] = r := by rw [List.getD_eq_getElem?_getD, hrj]; rfl
        have L12 := hLk sb _ hS12
        have n12 : SameN H11 H12 := Chg.n ⟨sb, _, hS⟩
        have s13 := Same.of_new (o := .tup [V.int (j : Int), z]) hT
        have L13 := L12.same s13
        have hS13 := s13 _ _ hS12
        have hA13 := s13 _ _ (sb _ _ hSA hA11)
        have hnA13 := (hnA11.mono n12).mono s13.n
        have szr13 := (SqK.n szr n12).same s13
        have hzr13 := (hzr.mono n12).mono s13.n
        have hWd13 := s13 _ _ (sb _ _ hSW hWd11)
        have sb13 : SameB S H11 (L2.upd H12 T (.tup [V.int (j : Int), z])) := sb.trans (SameB.of s13)
        generalize L2.upd H12 T (.tup [V.int (j : Int), z]) = H13 at L13 hS13 hA13 hnA13 szr13 hzr13 hWd13 sb13 ⊢
        have dot := hamO.dot hg hrr
        have hwj : ∀ m ∈ wd ++ [j], m < g := fun m hm => by
          rcases List.mem_append.mp hm with h | h
          · exact hwg m h
          · rw [List.mem_singleton.mp h]; exact hjg
        have hwjl : (wd ++ [j]).length ≤ d := by rw [List.length_append]; exact hwd
        refine ⟨_, rfl, _, rfl, true, false, .ref A, z, zsA, zr, am, r, rfl, SqK.lst hA13, szr13, hnA13, hzr13, by rw [hnA13.length, hamA.1]; omega, hamO.sz, day_sz hrr, dot.1, fun y14 H14 s14 hy14 => ?_⟩
        refine ⟨_, rfl, _, rfl, _, rfl, _, rfl, (by show 1 ≤ sizeLine; decide), fun l15 n15 => ?_⟩
        have s15 := Same.of_new (o := .lst [iV j]) n15
        have h15 : (L2.upd H14 l15 (.lst [iV j])) l15 = some (.lst [iV j]) := upd_same
        generalize L2.upd H14 l15 (.lst [iV j]) = H15 at s15 h15
        refine ⟨Wd, l15, _, _, rfl, rfl, s15 _ _ (s14 _ _ hWd13), h15, Nat.le_trans (by rw [List.length_map]; simp; omega : _ ≤ 4) (by decide), fun l16 n16 => ?_⟩
        have s16 := s15.trans (Same.of_new (o := .lst (wd.map iV ++ [iV j])) n16)
        have h16 : (L2.upd H15 l16 (.lst (wd.map iV ++ [iV j]))) l16 = some (.lst (wd.map iV ++ [iV j])) := upd_same
        generalize L2.upd H15 l16 (.lst (wd.map iV ++ [iV j])) = H16 at s16 h16
        refine ⟨_, rfl, (by show 1 ≤ sizeLine; decide), fun l17 n17 => ?_⟩
        have s17 := s16.trans (Same.of_new (o := .lst [V.ref pw]) n17)
        have h17 : (L2.upd H16 l17 (.lst [V.ref pw])) l17 = some (.lst [V.ref pw]) := upd_same
        have h167 := (Same.of_new (o := .lst [V.ref pw]) n17) _ _ h16
        generalize L2.upd H16 l17 (.lst [V.ref pw]) = H17 at s17 h17 h167
        have ek : ((d : Int) - (wd.length : Int) - 1).toNat = d - (wd ++ [j]).length := by rw [List.length_append]; simp; omega
        refine ⟨_, rfl, _, rfl, _, _, rfl, rfl, _, _, rfl, rfl, l17, _, _, rfl, rfl, h17, by omega, by omega, Nat.le_trans (by rw [ek]; simp; omega : _ ≤ 3) (by decide), fun q18 n18 => ?_⟩
        rw [ek]
        have s18 := s17.trans (Same.of_new (o := .lst (List.replicate (d - (wd ++ [j]).length) [V.ref pw]).flatten) n18)
        have h168 := (Same.of_new (o := .lst (List.replicate (d - (wd ++ [j]).length) [V.ref pw]).flatten) n18) _ _ h167
        refine ((L13.same s14).same s18).over (E := E0) (wd := wd ++ [j]) (k := d - (wd ++ [j]).length) hok hg1 hg hrs hws (SqK.lst (by rw [List.map_append]; exact h168)) hwj upd_same (by omega) fun v19 H19 s19 hv19 => ?_
        have hv19' : Num H19 v19 (rest 3 p rs W d (wd ++ [j])) := hv19
        refine ⟨y14, v19, rdot am r, _, rfl, (hy14.mono s18.n).mono s19.n, hv19', dot.2, rsz (wd ++ [j]) hwj hwjl, fun H20 s20 => ⟨_, rfl, u_if (fun hb => ?_) (fun hb => ?_)⟩⟩
        · have sAll := ((s14.trans s18).trans s19).trans s20
          have hS20 := sAll _ _ hS13
          have hsj : short 3 p rs W d wd am j = true := by unfold short; rw [hget]; exact hb
          have hfl' : ((List.range j).filter (short 3 p rs W d wd am)).length ≤ 3 := by
            have := List.length_filter_le (short 3 p rs W d wd am) (List.range j)
            rw [List.length_range] at this; omega
          refine ⟨_, rfl, .inl ⟨rfl, _, SqL.of hS20⟩, _, rfl, S, _, _, rfl, rfl, hS20, Nat.lt_of_le_of_lt (by rw [List.length_map]; exact hfl' : _ ≤ 3) (by decide), ?_⟩
          refine ⟨_, _, rfl, (sb13.trans (SameB.of sAll)).trans SameB.upd, ?_⟩
          rw [upd_same, filter_snoc, if_pos hsj, List.map_append]; rfl
        · have sAll := ((s14.trans s18).trans s19).trans s20
          have hsj : ¬ short 3 p rs W d wd am j = true := by unfold short; rw [hget, hb]; decide
          refine u_next ⟨_, _, rfl, sb13.trans (SameB.of sAll), ?_⟩
          rw [filter_snoc, if_neg hsj, List.append_nil]
          exact sAll _ _ hS13
      · rintro σ' H12 ⟨y17, y18, rfl, sb, hS12⟩
        rw [hzl, hrs.1, hfl] at hS12
        have L12 := hLk sb _ hS12
        have n12 : SameN H11 H12 := Chg.n ⟨sb, _, hS⟩
        have hWd12 := sb _ _ hSW hWd11
        have hA12 := sb _ _ hSA hA11
        have hnA12 := hnA11.mono n12
        clear hLk hz11 hD11 hzl L11 hWd11 hA11 hnA11 hS sb n12
        have hltR : rsum am < rest 3 p' rs W d wd := by rw [rest_like hlk hrs hwg hd3 (by omega) hWl, hsumA]; exact hlt
        obtain ⟨hun, hno⟩ := first_uniq (am := am) hlk hrs hwg hd3 hwd hWl hi0 hs1 hs2
        dsimp only
        -- who is told
        refine u_seq (u_asg ⟨_, rfl, _, rfl, _, rfl, _, rfl, _, rfl, _, rfl, Wd, _, rfl, .inl ⟨SqL.of hWd12, fun pt npt => ⟨(by show 2 ≤ sizeLine; decide), fun l1 n1 => ?_⟩⟩⟩)
        have s1 := Same.of_new (o := .tup (wd.map iV)) npt
        have hpt : (L2.upd H12 pt (.tup (wd.map iV))) pt = some (.tup (wd.map iV)) := upd_same
        generalize L2.upd H12 pt (.tup (wd.map iV)) = H13 at s1 hpt n1 ⊢
        have s2 := Same.of_new (o := .lst [V.ref Wd, V.ref pt]) n1
        have hl1 : (L2.upd H13 l1 (.lst [V.ref Wd, V.ref pt])) l1 = some (.lst [V.ref Wd, V.ref pt]) := upd_same
        have hl1t := ((L12.same s1).th.ne n1).1
        generalize L2.upd H13 l1 (.lst [V.ref Wd, V.ref pt]) = H14 at s2 hl1 ⊢
        have s12 := s1.trans s2
        have L14 := L12.same s12
        have hptt : pt ≠ t := (L12.th.ne npt).1
        refine ⟨t, c, b + 1 + 3 + 3, .ref l1, true, _, rfl, L14.th, by omega, SqK.lst hl1, fun z => hl1t (by injection z), by simp, by simp, fun H15 r15 x15 sb15 th15 hx15 => ?_⟩
        have L15 := L14.sb sb15 th15
        have hWd15 := sb15 _ _ hWt (s12 _ _ hWd12)
        obtain ⟨bw, aw, rfl, hawt, hxw⟩ : ∃ bw aw, x15 = .ref aw ∧ aw ≠ t ∧ H15 aw = some (sqO bw (wd.map iV)) := by
          match r15, hx15 with
          | 0, hx => exact ⟨true, Wd, by simpa using hx.symm, hWt, hWd15⟩
          | 1, hx => exact ⟨false, pt, by simpa using hx.symm, hptt, sb15 _ _ hptt (s2 _ _ hpt)⟩
        have hA15 := sb15 _ _ hAt (s12 _ _ hA12)
        have hnA15 := (hnA12.mono s12.n).mono (L14.th.n sb15)
        have hS15 := sb15 _ _ hSt (s12 _ _ hS12)
        clear hx15 sb15 th15 L14 s12 hl1t hl1 s2 hpt s1 n1 npt hptt L12 hWd12 hA12 hnA12 hS12
        refine ⟨_, rfl, _, rfl, _, rfl, A, _, rfl, .inl ⟨SqL.of hA15, fun pt npt => ⟨(by show 2 ≤ sizeLine; decide), fun l1 n1 => ?_⟩⟩⟩
        have s1 := Same.of_new (o := .tup zsA) npt
        have hpt : (L2.upd H15 pt (.tup zsA)) pt = some (.tup zsA) := upd_same
        generalize L2.upd H15 pt (.tup zsA) = H16 at s1 hpt n1 ⊢
        have s2 := Same.of_new (o := .lst [V.ref A, V.ref pt]) n1
        have hl1 : (L2.upd H16 l1 (.lst [V.ref A, V.ref pt])) l1 = some (.lst [V.ref A, V.ref pt]) := upd_same
        have hl1t := ((L15.same s1).th.ne n1).1
        generalize L2.upd H16 l1 (.lst [V.ref A, V.ref pt]) = H17 at s2 hl1 ⊢
        have s12 := s1.trans s2
        have L17 := L15.same s12
        have hptt : pt ≠ t := (L15.th.ne npt).1
        refine ⟨t, c, _, .ref l1, true, _, rfl, L17.th, by omega, SqK.lst hl1, fun z => hl1t (by injection z), by simp, by simp, fun H18 r18 x18 sb18 th18 hx18 => ?_⟩
        have L18 := L17.sb sb18 th18
        have hA18 := sb18 _ _ hAt (s12 _ _ hA15)
        obtain ⟨ba, hxa⟩ : ∃ ba, SqK ba H18 x18 zsA := by
          match r18, hx18 with
          | 0, hx => exact ⟨true, A, by simpa using hx.symm, hA18⟩
          | 1, hx => exact ⟨false, pt, by simpa using hx.symm, sb18 _ _ hptt (s2 _ _ hpt)⟩
        have hWd18 := sb18 _ _ hWt (s12 _ _ hWd15)
        have hnA18 := (hnA15.mono s12.n).mono (L17.th.n sb18)
        have hS18 := sb18 _ _ hSt (s12 _ _ hS15)
        have hxw18 : SqK bw H18 (.ref aw) (wd.map iV) := ⟨aw, rfl, sb18 _ _ hawt (s12 _ _ hxw)⟩
        clear hx18 sb18 th18 L17 s12 hl1t hl1 s2 hpt s1 n1 npt hptt L15 hWd15 hA15 hnA15 hS15 hxw
        refine ⟨vp, .ref x, .ref aw, x18, bw, ba, d, g, 3, p', rs, W, wd, zsA, am, C, N, rfl, L18.pr, hlk.1, by decide, hg1, hg, L18.cor, hrs, hws, hxw18, hwg, hwd, hd3, hxa, hnA18, hamO, fun hn => absurd hltR hn, fun _ i H19 s19 hi hs hj => ?_, fun _ H19 s19 hn => absurd hn hno⟩
        have ei := hun i hi hs hj
        subst ei
        clear hs hj
        refine u_gname ?_
        dsimp only
        have L19 := L18.same s19
        have hA19 := s19 _ _ hA18
        have hWd19 := s19 _ _ hWd18
        have hnA19 := hnA18.mono s19.n
        have hS19 := s19 _ _ hS18
        clear hxa hxw18 L18 hA18 hWd18 hnA18 hS18 s19
        have hlog : ((i : Int)).natAbs.log2 < 1920 := Nat.lt_of_le_of_lt (log2_le_of_le (b := 3) (by simp; omega)) (by decide)
        -- the told one is the first
        refine u_seq ?_
        refine ⟨_, rfl, (by show 0 ≤ sizeLine; decide), fun e ne => ?_⟩
        have s20 := Same.of_new (o := .lst []) ne
        refine eqNil ((SqK.lst hS19).same s20) (SqK.lst upd_same) (Dq.ints (i :: lrest)) (by decide) ?_
        have L20 := L19.same s20
        have hA20 := s20 _ _ hA19
        have hWd20 := s20 _ _ hWd19
        have hnA20 := hnA19.mono s20.n
        have hS20 := s20 _ _ hS19
        generalize L2.upd H19 e (.lst []) = H20 at L20 hA20 hWd20 hnA20 hS20 ⊢
        clear L19 hA19 hWd19 hnA19 hS19 s20 ne
        refine ⟨_, rfl, itf rfl ?_⟩
        refine ⟨_, rfl, (i : Int), rfl, hlog, ?_⟩
        refine ⟨_, rfl, ixOf (i := 0) (SqK.lst hS20) rfl ⟨(i : Int), rfl, hlog, rfl, _, rfl, ?_⟩⟩
        refine itf (by simp) ?_
        refine ⟨_, rfl, _, rfl, _, rfl, _, rfl, _, rfl, rfl, rfl, ?_⟩
        refine ⟨vp, .ref x, .ref Wd, .ref A, true, true, d, g, 3, p', rs, W, wd, zsA, am, C, N, rfl, L20.pr, hlk.1, by decide, hg1, hg, L20.cor, hrs, hws, SqK.lst hWd20, hwg, hwd, hd3, SqK.lst hA20, hnA20, hamO, fun hn => absurd hltR hn, fun _ i2 H21 s21 hi2 hs hj => ?_, fun _ H21 s21 hn => absurd hn hno⟩
        have ei2 := hun i2 hi2 hs hj
        subst ei2
        refine ⟨_, rfl, rfl, _, rfl, itf (by simp) (u_next ?_)⟩
        have L21 := L20.same s21
        have hA21 := s21 _ _ hA20
        have hWd21 := s21 _ _ hWd20
        have hnA21 := hnA20.mono s21.n
        clear L20 hA20 hWd20 hnA20 hS20 s21
        dsimp only
        obtain ⟨D', zsQ, eD, _, hDQ, hzQ⟩ := id L21.rows
        cases eD
        have hgx : zsQ[i2]? = some (zsQ[i2]'(by rw [hzQ.length, hrs.1]; exact hi0)) := by simp
        obtain ⟨r, hri, zr, szr, hzr⟩ := paired_get hzQ hgx
        have hrr := hrs.2 r (mem_get hri)
        have hget : rs.getD i2 [] = r := by rw [List.getD_eq_getElem?_getD, hri]; rfl
        have dot := hamO.dot hg hrr
        refine u_par ⟨_, rfl, _, rfl, _, rfl, ixOf (i := i2) (SqK.lst hDQ) hgx ?_⟩
        refine ⟨true, false, .ref A, _, zsA, zr, am, r, rfl, SqK.lst hA21, szr, hnA21, hzr, by rw [hnA21.length, hamA.1]; omega, hamO.sz, day_sz hrr, dot.1, fun y22 H22 s22 hy22 => ?_⟩
        refine ⟨_, rfl, _, rfl, (by show 1 ≤ sizeLine; decide), fun l23 n23 => ?_⟩
        have s23 := Same.of_new (o := .lst [iV i2]) n23
        have h23 : (L2.upd H22 l23 (.lst [iV i2])) l23 = some (.lst [iV i2]) := upd_same
        generalize L2.upd H22 l23 (.lst [iV i2]) = H23' at s23 h23
        have L23' := (L21.same s22).same s23
        refine ⟨Wd, l23, _, _, rfl, rfl, s23 _ _ (s22 _ _ hWd21), h23, Nat.le_trans (by rw [List.length_map]; simp; omega : _ ≤ 4) (by decide), fun q24 n24 => ⟨_, _, rfl, ?_⟩⟩
        have s24 := Same.of_new (o := .lst (wd.map iV ++ [iV i2])) n24
        refine ⟨_, y22, rdot am r, q24, wd ++ [i2], _, _, _, _, _, _, _, _, rfl, L23'.same s24, by omega, by rw [upd_same, List.map_append]; rfl, (L23'.th.ne n24).1, by simp, fun m hm => ?_, (hy22.mono s23.n).mono s24.n, hamA.dot hg hrr, ?_⟩
        · rcases List.mem_append.mp hm with h | h
          · exact hwg m h
          · rw [List.mem_singleton.mp h]; exact hi0
        · have h5 := of_decide_eq_true hs1
          rw [hget] at h5
          exact h5
    · rintro σ' H' ⟨b, vh, h, Wd, wd, y12, y13, y14, y15, y16, y17, y18, y19, rfl, L, hb, hWd, hWt, hwl, hwg, hvh, hHs, hlt⟩
      rw [rest_end hwl] at hlt
      dsimp only
      have hmk : MkOk g (rowsOf rs wd) := hrs.mk hwg (by omega)
      obtain ⟨D', zs', eD, _, hD', hz'⟩ := L.rows
      cases eD
      have hzl := hz'.length
      refine u_ret ⟨_, rfl, _, rfl, ?_⟩
      refine u_cons ?_
      refine lcg_seq (H1 := H') (v := .ref Wd) (b := true) (xs := wd.map iV) (gives_var rfl) (SqK.lst hWd) (by rw [List.length_map]; omega) (fun E j H4 acc => Same H' H4 ∧ RowsAt H4 acc ((rowsOf rs wd).take j)) (fun E j H4 acc h => (SqK.lst hWd).same h.1) ?_ ?_ ?_ (fun _ => rfl)
      · intro E hE
        exact ⟨Same.of_new hE, by rw [List.take_zero]; exact .nil⟩
      · rintro E j z H4 acc R Z hz hE hl hEa ⟨s4, hacc⟩ hR _
        rw [List.getElem?_map] at hz
        obtain ⟨m, hm, rfl⟩ := Option.map_eq_some_iff.mp hz
        have hmg := hwg m (mem_get hm)
        have hgx : zs'[m]? = some (zs'[m]'(by rw [hzl, hrs.1]; exact hmg)) := by simp
        obtain ⟨r, hrj, hrow⟩ := paired_get hz' hgx
        have sn : SameN H4 (L2.upd H4 E (.lst (acc ++ [zs'[m]'(by rw [hzl, hrs.1]; exact hmg)]))) := SameN.lst hEa
        refine yesG ⟨_, rfl, _, rfl, ixOf (i := m) (SqK.lst (s4 _ _ hD')) hgx (hR _ _ hEa ⟨fun b o h => ?_, ?_⟩)⟩
        · rw [upd_ne (ne_of_none h hE)]; exact s4 _ _ h
        · have ej : (rowsOf rs wd)[j]? = some r := by
            unfold rowsOf
            rw [List.getElem?_map, hm, Option.map_some, List.getD_eq_getElem?_getD, hrj]; rfl
          rw [take_snoc ej]
          exact paired_append (RowsAt.n hacc sn) (.cons ((hrow.n s4.n).n sn) .nil)
      · rintro E H4 acc hE hEa ⟨s4, hacc⟩
        have e7 : (wd.map iV).length = (rowsOf rs wd).length := by simp [rowsOf]
        rw [e7, List.take_length] at hacc
        refine ⟨vo, p, _, true, acc, _, g, rfl, L.own.n s4.n, hok, hg, by decide, SqK.lst hEa, hacc, hmk, fun x5 H5 s5 hx5 => ?_⟩
        refine ⟨_, _, h, _, rfl, (hvh.mono s4.n).mono s5.n, hx5, hHs.sz (by omega), worth_sz hg (by decide) hok hmk, fun H6 s6 => ?_⟩
        rw [decide_eq_true hlt]
        exact k H6
end
end Hp
namespace Hp
set_option Elab.async false
set_option linter.all false
set_option maxRecDepth 100000
set_option maxHeartbeats 0
open PySem PySem.Spec PyProof.Rows L2
theorem pF : PF R.prog := ⟨by kernel_rfl, by kernel_rfl⟩
theorem facts {w : World} {K : PySem.W.Frag} {h : Heap} {mg : Str → Option Value} {f : Addr} (X : K.In h) (G : h.Ns mainGlobals mg) (hfa : mg ("law" : Str) = some (.ref f))
    (c : He.SaysD fa fn K) (m : exB K = true) (u : supL.map (fun d => supW K d.x) = supL.map SupD.val) :
    ∃ fd : FuncData, (∀ (s : Shared) (v : Value), BindsTo s fd ⟨[v], []⟩ [("_law_script", v)]) ∧
      ∀ base : Heap, K.In base → base.Ns mainGlobals mg → FnOk R.prog w K mg base CX0 20 f fd ["_law_script"] (sp_law K) := by
  have T0 : Wd K mg h := ⟨c, m, u, X, G⟩
  obtain ⟨fd, F⟩ := T0.d_law
  have e : f = He.ga K "law" := by
    have e := hfa.symm.trans T0.g_law
    cases e
    rfl
  subst e
  have b := FunD.bindsA (ps := ["_law_script"]) F fun _ _ _ _ _ _ us hl => match us, hl with | [_], _ => rfl
  exact ⟨fd, fun s v => b s [v] rfl, fun base KB NB => ok_law (⟨c, m, u, KB, NB⟩ : Wd K mg base) pF F⟩
end Hp
set_option Elab.async false
set_option linter.all false
set_option maxRecDepth 100000
set_option maxHeartbeats 0
open PySem PySem.W PySem.Calls PyProof.Rows
theorem PySem.Challenge.cw_hindprice_k63_whole_nobody_with_less_is_holds : PySem.Challenge.rw_hindprice_k63_whole_nobody_with_less_is.Holds := by
  w_on; o_law
  refine HandSHeadRun.head_any (r := OpenLaw.row PySem.Challenge.rw_hindprice_k63_whole_nobody_with_less_is) (q := view (OpenLaw.row PySem.Challenge.rw_hindprice_k63_whole_nobody_with_less_is).prog [146]) (H := Hp.hk) (ob := Hp.ob) (M := 40000) (loose := Hp.names) (d := HandSHeadRun.topDef (OpenLaw.row PySem.Challenge.rw_hindprice_k63_whole_nobody_with_less_is).prog 146) (kwd := []) Hp.ob_eq
    (by kernel_rfl) (fun s => by kernel_rfl) Hp.run (by kernel_rfl) (by kernel_rfl) (by kernel_rfl) (by rfl) (by first | assumption | decide +kernel) (by decide +kernel) ⟨rfl, rfl, rfl, rfl, rfl, by decide +kernel⟩ ?hw ?hc
  case hw => w_witness2
  case hc =>
    refine L2.walk_ofE (l := PySem.Challenge.rw_hindprice_k63_whole_nobody_with_less_is) (n := 63) (k := 20) (x := "_law_script") (CX := L2.CX0) rfl (by decide) (by kernel_rfl) ⟨rfl, by decide, by decide⟩ ?F (fun _ _ _ _ z => z)
    intro w mg fa h Y G hmg0
    obtain ⟨K, KX, c, m, u⟩ := Y
    have hmg : mg ("law" : PySem.Str) = some (.ref fa) := by
      have e : (HandSHeadRun.topDef (OpenLaw.row PySem.Challenge.rw_hindprice_k63_whole_nobody_with_less_is).prog 146).name = ("law" : PySem.Str) := by kernel_rfl
      rw [← e]
      exact hmg0
    obtain ⟨fd, hb, hF⟩ := Hp.facts (w := w) KX G hmg c m u
    exact ⟨K, fd, Hp.sp_law K, KX, hb, fun H a ns hl _ hS => ⟨a, ns, rfl, hS, hl, fun _ => rfl⟩, hF⟩
