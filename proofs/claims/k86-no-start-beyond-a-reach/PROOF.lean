import PyProof.Rows.All
import Wide.All
import OpenK.AllK
import Wide.FinOn
import HandS.ForMost
import HandS.Defaults
import HandS.Exc
import HandS.Codes
import HandS.HeadHook2
import HandS.Star
import HandS.Nested
import KE.KSuper
import PySem.Challenge.RW_nodice_k86_whole_no_start_beyond_a_reach
import KE.KStateDown
import Lean
import HandS.Head0
import HandS.Head1
import HandS.Head2
import HandS.Head3
import HandS.HeadEnd
import HandS.HeadHook1
import HandS.IsInst
import HandS.Walk
import HandS.Gcd
import HandS.Zip
import HandS.SetFor
import HandS.SortRule
import HandS.SortInts
import HandS.Sort
import HandS.SortKw
import HandS.DictComp
import KE.SortKeyHeap
import KE.KDictPairs
import HandS.More
import HandS.DictTup
import KE.KDictCopyH
import HandS.ListItems
import HandS.TupLen
import HandS.TryOnly
import HandS.WordsExc
import HandS.Style
import HandS.WideBits
set_option Elab.async false
set_option linter.all false
section
set_option Elab.async false
set_option linter.all false
set_option maxRecDepth 100000
namespace K86
open PySem PySem.Spec PyProof.Rows L2
open C8 (Cal Met Mak pe_c pe_mk pe_mt pe_mt0)
def topS (i : Nat) : Stmt := PySem.Challenge.pw_nodice_k86_whole_no_start_beyond_a_reach.main.body.getD i (.Pass ⟨0, 0, 0, 0⟩)
abbrev s_is_integer : Stmt := topS 11
abbrev n_is_integer : List Str := ["value"]
abbrev p_is_integer : List Str := ["value"]
def d_is_integer : He.DefD := ⟨("is_integer", none), "is_integer", "is_integer", defArgs s_is_integer, defBody s_is_integer, defScope s_is_integer, [], []⟩
abbrev s_is_within : Stmt := topS 12
abbrev n_is_within : List Str := ["value", "least", "most"]
abbrev p_is_within : List Str := ["value", "least", "most"]
def d_is_within : He.DefD := ⟨("is_within", none), "is_within", "is_within", defArgs s_is_within, defBody s_is_within, defScope s_is_within, [], []⟩
abbrev s_are_integers : Stmt := topS 13
abbrev n_are_integers : List Str := ["value", "many", "each"]
abbrev p_are_integers : List Str := ["value", "many"]
def d_are_integers : He.DefD := ⟨("are_integers", none), "are_integers", "are_integers", defArgs s_are_integers, defBody s_are_integers, defScope s_are_integers, [], []⟩
abbrev s_need_number : Stmt := topS 14
abbrev n_need_number : List Str := ["value", "part", "least", "most"]
abbrev p_need_number : List Str := ["value", "part", "least", "most"]
def d_need_number : He.DefD := ⟨("need_number", none), "need_number", "need_number", defArgs s_need_number, defBody s_need_number, defScope s_need_number, [], []⟩
abbrev s_is_heap : Stmt := topS 20
abbrev n_is_heap : List Str := ["value"]
abbrev p_is_heap : List Str := ["value"]
def d_is_heap : He.DefD := ⟨("is_heap", none), "is_heap", "is_heap", defArgs s_is_heap, defBody s_is_heap, defScope s_is_heap, [], []⟩
abbrev s_are_heaps : Stmt := topS 21
abbrev n_are_heaps : List Str := ["value", "spots", "spot", "_", "each"]
abbrev p_are_heaps : List Str := ["value"]
def d_are_heaps : He.DefD := ⟨("are_heaps", none), "are_heaps", "are_heaps", defArgs s_are_heaps, defBody s_are_heaps, defScope s_are_heaps, [], []⟩
abbrev s_kept_heaps : Stmt := topS 22
abbrev n_kept_heaps : List Str := ["value", "spot", "many"]
abbrev p_kept_heaps : List Str := ["value"]
def d_kept_heaps : He.DefD := ⟨("kept_heaps", none), "kept_heaps", "kept_heaps", defArgs s_kept_heaps, defBody s_kept_heaps, defScope s_kept_heaps, [], []⟩
abbrev s_colour_in : Stmt := topS 23
abbrev n_colour_in : List Str := ["spots"]
abbrev p_colour_in : List Str := ["spots"]
def d_colour_in : He.DefD := ⟨("colour_in", none), "colour_in", "colour_in", defArgs s_colour_in, defBody s_colour_in, defScope s_colour_in, [], []⟩
abbrev s_spots_of : Stmt := topS 24
abbrev n_spots_of : List Str := ["heaps", "spot", "_"]
abbrev p_spots_of : List Str := ["heaps"]
def d_spots_of : He.DefD := ⟨("spots_of", none), "spots_of", "spots_of", defArgs s_spots_of, defBody s_spots_of, defScope s_spots_of, [], []⟩
abbrev s_need_heaps : Stmt := topS 25
abbrev n_need_heaps : List Str := ["value", "part"]
abbrev p_need_heaps : List Str := ["value", "part"]
def d_need_heaps : He.DefD := ⟨("need_heaps", none), "need_heaps", "need_heaps", defArgs s_need_heaps, defBody s_need_heaps, defScope s_need_heaps, [], []⟩
abbrev s_need_colour : Stmt := topS 26
abbrev n_need_colour : List Str := ["spots", "spot"]
abbrev p_need_colour : List Str := ["spots"]
def d_need_colour : He.DefD := ⟨("need_colour", none), "need_colour", "need_colour", defArgs s_need_colour, defBody s_need_colour, defScope s_need_colour, [], []⟩
abbrev s_need_lefts : Stmt := topS 27
abbrev n_need_lefts : List Str := ["value", "part", "spot"]
abbrev p_need_lefts : List Str := ["value", "part"]
def d_need_lefts : He.DefD := ⟨("need_lefts", none), "need_lefts", "need_lefts", defArgs s_need_lefts, defBody s_need_lefts, defScope s_need_lefts, [.str "lefts"], []⟩
abbrev s_need_start : Stmt := topS 28
abbrev n_need_start : List Str := ["heaps", "lefts", "found", "hands"]
abbrev p_need_start : List Str := ["heaps", "lefts"]
def d_need_start : He.DefD := ⟨("need_start", none), "need_start", "need_start", defArgs s_need_start, defBody s_need_start, defScope s_need_start, [], []⟩
abbrev s_is_weight : Stmt := topS 40
abbrev n_is_weight : List Str := ["value"]
abbrev p_is_weight : List Str := ["value"]
def d_is_weight : He.DefD := ⟨("is_weight", none), "is_weight", "is_weight", defArgs s_is_weight, defBody s_is_weight, defScope s_is_weight, [], []⟩
abbrev s_is_row : Stmt := topS 41
abbrev n_is_row : List Str := ["value"]
abbrev p_is_row : List Str := ["value"]
def d_is_row : He.DefD := ⟨("is_row", none), "is_row", "is_row", defArgs s_is_row, defBody s_is_row, defScope s_is_row, [], []⟩
abbrev s_are_rows : Stmt := topS 42
abbrev n_are_rows : List Str := ["value", "each", "spot", "tick", "_"]
abbrev p_are_rows : List Str := ["value"]
def d_are_rows : He.DefD := ⟨("are_rows", none), "are_rows", "are_rows", defArgs s_are_rows, defBody s_are_rows, defScope s_are_rows, [], []⟩
abbrev s_place_of : Stmt := topS 43
abbrev n_place_of : List Str := ["row"]
abbrev p_place_of : List Str := ["row"]
def d_place_of : He.DefD := ⟨("place_of", none), "place_of", "place_of", defArgs s_place_of, defBody s_place_of, defScope s_place_of, [], []⟩
abbrev s_colour_at : Stmt := topS 44
abbrev n_colour_at : List Str := ["row"]
abbrev p_colour_at : List Str := ["row"]
def d_colour_at : He.DefD := ⟨("colour_at", none), "colour_at", "colour_at", defArgs s_colour_at, defBody s_colour_at, defScope s_colour_at, [], []⟩
abbrev s_Look_init : Stmt := inClass (topS 45) 0
abbrev n_Look_init : List Str := ["self", "rows", "found", "spot", "tick", "weight", "row"]
abbrev p_Look_init : List Str := ["self", "rows"]
def d_Look_init : He.DefD := ⟨("Look", some "__init__"), "__init__", "Look.__init__", defArgs s_Look_init, defBody s_Look_init, defScope s_Look_init, [], []⟩
abbrev s_need_look : Stmt := topS 48
abbrev n_need_look : List Str := ["value", "part"]
abbrev p_need_look : List Str := ["value", "part"]
def d_need_look : He.DefD := ⟨("need_look", none), "need_look", "need_look", defArgs s_need_look, defBody s_need_look, defScope s_need_look, [.str "look"], []⟩
abbrev s_least_pair : Stmt := topS 51
abbrev n_least_pair : List Str := ["up", "down", "common"]
abbrev p_least_pair : List Str := ["up", "down"]
def d_least_pair : He.DefD := ⟨("least_pair", none), "least_pair", "least_pair", defArgs s_least_pair, defBody s_least_pair, defScope s_least_pair, [], []⟩
abbrev s_both : Stmt := topS 52
abbrev n_both : List Str := ["one", "other"]
abbrev p_both : List Str := ["one", "other"]
def d_both : He.DefD := ⟨("both", none), "both", "both", defArgs s_both, defBody s_both, defScope s_both, [], []⟩
abbrev s_times : Stmt := topS 53
abbrev n_times : List Str := ["one", "other"]
abbrev p_times : List Str := ["one", "other"]
def d_times : He.DefD := ⟨("times", none), "times", "times", defArgs s_times, defBody s_times, defScope s_times, [], []⟩
abbrev s_turned : Stmt := topS 54
abbrev n_turned : List Str := ["one"]
abbrev p_turned : List Str := ["one"]
def d_turned : He.DefD := ⟨("turned", none), "turned", "turned", defArgs s_turned, defBody s_turned, defScope s_turned, [], []⟩
abbrev s_is_less : Stmt := topS 55
abbrev n_is_less : List Str := ["one", "other"]
abbrev p_is_less : List Str := ["one", "other"]
def d_is_less : He.DefD := ⟨("is_less", none), "is_less", "is_less", defArgs s_is_less, defBody s_is_less, defScope s_is_less, [], []⟩
abbrev s_total_of : Stmt := topS 56
abbrev n_total_of : List Str := ["fractions", "total", "each"]
abbrev p_total_of : List Str := ["fractions"]
def d_total_of : He.DefD := ⟨("total_of", none), "total_of", "total_of", defArgs s_total_of, defBody s_total_of, defScope s_total_of, [], []⟩
abbrev s_first_counts : Stmt := topS 58
abbrev n_first_counts : List Str := ["ticks", "found", "at", "before", "later", "far", "nearer"]
abbrev p_first_counts : List Str := ["ticks"]
def d_first_counts : He.DefD := ⟨("first_counts", none), "first_counts", "first_counts", defArgs s_first_counts, defBody s_first_counts, defScope s_first_counts, [], []⟩
abbrev s_row_changes : Stmt := topS 59
abbrev n_row_changes : List Str := ["row", "counts", "last", "place", "end", "weight", "found", "tick", "ahead", "far", "many", "changed"]
abbrev p_row_changes : List Str := ["row", "counts", "last"]
def d_row_changes : He.DefD := ⟨("row_changes", none), "row_changes", "row_changes", defArgs s_row_changes, defBody s_row_changes, defScope s_row_changes, [], []⟩
abbrev s_all_changes : Stmt := topS 60
abbrev n_all_changes : List Str := ["look", "counts", "sums", "row", "spot", "tick", "changed", "own", "found"]
abbrev p_all_changes : List Str := ["look"]
def d_all_changes : He.DefD := ⟨("all_changes", none), "all_changes", "all_changes", defArgs s_all_changes, defBody s_all_changes, defScope s_all_changes, [], []⟩
abbrev s_change_in : Stmt := topS 61
abbrev n_change_in : List Str := ["look", "number"]
abbrev p_change_in : List Str := ["look", "number"]
def d_change_in : He.DefD := ⟨("change_in", none), "change_in", "change_in", defArgs s_change_in, defBody s_change_in, defScope s_change_in, [], []⟩
abbrev s_fixed : Stmt := topS 63
abbrev n_fixed : List Str := ["value", "each"]
abbrev p_fixed : List Str := ["value"]
def d_fixed : He.DefD := ⟨("fixed", none), "fixed", "fixed", defArgs s_fixed, defBody s_fixed, defScope s_fixed, [], []⟩
abbrev s_Paper_init : Stmt := inClass (topS 64) 0
abbrev n_Paper_init : List Str := ["self", "word", "parts"]
abbrev p_Paper_init : List Str := ["self", "word", "parts"]
def d_Paper_init : He.DefD := ⟨("Paper", some "__init__"), "__init__", "Paper.__init__", defArgs s_Paper_init, defBody s_Paper_init, defScope s_Paper_init, [], []⟩
abbrev s_signed : Stmt := topS 66
abbrev n_signed : List Str := ["number", "sign"]
abbrev p_signed : List Str := ["number", "sign"]
def d_signed : He.DefD := ⟨("signed", none), "signed", "signed", defArgs s_signed, defBody s_signed, defScope s_signed, [], []⟩
abbrev s_more_of : Stmt := topS 67
abbrev n_more_of : List Str := ["one", "other"]
abbrev p_more_of : List Str := ["one", "other"]
def d_more_of : He.DefD := ⟨("more_of", none), "more_of", "more_of", defArgs s_more_of, defBody s_more_of, defScope s_more_of, [], []⟩
abbrev s_with_pick : Stmt := topS 68
abbrev n_with_pick : List Str := ["sums", "number", "at"]
abbrev p_with_pick : List Str := ["sums", "number", "at"]
def d_with_pick : He.DefD := ⟨("with_pick", none), "with_pick", "with_pick", defArgs s_with_pick, defBody s_with_pick, defScope s_with_pick, [], []⟩
abbrev s_best_turns : Stmt := topS 69
abbrev n_best_turns : List Str := ["numbers", "up", "down", "at", "number", "total", "picks", "last", "first"]
abbrev p_best_turns : List Str := ["numbers"]
def d_best_turns : He.DefD := ⟨("best_turns", none), "best_turns", "best_turns", defArgs s_best_turns, defBody s_best_turns, defScope s_best_turns, [], []⟩
abbrev s_greatest_from : Stmt := topS 70
abbrev n_greatest_from : List Str := ["numbers", "sign", "odd", "even", "number", "own", "later", "less"]
abbrev p_greatest_from : List Str := ["numbers", "sign"]
def d_greatest_from : He.DefD := ⟨("greatest_from", none), "greatest_from", "greatest_from", defArgs s_greatest_from, defBody s_greatest_from, defScope s_greatest_from, [], []⟩
abbrev s_between : Stmt := topS 71
abbrev n_between : List Str := ["numbers", "sign"]
abbrev p_between : List Str := ["numbers", "sign"]
def d_between : He.DefD := ⟨("between", none), "between", "between", defArgs s_between, defBody s_between, defScope s_between, [], []⟩
abbrev s_spots_changes : Stmt := topS 73
abbrev n_spots_changes : List Str := ["look", "found", "spot", "own", "ticks", "tick"]
abbrev p_spots_changes : List Str := ["look"]
def d_spots_changes : He.DefD := ⟨("spots_changes", none), "spots_changes", "spots_changes", defArgs s_spots_changes, defBody s_spots_changes, defScope s_spots_changes, [], []⟩
abbrev s_reach_in : Stmt := topS 74
abbrev n_reach_in : List Str := ["look", "_", "numbers"]
abbrev p_reach_in : List Str := ["look"]
def d_reach_in : He.DefD := ⟨("reach_in", none), "reach_in", "reach_in", defArgs s_reach_in, defBody s_reach_in, defScope s_reach_in, [], []⟩
abbrev s_reach_of : Stmt := topS 75
abbrev n_reach_of : List Str := ["look"]
abbrev p_reach_of : List Str := ["look"]
def d_reach_of : He.DefD := ⟨("reach_of", none), "reach_of", "reach_of", defArgs s_reach_of, defBody s_reach_of, defScope s_reach_of, [], []⟩
abbrev s_reach_by : Stmt := topS 76
abbrev n_reach_by : List Str := ["look", "lefts", "hands", "told", "spot", "numbers", "least", "_", "greatest"]
abbrev p_reach_by : List Str := ["look", "lefts"]
def d_reach_by : He.DefD := ⟨("reach_by", none), "reach_by", "reach_by", defArgs s_reach_by, defBody s_reach_by, defScope s_reach_by, [], []⟩
abbrev s_Line_init : Stmt := inClass (topS 79) 0
abbrev n_Line_init : List Str := ["self", "heaps", "lefts", "found", "hands"]
abbrev p_Line_init : List Str := ["self", "heaps", "lefts"]
def d_Line_init : He.DefD := ⟨("Line", some "__init__"), "__init__", "Line.__init__", defArgs s_Line_init, defBody s_Line_init, defScope s_Line_init, [], []⟩
abbrev s_Line_heap_at : Stmt := inClass (topS 79) 4
abbrev n_Line_heap_at : List Str := ["self", "spot"]
abbrev p_Line_heap_at : List Str := ["self", "spot"]
def d_Line_heap_at : He.DefD := ⟨("Line", some "heap_at"), "heap_at", "Line.heap_at", defArgs s_Line_heap_at, defBody s_Line_heap_at, defScope s_Line_heap_at, [], []⟩
abbrev s_Line_advance : Stmt := inClass (topS 79) 5
abbrev n_Line_advance : List Str := ["self", "later", "lefts", "spot", "left", "right", "beside", "many", "is_left"]
abbrev p_Line_advance : List Str := ["self"]
def d_Line_advance : He.DefD := ⟨("Line", some "advance"), "advance", "Line.advance", defArgs s_Line_advance, defBody s_Line_advance, defScope s_Line_advance, [], []⟩
abbrev s_Line_forward : Stmt := inClass (topS 79) 6
abbrev n_Line_forward : List Str := ["self", "many", "_"]
abbrev p_Line_forward : List Str := ["self", "many"]
def d_Line_forward : He.DefD := ⟨("Line", some "forward"), "forward", "Line.forward", defArgs s_Line_forward, defBody s_Line_forward, defScope s_Line_forward, [], []⟩
abbrev s_line_at : Stmt := topS 81
abbrev n_line_at : List Str := ["tick", "heaps", "lefts", "found"]
abbrev p_line_at : List Str := ["tick", "heaps", "lefts"]
def d_line_at : He.DefD := ⟨("line_at", none), "line_at", "line_at", defArgs s_line_at, defBody s_line_at, defScope s_line_at, [], []⟩
abbrev s_sent_on : Stmt := topS 83
abbrev n_sent_on : List Str := ["heaps", "lefts", "shown", "found", "spot", "many", "more"]
abbrev p_sent_on : List Str := ["heaps", "lefts"]
def d_sent_on : He.DefD := ⟨("sent_on", none), "sent_on", "sent_on", defArgs s_sent_on, defBody s_sent_on, defScope s_sent_on, [], []⟩
abbrev s_Worst_init : Stmt := inClass (topS 86) 0
abbrev n_Worst_init : List Str := ["self", "heaps", "lefts"]
abbrev p_Worst_init : List Str := ["self", "heaps", "lefts"]
def d_Worst_init : He.DefD := ⟨("Worst", some "__init__"), "__init__", "Worst.__init__", defArgs s_Worst_init, defBody s_Worst_init, defScope s_Worst_init, [], []⟩
abbrev s_picks_from : Stmt := topS 87
abbrev n_picks_from : List Str := ["numbers", "sign", "even", "odd", "at", "number", "own", "later", "less"]
abbrev p_picks_from : List Str := ["numbers", "sign"]
def d_picks_from : He.DefD := ⟨("picks_from", none), "picks_from", "picks_from", defArgs s_picks_from, defBody s_picks_from, defScope s_picks_from, [], []⟩
abbrev s_added_wish : Stmt := topS 88
abbrev n_added_wish : List Str := ["wish", "look", "spot", "picks", "at"]
abbrev p_added_wish : List Str := ["wish", "look", "spot", "picks"]
def d_added_wish : He.DefD := ⟨("added_wish", none), "added_wish", "added_wish", defArgs s_added_wish, defBody s_added_wish, defScope s_added_wish, [], []⟩
abbrev s_free_wish : Stmt := topS 89
abbrev n_free_wish : List Str := ["look", "wish", "lefts", "spot", "numbers", "_", "picks", "sign"]
abbrev p_free_wish : List Str := ["look"]
def d_free_wish : He.DefD := ⟨("free_wish", none), "free_wish", "free_wish", defArgs s_free_wish, defBody s_free_wish, defScope s_free_wish, [], []⟩
abbrev s_wish_by : Stmt := topS 90
abbrev n_wish_by : List Str := ["look", "lefts", "wish", "spot", "numbers"]
abbrev p_wish_by : List Str := ["look", "lefts"]
def d_wish_by : He.DefD := ⟨("wish_by", none), "wish_by", "wish_by", defArgs s_wish_by, defBody s_wish_by, defScope s_wish_by, [], []⟩
abbrev s_ends_of : Stmt := topS 91
abbrev n_ends_of : List Str := ["look", "spots", "spot", "_"]
abbrev p_ends_of : List Str := ["look"]
def d_ends_of : He.DefD := ⟨("ends_of", none), "ends_of", "ends_of", defArgs s_ends_of, defBody s_ends_of, defScope s_ends_of, [], []⟩
abbrev s_later_row : Stmt := topS 92
abbrev n_later_row : List Str := ["row", "one", "other"]
abbrev p_later_row : List Str := ["row"]
def d_later_row : He.DefD := ⟨("later_row", none), "later_row", "later_row", defArgs s_later_row, defBody s_later_row, defScope s_later_row, [], []⟩
abbrev s_heaps_for : Stmt := topS 93
abbrev n_heaps_for : List Str := ["look", "lefts", "wish", "low", "high", "found", "line", "shares", "tick", "here", "ahead", "spot", "at", "many"]
abbrev p_heaps_for : List Str := ["look", "lefts", "wish"]
def d_heaps_for : He.DefD := ⟨("heaps_for", none), "heaps_for", "heaps_for", defArgs s_heaps_for, defBody s_heaps_for, defScope s_heaps_for, [], []⟩
abbrev s_need_near : Stmt := topS 94
abbrev n_need_near : List Str := ["look", "low", "high"]
abbrev p_need_near : List Str := ["look"]
def d_need_near : He.DefD := ⟨("need_near", none), "need_near", "need_near", defArgs s_need_near, defBody s_need_near, defScope s_need_near, [], []⟩
abbrev s_worst_start : Stmt := topS 95
abbrev n_worst_start : List Str := ["look", "wish", "lefts"]
abbrev p_worst_start : List Str := ["look"]
def d_worst_start : He.DefD := ⟨("worst_start", none), "worst_start", "worst_start", defArgs s_worst_start, defBody s_worst_start, defScope s_worst_start, [], []⟩
abbrev s_worst_by : Stmt := topS 96
abbrev n_worst_by : List Str := ["look", "lefts", "hands"]
abbrev p_worst_by : List Str := ["look", "lefts"]
def d_worst_by : He.DefD := ⟨("worst_by", none), "worst_by", "worst_by", defArgs s_worst_by, defBody s_worst_by, defScope s_worst_by, [], []⟩
abbrev s_choices : Stmt := topS 98
abbrev n_choices : List Str := ["many", "some", "found", "at"]
abbrev p_choices : List Str := ["many", "some"]
def d_choices : He.DefD := ⟨("choices", none), "choices", "choices", defArgs s_choices, defBody s_choices, defScope s_choices, [], []⟩
abbrev s_rows_to : Stmt := topS 99
abbrev n_rows_to : List Str := ["far", "ticks"]
abbrev p_rows_to : List Str := ["far", "ticks"]
def d_rows_to : He.DefD := ⟨("rows_to", none), "rows_to", "rows_to", defArgs s_rows_to, defBody s_rows_to, defScope s_rows_to, [], []⟩
abbrev s_mean_in : Stmt := topS 100
abbrev n_mean_in : List Str := ["heaps", "spot", "ticks", "total", "begin", "many"]
abbrev p_mean_in : List Str := ["heaps", "spot", "ticks"]
def d_mean_in : He.DefD := ⟨("mean_in", none), "mean_in", "mean_in", defArgs s_mean_in, defBody s_mean_in, defScope s_mean_in, [], []⟩
abbrev s_worth_in : Stmt := topS 102
abbrev n_worth_in : List Str := ["look", "heaps", "lefts", "line", "total", "spot", "tick", "weight"]
abbrev p_worth_in : List Str := ["look", "heaps", "lefts"]
def d_worth_in : He.DefD := ⟨("worth_in", none), "worth_in", "worth_in", defArgs s_worth_in, defBody s_worth_in, defScope s_worth_in, [], []⟩
abbrev s_mean_of_look : Stmt := topS 103
abbrev n_mean_of_look : List Str := ["look", "heaps", "spot", "tick", "weight"]
abbrev p_mean_of_look : List Str := ["look", "heaps"]
def d_mean_of_look : He.DefD := ⟨("mean_of_look", none), "mean_of_look", "mean_of_look", defArgs s_mean_of_look, defBody s_mean_of_look, defScope s_mean_of_look, [], []⟩
abbrev s_need_fit : Stmt := topS 104
abbrev n_need_fit : List Str := ["look", "heaps", "spot"]
abbrev p_need_fit : List Str := ["look", "heaps"]
def d_need_fit : He.DefD := ⟨("need_fit", none), "need_fit", "need_fit", defArgs s_need_fit, defBody s_need_fit, defScope s_need_fit, [], []⟩
abbrev s_look_gap : Stmt := topS 105
abbrev n_look_gap : List Str := ["look", "heaps", "lefts", "found", "hands"]
abbrev p_look_gap : List Str := ["look", "heaps", "lefts"]
def d_look_gap : He.DefD := ⟨("look_gap", none), "look_gap", "look_gap", defArgs s_look_gap, defBody s_look_gap, defScope s_look_gap, [], []⟩
abbrev s_is_start : Stmt := topS 107
abbrev n_is_start : List Str := ["look", "heaps", "lefts", "spot"]
abbrev p_is_start : List Str := ["look", "heaps", "lefts"]
def d_is_start : He.DefD := ⟨("is_start", none), "is_start", "is_start", defArgs s_is_start, defBody s_is_start, defScope s_is_start, [], []⟩
abbrev s_shows_worst : Stmt := topS 108
abbrev n_shows_worst : List Str := ["look", "value", "heaps", "lefts", "gap"]
abbrev p_shows_worst : List Str := ["look", "value"]
def d_shows_worst : He.DefD := ⟨("shows_worst", none), "shows_worst", "shows_worst", defArgs s_shows_worst, defBody s_shows_worst, defScope s_shows_worst, [], []⟩
abbrev s_L_horizon : Stmt := topS 110
abbrev n_L_horizon : List Str := ["_law_script", "_law_cell"]
abbrev p_L_horizon : List Str := ["_law_script"]
def d_L_horizon : He.DefD := ⟨("_law_horizon", none), "_law_horizon", "_law_horizon", defArgs s_L_horizon, defBody s_L_horizon, defScope s_L_horizon, [], []⟩
abbrev s_L_mile : Stmt := topS 111
abbrev n_L_mile : List Str := ["_law_horizon_here", "_law_many", "_law_rest", "_law_at", "_law_cell", "_law_mixed"]
abbrev p_L_mile : List Str := ["_law_horizon_here", "_law_many"]
def d_L_mile : He.DefD := ⟨("_law_mile", none), "_law_mile", "_law_mile", defArgs s_L_mile, defBody s_L_mile, defScope s_L_mile, [], []⟩
abbrev s_L_one : Stmt := topS 112
abbrev n_L_one : List Str := ["_law_horizon_here", "_law_some"]
abbrev p_L_one : List Str := ["_law_horizon_here", "_law_some"]
def d_L_one : He.DefD := ⟨("_law_one", none), "_law_one", "_law_one", defArgs s_L_one, defBody s_L_one, defScope s_L_one, [], []⟩
abbrev s_L_rows : Stmt := topS 113
abbrev n_L_rows : List Str := ["_law_horizon_here", "_law_most", "_law_last", "_law_colour", "_law_found", "_law_turn", "_law_tick", "_law_spot"]
abbrev p_L_rows : List Str := ["_law_horizon_here", "_law_most", "_law_last"]
def d_L_rows : He.DefD := ⟨("_law_rows", none), "_law_rows", "_law_rows", defArgs s_L_rows, defBody s_L_rows, defScope s_L_rows, [], []⟩
abbrev s_L_paths : Stmt := topS 114
abbrev n_L_paths : List Str := ["_law_steps", "_law_found", "_law_step", "_law_row", "_law_at"]
abbrev p_L_paths : List Str := ["_law_steps"]
def d_L_paths : He.DefD := ⟨("_law_paths", none), "_law_paths", "_law_paths", defArgs s_L_paths, defBody s_L_paths, defScope s_L_paths, [], []⟩
abbrev s_L_share : Stmt := topS 115
abbrev n_L_share : List Str := ["_law_paths_here", "_law_steps", "_law_far"]
abbrev p_L_share : List Str := ["_law_paths_here", "_law_steps", "_law_far"]
def d_L_share : He.DefD := ⟨("_law_share", none), "_law_share", "_law_share", defArgs s_L_share, defBody s_L_share, defScope s_L_share, [], []⟩
abbrev s_L_changes : Stmt := topS 116
abbrev n_L_changes : List Str := ["_law_rows_here", "_law_last", "_law_paths_here", "_law_spots", "_law_found", "_law_spot", "_law_tick", "_law_weight", "_law_own", "_law_changed", "_law_place", "_law_end", "_law_steps", "_law_more", "_law_row"]
abbrev p_L_changes : List Str := ["_law_rows_here", "_law_last"]
def d_L_changes : He.DefD := ⟨("_law_changes", none), "_law_changes", "_law_changes", defArgs s_L_changes, defBody s_L_changes, defScope s_L_changes, [], []⟩
abbrev s_L_greatest : Stmt := topS 117
abbrev n_L_greatest : List Str := ["_law_numbers", "_law_sums", "_law_number", "_law_more", "_law_total", "_law_sign", "_law_each"]
abbrev p_L_greatest : List Str := ["_law_numbers"]
def d_L_greatest : He.DefD := ⟨("_law_greatest", none), "_law_greatest", "_law_greatest", defArgs s_L_greatest, defBody s_L_greatest, defScope s_L_greatest, [], []⟩
abbrev s_L_sent : Stmt := topS 118
abbrev n_L_sent : List Str := ["_law_heaps", "_law_lefts", "_law_later", "_law_hands", "_law_spot", "_law_many", "_law_is_left", "_law_left"]
abbrev p_L_sent : List Str := ["_law_heaps", "_law_lefts"]
def d_L_sent : He.DefD := ⟨("_law_sent", none), "_law_sent", "_law_sent", defArgs s_L_sent, defBody s_L_sent, defScope s_L_sent, [], []⟩
abbrev s_L_gap : Stmt := topS 119
abbrev n_L_gap : List Str := ["_law_rows_here", "_law_heaps", "_law_lefts", "_law_last", "_law_here", "_law_hands", "_law_paths_here", "_law_total", "_law_tick", "_law_place", "_law_end", "_law_weight", "_law_mean", "_law_row", "_law_spot", "_law_many"]
abbrev p_L_gap : List Str := ["_law_rows_here", "_law_heaps", "_law_lefts", "_law_last"]
def d_L_gap : He.DefD := ⟨("_law_gap", none), "_law_gap", "_law_gap", defArgs s_L_gap, defBody s_L_gap, defScope s_L_gap, [], []⟩
abbrev s_L_is_within : Stmt := topS 120
abbrev n_L_is_within : List Str := ["_law_least", "_law_gap_here", "_law_greatest_here", "_law_last"]
abbrev p_L_is_within : List Str := ["_law_least", "_law_gap_here", "_law_greatest_here", "_law_last"]
def d_L_is_within : He.DefD := ⟨("_law_is_within", none), "_law_is_within", "_law_is_within", defArgs s_L_is_within, defBody s_L_is_within, defScope s_L_is_within, [], []⟩
abbrev s_L_start : Stmt := topS 121
abbrev n_L_start : List Str := ["_law_horizon_here", "_law_colour", "_law_spots", "_law_spot", "_law_heaps", "_law_turn"]
abbrev p_L_start : List Str := ["_law_horizon_here", "_law_colour"]
def d_L_start : He.DefD := ⟨("_law_start", none), "_law_start", "_law_start", defArgs s_L_start, defBody s_L_start, defScope s_L_start, [], []⟩
abbrev s_L_added : Stmt := topS 122
abbrev n_L_added : List Str := ["_law_rows_here", "_law_last", "_law_heaps", "_law_lefts", "_law_here", "_law_hands", "_law_sums", "_law_spot", "_law_own", "_law_tick", "_law_way", "_law_numbers"]
abbrev p_L_added : List Str := ["_law_rows_here", "_law_last", "_law_heaps", "_law_lefts"]
def d_L_added : He.DefD := ⟨("_law_added", none), "_law_added", "_law_added", defArgs s_L_added, defBody s_L_added, defScope s_L_added, [], []⟩
abbrev s_law : Stmt := topS 123
abbrev n_law : List Str := ["_law_script", "_law_horizon_here", "_law_last", "_law_rows_here", "_law_look", "_law_reach", "_law_told", "_law_below", "_law_turn", "_law_heaps", "_law_lefts", "_law_gap_here", "_law_bounds", "_law_asked"]
abbrev p_law : List Str := ["_law_script"]
def d_law : He.DefD := ⟨("law", none), "law", "law", defArgs s_law, defBody s_law, defScope s_law, [], []⟩
def fns : List He.DefD := [d_is_integer, d_is_within, d_are_integers, d_need_number, d_is_heap, d_are_heaps, d_kept_heaps, d_colour_in, d_spots_of, d_need_heaps, d_need_colour, d_need_lefts, d_need_start, d_is_weight, d_is_row, d_are_rows, d_place_of, d_colour_at, d_Look_init, d_need_look, d_least_pair, d_both, d_times, d_turned, d_is_less, d_total_of, d_first_counts, d_row_changes, d_all_changes, d_change_in, d_fixed, d_Paper_init, d_signed, d_more_of, d_with_pick, d_best_turns, d_greatest_from, d_between, d_spots_changes, d_reach_in, d_reach_of, d_reach_by, d_Line_init, d_Line_heap_at, d_Line_advance, d_Line_forward, d_line_at, d_sent_on, d_picks_from, d_added_wish, d_free_wish, d_wish_by, d_ends_of, d_later_row, d_heaps_for, d_need_near, d_worst_start, d_worst_by, d_choices, d_rows_to, d_mean_in, d_worth_in, d_mean_of_look, d_need_fit, d_look_gap, d_is_start, d_shows_worst, d_L_horizon, d_L_mile, d_L_one, d_L_rows, d_L_paths, d_L_share, d_L_changes, d_L_greatest, d_L_sent, d_L_gap, d_L_is_within, d_L_start, d_L_added, d_law]
def facts : List He.Fa := [.glo "is_integer", .glo "is_within", .glo "are_integers", .glo "need_number", .glo "is_heap", .glo "are_heaps", .glo "kept_heaps", .glo "colour_in", .glo "spots_of", .glo "need_heaps", .glo "need_colour", .glo "need_lefts", .glo "need_start", .glo "is_weight", .glo "is_row", .glo "are_rows", .glo "place_of", .glo "colour_at", .glo "need_look", .glo "least_pair", .glo "both", .glo "times", .glo "turned", .glo "is_less", .glo "total_of", .glo "first_counts", .glo "row_changes", .glo "all_changes", .glo "change_in", .glo "fixed", .glo "signed", .glo "more_of", .glo "with_pick", .glo "best_turns", .glo "greatest_from", .glo "between", .glo "spots_changes", .glo "reach_in", .glo "reach_of", .glo "reach_by", .glo "line_at", .glo "sent_on", .glo "picks_from", .glo "added_wish", .glo "free_wish", .glo "wish_by", .glo "ends_of", .glo "later_row", .glo "heaps_for", .glo "need_near", .glo "worst_start", .glo "worst_by", .glo "choices", .glo "rows_to", .glo "mean_in", .glo "worth_in", .glo "mean_of_look", .glo "need_fit", .glo "look_gap", .glo "is_start", .glo "shows_worst", .glo "_law_horizon", .glo "_law_mile", .glo "_law_one", .glo "_law_rows", .glo "_law_paths", .glo "_law_share", .glo "_law_changes", .glo "_law_greatest", .glo "_law_sent", .glo "_law_gap", .glo "_law_is_within", .glo "_law_start", .glo "_law_added", .glo "law", .glo "Look", .glo "Line", .glo "Worst", .glo "BadNumber", .glo "NOUGHT", .glo "Paper", .free "isinstance", .free "int", .free "bool", .free "len", .free "all", .free "tuple", .free "sorted", .free "set", .free "range", .free "enumerate", .free "zip", .free "dict", .free "min", .free "max", .free "sum", .free "abs", .free "repr", .free "list", .free "super", .int "MOST_HEAPS" 60, .int "MOST_LEFTS" 400, .int "FARTHEST" 1000000, .int "MOST_CHIPS" 1000000000000000000000000000000000000000000000000000000000000, .int "MOST_FIGURES" 140, .int "MOST_ROWS" 40, .int "MOST_TICK" 60, .int "MOST_WEIGHT" 1000000, .int "FARTHEST_FIRST" 999900, .int "MOST_TICKS" 200, .int "MOST_WIDE" 118, .cls "Look", .mkr "Look", .cls "Line", .mkr "Line", .cls "Worst", .mkr "Worst", .meth "Line" "heap_at", .meth "Line" "advance", .meth "Line" "forward", .noat "Look" "rows", .noat "Look" "last", .noat "Look" "colour", .noat "Line" "tick", .noat "Line" "heaps", .noat "Line" "lefts", .noat "Worst" "word", .noat "Worst" "parts", .noat "Worst" "heaps", .noat "Worst" "lefts"]
def loose0 : List PySem.Str := ["_wall", "HandError", "BadNumber", "BadHeaps", "BadLook", "Misfit", "TooMany", "BadText", "is_integer", "is_within", "are_integers", "need_number", "MOST_HEAPS", "MOST_LEFTS", "FARTHEST", "MOST_CHIPS", "is_heap", "are_heaps", "kept_heaps", "colour_in", "spots_of", "need_heaps", "need_colour", "need_lefts", "need_start", "BAR", "FIGURES", "MOST_FIGURES", "written", "Scan"]
def loose1 : List PySem.Str := ["MOST_ROWS", "MOST_TICK", "MOST_WEIGHT", "FARTHEST_FIRST", "is_weight", "is_row", "are_rows", "place_of", "colour_at", "Look", "taken_row", "written_weight", "need_look", "NOUGHT", "least_pair", "both", "times", "turned", "is_less", "total_of", "first_counts", "row_changes", "all_changes", "change_in", "fixed", "Paper", "signed", "more_of", "with_pick", "best_turns"]
def loose2 : List PySem.Str := ["greatest_from", "between", "spots_changes", "reach_in", "reach_of", "reach_by", "MOST_TICKS", "Line", "taken_heap", "line_at", "state_of", "sent_on", "MOST_WIDE", "Worst", "picks_from", "added_wish", "free_wish", "wish_by", "ends_of", "later_row", "heaps_for", "need_near", "worst_start", "worst_by", "choices", "rows_to", "mean_in", "worth_in", "mean_of_look", "need_fit"]
def loose3 : List PySem.Str := ["look_gap", "is_start", "shows_worst", "_law_horizon", "_law_mile", "_law_one", "_law_rows", "_law_paths", "_law_share", "_law_changes", "_law_greatest", "_law_sent", "_law_gap", "_law_is_within", "_law_start", "_law_added"]
def loose : List PySem.Str := loose0 ++ loose1 ++ loose2 ++ loose3
abbrev lawAt : Nat := 123

/-- what the top has left of Worst.__init__, which says super() -/
structure WInit (P : Program) (K : PySem.W.Frag) : Prop where
  sup : (P.main.scope.names.lookup ("super" : Str)).isSome = false
  ex : ∃ (oc kV doc pm ct ccl cl : Value) (od an cdd cld : Option Addr) (osl ccs csl : Array (Option Value)) (cc cda : Addr) (vs : Array Value) (file : Str) (tf : Tok) (cdW : ClassData),
    K.lookup (He.ma K (He.ga K "Worst") "__init__") = some ⟨oc, od, .func (PySem.W.fnX "__init__" "Worst.__init__" (defArgs s_Worst_init) (defBody s_Worst_init) (defScope s_Worst_init) [("__class__", cc)] .none kV doc pm an (.ref cda) ct), osl⟩ ∧
    PySem.W.codeIn K (.ref cda) "Worst.__init__" = true ∧ K.lookup cda = some ⟨ccl, cdd, .fields vs, ccs⟩ ∧ vs[2]? = some (.str file tf) ∧ ((P.main.file : Str) == file) = true ∧
    K.lookup cc = some ⟨cl, cld, .cell (some (.ref (He.ga K "Worst"))), csl⟩ ∧ PySem.W.clsIn K (He.ga K "Worst") = some cdW
  mro : PySem.W.mroIn K (He.ga K "Worst") (.ref (He.ga K "Worst")) = some true
  up : PySem.W.ks_superIn K (He.ga K "Worst") (He.ga K "Worst") "__init__" = some (some (.ref (He.ma K (He.ga K "Paper") "__init__")))
  st : PySem.W.nsIn K cStatics "thirdparty.any" = some none
  fi : PySem.W.fnIn K (He.ma K (He.ga K "Paper") "__init__") = true
  ty : PySem.W.typeIn K (.ref (He.ma K (He.ga K "Paper") "__init__")) = some (.type "function")
/-- what the top has left -/
structure Txt (P : Program) (K : PySem.W.Frag) (mg : Str → Option Value) : Prop where
  says : He.SaysD facts fns K
  glo : ∀ x : Str, (He.Fa.glo x).ok K = true → mg x = some (.ref (He.ga K x))
  free : ∀ x : Str, (He.Fa.free x).ok K = true → mg x = none
  int : ∀ (x : Str) (i : Int), (He.Fa.int x i).ok K = true → ∃ t, mg x = some (.int i t)
  gcd : mg "gcd" = some (.builtin "math.gcd")
  insL : C8.InsC K (He.ga K "Look")
  insW : C8.InsC K (He.ga K "Worst")
  nought : ∀ H : Hp, SqT K H (He.ga K "NOUGHT") [.int 0, .int 1]
  wor : WInit P K
section
variable {P : Program} {w : World} {K : PySem.W.Frag} {mg : Str → Option Value} {base : Heap}
theorem Txt.fa (T : Txt P K mg) (i : Nat) {f : He.Fa} (h : facts[i]? = some f := by rfl) : f.ok K = true := T.says.fact i h
/-- a def of no defaults, by its place -/
theorem cal_of (T : Txt P K mg) {x : Str} {d : He.DefD} {N ps : List Str} {k : Nat} {sp : Sp} (i : Nat) (hd : fns[i]? = some d) (hg : mg x = some (.ref (He.ga K x))) (ha : d.at_ = (x, none)) (h0 : d.dfl = []) (h1 : d.kwd = []) (S : FnScope N ps d.scope)
    (hb : ∀ (kV doc pm : Value) (an : Option Addr) (cdv ct : Value) (us : List Value), us.length = ps.length → bindArgs (PySem.W.fnOf d.name d.qual d.params d.body d.scope .none kV doc pm an cdv ct) ⟨us, []⟩ = pure (ps.zip us))
    (len : ∀ vs H Q E, sp vs H Q E → vs.length = ps.length)
    (hbody : ∀ (cdv : Value) (A : Around) (outer : List Env) (s : Shared) (H : Hp) (vs : List V) (Q : VK) (E : XK), Room k (A.deeper (envOfC d.qual d.scope s.heap.objs.size (He.ga K x) cdv)) → sp vs H Q E →
      ∃ t, PSs (cxOf CX0 P w K mg base N d.qual d.scope (He.ga K x) cdv A outer s H E).nox d.body t ∧ t { nx := fun _ H' => Q .non H', rt := Q } (start N vs) H) : Cal P w K mg base (k + 1) x sp [] := by
  obtain ⟨fd, F⟩ := T.says.def_ i hd
  have e0 : d.dvs K = [] := by unfold He.DefD.dvs; rw [h0]; rfl
  have e1 : d.kws K = [] := by unfold He.DefD.kws; rw [h1]; rfl
  have ea : He.fAd K d.at_ = He.ga K x := by rw [ha]; rfl
  rw [e0, e1, ea] at F
  refine ⟨He.ga K x, fd, ps, [], ?_, hg, F.kp, F.bindsN hb, .nil⟩
  refine F.ok S len fun cdv A outer s H vs Q E hr hsp => ?_
  obtain ⟨t, h, q⟩ := hbody cdv A outer s H vs Q E hr hsp
  exact ⟨t, h.nox, q⟩
/-- a method -/
theorem met_of (T : Txt P K mg) {C m : Str} {d : He.DefD} {N ps : List Str} {k : Nat} {sp : Sp} (i : Nat) (hd : fns[i]? = some d) (c : Cls K (He.ga K C)) (hm : Meth K (He.ga K C) m (He.ma K (He.ga K C) m)) (ha : d.at_ = (C, some m)) (h0 : d.dfl = []) (h1 : d.kwd = []) (S : FnScope N ps d.scope)
    (hb : ∀ (kV doc pm : Value) (an : Option Addr) (cdv ct : Value) (us : List Value), us.length = ps.length → bindArgs (PySem.W.fnOf d.name d.qual d.params d.body d.scope .none kV doc pm an cdv ct) ⟨us, []⟩ = pure (ps.zip us))
    (len : ∀ vs H Q E, sp vs H Q E → vs.length = ps.length)
    (hbody : ∀ (cdv : Value) (A : Around) (outer : List Env) (s : Shared) (H : Hp) (vs : List V) (Q : VK) (E : XK), Room k (A.deeper (envOfC d.qual d.scope s.heap.objs.size (He.ma K (He.ga K C) m) cdv)) → sp vs H Q E →
      ∃ t, PSs (cxOf CX0 P w K mg base N d.qual d.scope (He.ma K (He.ga K C) m) cdv A outer s H E).nox d.body t ∧ t { nx := fun _ H' => Q .non H', rt := Q } (start N vs) H) : Met P w K mg base (k + 1) (He.ga K C) m sp [] := by
  obtain ⟨fd, F⟩ := T.says.def_ i hd
  have e0 : d.dvs K = [] := by unfold He.DefD.dvs; rw [h0]; rfl
  have e1 : d.kws K = [] := by unfold He.DefD.kws; rw [h1]; rfl
  have ea : He.fAd K d.at_ = He.ma K (He.ga K C) m := by rw [ha]; rfl
  rw [e0, e1, ea] at F
  refine ⟨He.ma K (He.ga K C) m, fd, ps, [], c, hm, ?_, F.bindsN hb, .nil⟩
  refine F.ok S len fun cdv A outer s H vs Q E hr hsp => ?_
  obtain ⟨t, h, q⟩ := hbody cdv A outer s H vs Q E hr hsp
  exact ⟨t, h.nox, q⟩
/-- a class made by its __init__ -/
theorem mak_of (T : Txt P K mg) {C : Str} {d : He.DefD} {N ps : List Str} {k : Nat} {sp : Sp} (i : Nat) (hd : fns[i]? = some d) (hg : mg C = some (.ref (He.ga K C))) (M : Mk K (He.ga K C) (He.ma K (He.ga K C) "__init__")) (ha : d.at_ = (C, some ("__init__" : Str))) (h0 : d.dfl = []) (h1 : d.kwd = []) (S : FnScope N ps d.scope)
    (hb : ∀ (kV doc pm : Value) (an : Option Addr) (cdv ct : Value) (us : List Value), us.length = ps.length → bindArgs (PySem.W.fnOf d.name d.qual d.params d.body d.scope .none kV doc pm an cdv ct) ⟨us, []⟩ = pure (ps.zip us))
    (len : ∀ vs H Q E, sp vs H Q E → vs.length = ps.length)
    (hbody : ∀ (cdv : Value) (A : Around) (outer : List Env) (s : Shared) (H : Hp) (vs : List V) (Q : VK) (E : XK), Room k (A.deeper (envOfC d.qual d.scope s.heap.objs.size (He.ma K (He.ga K C) "__init__") cdv)) → sp vs H Q E →
      ∃ t, PSs (cxOf CX0 P w K mg base N d.qual d.scope (He.ma K (He.ga K C) "__init__") cdv A outer s H E).nox d.body t ∧ t { nx := fun _ H' => Q .non H', rt := Q } (start N vs) H) : Mak P w K mg base (k + 1) C (He.ga K C) sp [] := by
  obtain ⟨fd, F⟩ := T.says.def_ i hd
  have e0 : d.dvs K = [] := by unfold He.DefD.dvs; rw [h0]; rfl
  have e1 : d.kws K = [] := by unfold He.DefD.kws; rw [h1]; rfl
  have ea : He.fAd K d.at_ = He.ma K (He.ga K C) "__init__" := by rw [ha]; rfl
  rw [e0, e1, ea] at F
  refine ⟨He.ma K (He.ga K C) "__init__", fd, ps, [], M, ?_, hg, F.bindsN hb, .nil⟩
  refine F.ok S len fun cdv A outer s H vs Q E hr hsp => ?_
  obtain ⟨t, h, q⟩ := hbody cdv A outer s H vs Q E hr hsp
  exact ⟨t, h.nox, q⟩
theorem g_is_integer (T : Txt P K mg) : mg "is_integer" = some (.ref (He.ga K "is_integer")) := T.glo _ (T.fa 0)
theorem sc_is_integer : FnScope n_is_integer p_is_integer (defScope s_is_integer) := ⟨rfl, rfl, rfl, by decide +kernel, rfl, by decide +kernel, by decide +kernel⟩
theorem c_is_integer (T : Txt P K mg) {k : Nat} {sp : Sp} (len : ∀ vs H Q E, sp vs H Q E → vs.length = 1) (hbody : ∀ (cdv : Value) (A : Around) (outer : List Env) (s : Shared) (H : Hp) (vs : List V) (Q : VK) (E : XK), Room k (A.deeper (envOfC "is_integer" (defScope s_is_integer) s.heap.objs.size (He.ga K "is_integer") cdv)) → sp vs H Q E →
      ∃ t, PSs (cxOf CX0 P w K mg base n_is_integer "is_integer" (defScope s_is_integer) (He.ga K "is_integer") cdv A outer s H E).nox (defBody s_is_integer) t ∧ t { nx := fun _ H' => Q .non H', rt := Q } (start n_is_integer vs) H) : Cal P w K mg base (k + 1) "is_integer" sp [] :=
  cal_of (d := d_is_integer) T 0 rfl (g_is_integer T) rfl rfl rfl sc_is_integer (fun _ _ _ _ _ _ us hl => match us, hl with | [_], _ => rfl) len hbody
theorem g_is_within (T : Txt P K mg) : mg "is_within" = some (.ref (He.ga K "is_within")) := T.glo _ (T.fa 1)
theorem sc_is_within : FnScope n_is_within p_is_within (defScope s_is_within) := ⟨rfl, rfl, rfl, by decide +kernel, rfl, by decide +kernel, by decide +kernel⟩
theorem c_is_within (T : Txt P K mg) {k : Nat} {sp : Sp} (len : ∀ vs H Q E, sp vs H Q E → vs.length = 3) (hbody : ∀ (cdv : Value) (A : Around) (outer : List Env) (s : Shared) (H : Hp) (vs : List V) (Q : VK) (E : XK), Room k (A.deeper (envOfC "is_within" (defScope s_is_within) s.heap.objs.size (He.ga K "is_within") cdv)) → sp vs H Q E →
      ∃ t, PSs (cxOf CX0 P w K mg base n_is_within "is_within" (defScope s_is_within) (He.ga K "is_within") cdv A outer s H E).nox (defBody s_is_within) t ∧ t { nx := fun _ H' => Q .non H', rt := Q } (start n_is_within vs) H) : Cal P w K mg base (k + 1) "is_within" sp [] :=
  cal_of (d := d_is_within) T 1 rfl (g_is_within T) rfl rfl rfl sc_is_within (fun _ _ _ _ _ _ us hl => match us, hl with | [_, _, _], _ => rfl) len hbody
theorem g_are_integers (T : Txt P K mg) : mg "are_integers" = some (.ref (He.ga K "are_integers")) := T.glo _ (T.fa 2)
theorem sc_are_integers : FnScope n_are_integers p_are_integers (defScope s_are_integers) := ⟨rfl, rfl, rfl, by decide +kernel, rfl, by decide +kernel, by decide +kernel⟩
theorem c_are_integers (T : Txt P K mg) {k : Nat} {sp : Sp} (len : ∀ vs H Q E, sp vs H Q E → vs.length = 2) (hbody : ∀ (cdv : Value) (A : Around) (outer : List Env) (s : Shared) (H : Hp) (vs : List V) (Q : VK) (E : XK), Room k (A.deeper (envOfC "are_integers" (defScope s_are_integers) s.heap.objs.size (He.ga K "are_integers") cdv)) → sp vs H Q E →
      ∃ t, PSs (cxOf CX0 P w K mg base n_are_integers "are_integers" (defScope s_are_integers) (He.ga K "are_integers") cdv A outer s H E).nox (defBody s_are_integers) t ∧ t { nx := fun _ H' => Q .non H', rt := Q } (start n_are_integers vs) H) : Cal P w K mg base (k + 1) "are_integers" sp [] :=
  cal_of (d := d_are_integers) T 2 rfl (g_are_integers T) rfl rfl rfl sc_are_integers (fun _ _ _ _ _ _ us hl => match us, hl with | [_, _], _ => rfl) len hbody
theorem g_need_number (T : Txt P K mg) : mg "need_number" = some (.ref (He.ga K "need_number")) := T.glo _ (T.fa 3)
theorem sc_need_number : FnScope n_need_number p_need_number (defScope s_need_number) := ⟨rfl, rfl, rfl, by decide +kernel, rfl, by decide +kernel, by decide +kernel⟩
theorem c_need_number (T : Txt P K mg) {k : Nat} {sp : Sp} (len : ∀ vs H Q E, sp vs H Q E → vs.length = 4) (hbody : ∀ (cdv : Value) (A : Around) (outer : List Env) (s : Shared) (H : Hp) (vs : List V) (Q : VK) (E : XK), Room k (A.deeper (envOfC "need_number" (defScope s_need_number) s.heap.objs.size (He.ga K "need_number") cdv)) → sp vs H Q E →
      ∃ t, PSs (cxOf CX0 P w K mg base n_need_number "need_number" (defScope s_need_number) (He.ga K "need_number") cdv A outer s H E).nox (defBody s_need_number) t ∧ t { nx := fun _ H' => Q .non H', rt := Q } (start n_need_number vs) H) : Cal P w K mg base (k + 1) "need_number" sp [] :=
  cal_of (d := d_need_number) T 3 rfl (g_need_number T) rfl rfl rfl sc_need_number (fun _ _ _ _ _ _ us hl => match us, hl with | [_, _, _, _], _ => rfl) len hbody
theorem g_is_heap (T : Txt P K mg) : mg "is_heap" = some (.ref (He.ga K "is_heap")) := T.glo _ (T.fa 4)
theorem sc_is_heap : FnScope n_is_heap p_is_heap (defScope s_is_heap) := ⟨rfl, rfl, rfl, by decide +kernel, rfl, by decide +kernel, by decide +kernel⟩
theorem c_is_heap (T : Txt P K mg) {k : Nat} {sp : Sp} (len : ∀ vs H Q E, sp vs H Q E → vs.length = 1) (hbody : ∀ (cdv : Value) (A : Around) (outer : List Env) (s : Shared) (H : Hp) (vs : List V) (Q : VK) (E : XK), Room k (A.deeper (envOfC "is_heap" (defScope s_is_heap) s.heap.objs.size (He.ga K "is_heap") cdv)) → sp vs H Q E →
      ∃ t, PSs (cxOf CX0 P w K mg base n_is_heap "is_heap" (defScope s_is_heap) (He.ga K "is_heap") cdv A outer s H E).nox (defBody s_is_heap) t ∧ t { nx := fun _ H' => Q .non H', rt := Q } (start n_is_heap vs) H) : Cal P w K mg base (k + 1) "is_heap" sp [] :=
  cal_of (d := d_is_heap) T 4 rfl (g_is_heap T) rfl rfl rfl sc_is_heap (fun _ _ _ _ _ _ us hl => match us, hl with | [_], _ => rfl) len hbody
theorem g_are_heaps (T : Txt P K mg) : mg "are_heaps" = some (.ref (He.ga K "are_heaps")) := T.glo _ (T.fa 5)
theorem sc_are_heaps : FnScope n_are_heaps p_are_heaps (defScope s_are_heaps) := ⟨rfl, rfl, rfl, by decide +kernel, rfl, by decide +kernel, by decide +kernel⟩
theorem c_are_heaps (T : Txt P K mg) {k : Nat} {sp : Sp} (len : ∀ vs H Q E, sp vs H Q E → vs.length = 1) (hbody : ∀ (cdv : Value) (A : Around) (outer : List Env) (s : Shared) (H : Hp) (vs : List V) (Q : VK) (E : XK), Room k (A.deeper (envOfC "are_heaps" (defScope s_are_heaps) s.heap.objs.size (He.ga K "are_heaps") cdv)) → sp vs H Q E →
      ∃ t, PSs (cxOf CX0 P w K mg base n_are_heaps "are_heaps" (defScope s_are_heaps) (He.ga K "are_heaps") cdv A outer s H E).nox (defBody s_are_heaps) t ∧ t { nx := fun _ H' => Q .non H', rt := Q } (start n_are_heaps vs) H) : Cal P w K mg base (k + 1) "are_heaps" sp [] :=
  cal_of (d := d_are_heaps) T 5 rfl (g_are_heaps T) rfl rfl rfl sc_are_heaps (fun _ _ _ _ _ _ us hl => match us, hl with | [_], _ => rfl) len hbody
theorem g_kept_heaps (T : Txt P K mg) : mg "kept_heaps" = some (.ref (He.ga K "kept_heaps")) := T.glo _ (T.fa 6)
theorem sc_kept_heaps : FnScope n_kept_heaps p_kept_heaps (defScope s_kept_heaps) := ⟨rfl, rfl, rfl, by decide +kernel, rfl, by decide +kernel, by decide +kernel⟩
theorem c_kept_heaps (T : Txt P K mg) {k : Nat} {sp : Sp} (len : ∀ vs H Q E, sp vs H Q E → vs.length = 1) (hbody : ∀ (cdv : Value) (A : Around) (outer : List Env) (s : Shared) (H : Hp) (vs : List V) (Q : VK) (E : XK), Room k (A.deeper (envOfC "kept_heaps" (defScope s_kept_heaps) s.heap.objs.size (He.ga K "kept_heaps") cdv)) → sp vs H Q E →
      ∃ t, PSs (cxOf CX0 P w K mg base n_kept_heaps "kept_heaps" (defScope s_kept_heaps) (He.ga K "kept_heaps") cdv A outer s H E).nox (defBody s_kept_heaps) t ∧ t { nx := fun _ H' => Q .non H', rt := Q } (start n_kept_heaps vs) H) : Cal P w K mg base (k + 1) "kept_heaps" sp [] :=
  cal_of (d := d_kept_heaps) T 6 rfl (g_kept_heaps T) rfl rfl rfl sc_kept_heaps (fun _ _ _ _ _ _ us hl => match us, hl with | [_], _ => rfl) len hbody
theorem g_colour_in (T : Txt P K mg) : mg "colour_in" = some (.ref (He.ga K "colour_in")) := T.glo _ (T.fa 7)
theorem sc_colour_in : FnScope n_colour_in p_colour_in (defScope s_colour_in) := ⟨rfl, rfl, rfl, by decide +kernel, rfl, by decide +kernel, by decide +kernel⟩
theorem c_colour_in (T : Txt P K mg) {k : Nat} {sp : Sp} (len : ∀ vs H Q E, sp vs H Q E → vs.length = 1) (hbody : ∀ (cdv : Value) (A : Around) (outer : List Env) (s : Shared) (H : Hp) (vs : List V) (Q : VK) (E : XK), Room k (A.deeper (envOfC "colour_in" (defScope s_colour_in) s.heap.objs.size (He.ga K "colour_in") cdv)) → sp vs H Q E →
      ∃ t, PSs (cxOf CX0 P w K mg base n_colour_in "colour_in" (defScope s_colour_in) (He.ga K "colour_in") cdv A outer s H E).nox (defBody s_colour_in) t ∧ t { nx := fun _ H' => Q .non H', rt := Q } (start n_colour_in vs) H) : Cal P w K mg base (k + 1) "colour_in" sp [] :=
  cal_of (d := d_colour_in) T 7 rfl (g_colour_in T) rfl rfl rfl sc_colour_in (fun _ _ _ _ _ _ us hl => match us, hl with | [_], _ => rfl) len hbody
theorem g_spots_of (T : Txt P K mg) : mg "spots_of" = some (.ref (He.ga K "spots_of")) := T.glo _ (T.fa 8)
theorem sc_spots_of : FnScope n_spots_of p_spots_of (defScope s_spots_of) := ⟨rfl, rfl, rfl, by decide +kernel, rfl, by decide +kernel, by decide +kernel⟩
theorem c_spots_of (T : Txt P K mg) {k : Nat} {sp : Sp} (len : ∀ vs H Q E, sp vs H Q E → vs.length = 1) (hbody : ∀ (cdv : Value) (A : Around) (outer : List Env) (s : Shared) (H : Hp) (vs : List V) (Q : VK) (E : XK), Room k (A.deeper (envOfC "spots_of" (defScope s_spots_of) s.heap.objs.size (He.ga K "spots_of") cdv)) → sp vs H Q E →
      ∃ t, PSs (cxOf CX0 P w K mg base n_spots_of "spots_of" (defScope s_spots_of) (He.ga K "spots_of") cdv A outer s H E).nox (defBody s_spots_of) t ∧ t { nx := fun _ H' => Q .non H', rt := Q } (start n_spots_of vs) H) : Cal P w K mg base (k + 1) "spots_of" sp [] :=
  cal_of (d := d_spots_of) T 8 rfl (g_spots_of T) rfl rfl rfl sc_spots_of (fun _ _ _ _ _ _ us hl => match us, hl with | [_], _ => rfl) len hbody
theorem g_need_heaps (T : Txt P K mg) : mg "need_heaps" = some (.ref (He.ga K "need_heaps")) := T.glo _ (T.fa 9)
theorem sc_need_heaps : FnScope n_need_heaps p_need_heaps (defScope s_need_heaps) := ⟨rfl, rfl, rfl, by decide +kernel, rfl, by decide +kernel, by decide +kernel⟩
theorem c_need_heaps (T : Txt P K mg) {k : Nat} {sp : Sp} (len : ∀ vs H Q E, sp vs H Q E → vs.length = 2) (hbody : ∀ (cdv : Value) (A : Around) (outer : List Env) (s : Shared) (H : Hp) (vs : List V) (Q : VK) (E : XK), Room k (A.deeper (envOfC "need_heaps" (defScope s_need_heaps) s.heap.objs.size (He.ga K "need_heaps") cdv)) → sp vs H Q E →
      ∃ t, PSs (cxOf CX0 P w K mg base n_need_heaps "need_heaps" (defScope s_need_heaps) (He.ga K "need_heaps") cdv A outer s H E).nox (defBody s_need_heaps) t ∧ t { nx := fun _ H' => Q .non H', rt := Q } (start n_need_heaps vs) H) : Cal P w K mg base (k + 1) "need_heaps" sp [] :=
  cal_of (d := d_need_heaps) T 9 rfl (g_need_heaps T) rfl rfl rfl sc_need_heaps (fun _ _ _ _ _ _ us hl => match us, hl with | [_, _], _ => rfl) len hbody
theorem g_need_colour (T : Txt P K mg) : mg "need_colour" = some (.ref (He.ga K "need_colour")) := T.glo _ (T.fa 10)
theorem sc_need_colour : FnScope n_need_colour p_need_colour (defScope s_need_colour) := ⟨rfl, rfl, rfl, by decide +kernel, rfl, by decide +kernel, by decide +kernel⟩
theorem c_need_colour (T : Txt P K mg) {k : Nat} {sp : Sp} (len : ∀ vs H Q E, sp vs H Q E → vs.length = 1) (hbody : ∀ (cdv : Value) (A : Around) (outer : List Env) (s : Shared) (H : Hp) (vs : List V) (Q : VK) (E : XK), Room k (A.deeper (envOfC "need_colour" (defScope s_need_colour) s.heap.objs.size (He.ga K "need_colour") cdv)) → sp vs H Q E →
      ∃ t, PSs (cxOf CX0 P w K mg base n_need_colour "need_colour" (defScope s_need_colour) (He.ga K "need_colour") cdv A outer s H E).nox (defBody s_need_colour) t ∧ t { nx := fun _ H' => Q .non H', rt := Q } (start n_need_colour vs) H) : Cal P w K mg base (k + 1) "need_colour" sp [] :=
  cal_of (d := d_need_colour) T 10 rfl (g_need_colour T) rfl rfl rfl sc_need_colour (fun _ _ _ _ _ _ us hl => match us, hl with | [_], _ => rfl) len hbody
theorem g_need_lefts (T : Txt P K mg) : mg "need_lefts" = some (.ref (He.ga K "need_lefts")) := T.glo _ (T.fa 11)
theorem sc_need_lefts : FnScope n_need_lefts p_need_lefts (defScope s_need_lefts) := ⟨rfl, rfl, rfl, by decide +kernel, rfl, by decide +kernel, by decide +kernel⟩
theorem g_need_start (T : Txt P K mg) : mg "need_start" = some (.ref (He.ga K "need_start")) := T.glo _ (T.fa 12)
theorem sc_need_start : FnScope n_need_start p_need_start (defScope s_need_start) := ⟨rfl, rfl, rfl, by decide +kernel, rfl, by decide +kernel, by decide +kernel⟩
theorem c_need_start (T : Txt P K mg) {k : Nat} {sp : Sp} (len : ∀ vs H Q E, sp vs H Q E → vs.length = 2) (hbody : ∀ (cdv : Value) (A : Around) (outer : List Env) (s : Shared) (H : Hp) (vs : List V) (Q : VK) (E : XK), Room k (A.deeper (envOfC "need_start" (defScope s_need_start) s.heap.objs.size (He.ga K "need_start") cdv)) → sp vs H Q E →
      ∃ t, PSs (cxOf CX0 P w K mg base n_need_start "need_start" (defScope s_need_start) (He.ga K "need_start") cdv A outer s H E).nox (defBody s_need_start) t ∧ t { nx := fun _ H' => Q .non H', rt := Q } (start n_need_start vs) H) : Cal P w K mg base (k + 1) "need_start" sp [] :=
  cal_of (d := d_need_start) T 12 rfl (g_need_start T) rfl rfl rfl sc_need_start (fun _ _ _ _ _ _ us hl => match us, hl with | [_, _], _ => rfl) len hbody
theorem g_is_weight (T : Txt P K mg) : mg "is_weight" = some (.ref (He.ga K "is_weight")) := T.glo _ (T.fa 13)
theorem sc_is_weight : FnScope n_is_weight p_is_weight (defScope s_is_weight) := ⟨rfl, rfl, rfl, by decide +kernel, rfl, by decide +kernel, by decide +kernel⟩
theorem c_is_weight (T : Txt P K mg) {k : Nat} {sp : Sp} (len : ∀ vs H Q E, sp vs H Q E → vs.length = 1) (hbody : ∀ (cdv : Value) (A : Around) (outer : List Env) (s : Shared) (H : Hp) (vs : List V) (Q : VK) (E : XK), Room k (A.deeper (envOfC "is_weight" (defScope s_is_weight) s.heap.objs.size (He.ga K "is_weight") cdv)) → sp vs H Q E →
      ∃ t, PSs (cxOf CX0 P w K mg base n_is_weight "is_weight" (defScope s_is_weight) (He.ga K "is_weight") cdv A outer s H E).nox (defBody s_is_weight) t ∧ t { nx := fun _ H' => Q .non H', rt := Q } (start n_is_weight vs) H) : Cal P w K mg base (k + 1) "is_weight" sp [] :=
  cal_of (d := d_is_weight) T 13 rfl (g_is_weight T) rfl rfl rfl sc_is_weight (fun _ _ _ _ _ _ us hl => match us, hl with | [_], _ => rfl) len hbody
theorem g_is_row (T : Txt P K mg) : mg "is_row" = some (.ref (He.ga K "is_row")) := T.glo _ (T.fa 14)
theorem sc_is_row : FnScope n_is_row p_is_row (defScope s_is_row) := ⟨rfl, rfl, rfl, by decide +kernel, rfl, by decide +kernel, by decide +kernel⟩
theorem c_is_row (T : Txt P K mg) {k : Nat} {sp : Sp} (len : ∀ vs H Q E, sp vs H Q E → vs.length = 1) (hbody : ∀ (cdv : Value) (A : Around) (outer : List Env) (s : Shared) (H : Hp) (vs : List V) (Q : VK) (E : XK), Room k (A.deeper (envOfC "is_row" (defScope s_is_row) s.heap.objs.size (He.ga K "is_row") cdv)) → sp vs H Q E →
      ∃ t, PSs (cxOf CX0 P w K mg base n_is_row "is_row" (defScope s_is_row) (He.ga K "is_row") cdv A outer s H E).nox (defBody s_is_row) t ∧ t { nx := fun _ H' => Q .non H', rt := Q } (start n_is_row vs) H) : Cal P w K mg base (k + 1) "is_row" sp [] :=
  cal_of (d := d_is_row) T 14 rfl (g_is_row T) rfl rfl rfl sc_is_row (fun _ _ _ _ _ _ us hl => match us, hl with | [_], _ => rfl) len hbody
theorem g_are_rows (T : Txt P K mg) : mg "are_rows" = some (.ref (He.ga K "are_rows")) := T.glo _ (T.fa 15)
theorem sc_are_rows : FnScope n_are_rows p_are_rows (defScope s_are_rows) := ⟨rfl, rfl, rfl, by decide +kernel, rfl, by decide +kernel, by decide +kernel⟩
theorem c_are_rows (T : Txt P K mg) {k : Nat} {sp : Sp} (len : ∀ vs H Q E, sp vs H Q E → vs.length = 1) (hbody : ∀ (cdv : Value) (A : Around) (outer : List Env) (s : Shared) (H : Hp) (vs : List V) (Q : VK) (E : XK), Room k (A.deeper (envOfC "are_rows" (defScope s_are_rows) s.heap.objs.size (He.ga K "are_rows") cdv)) → sp vs H Q E →
      ∃ t, PSs (cxOf CX0 P w K mg base n_are_rows "are_rows" (defScope s_are_rows) (He.ga K "are_rows") cdv A outer s H E).nox (defBody s_are_rows) t ∧ t { nx := fun _ H' => Q .non H', rt := Q } (start n_are_rows vs) H) : Cal P w K mg base (k + 1) "are_rows" sp [] :=
  cal_of (d := d_are_rows) T 15 rfl (g_are_rows T) rfl rfl rfl sc_are_rows (fun _ _ _ _ _ _ us hl => match us, hl with | [_], _ => rfl) len hbody
theorem g_place_of (T : Txt P K mg) : mg "place_of" = some (.ref (He.ga K "place_of")) := T.glo _ (T.fa 16)
theorem sc_place_of : FnScope n_place_of p_place_of (defScope s_place_of) := ⟨rfl, rfl, rfl, by decide +kernel, rfl, by decide +kernel, by decide +kernel⟩
theorem c_place_of (T : Txt P K mg) {k : Nat} {sp : Sp} (len : ∀ vs H Q E, sp vs H Q E → vs.length = 1) (hbody : ∀ (cdv : Value) (A : Around) (outer : List Env) (s : Shared) (H : Hp) (vs : List V) (Q : VK) (E : XK), Room k (A.deeper (envOfC "place_of" (defScope s_place_of) s.heap.objs.size (He.ga K "place_of") cdv)) → sp vs H Q E →
      ∃ t, PSs (cxOf CX0 P w K mg base n_place_of "place_of" (defScope s_place_of) (He.ga K "place_of") cdv A outer s H E).nox (defBody s_place_of) t ∧ t { nx := fun _ H' => Q .non H', rt := Q } (start n_place_of vs) H) : Cal P w K mg base (k + 1) "place_of" sp [] :=
  cal_of (d := d_place_of) T 16 rfl (g_place_of T) rfl rfl rfl sc_place_of (fun _ _ _ _ _ _ us hl => match us, hl with | [_], _ => rfl) len hbody
theorem g_colour_at (T : Txt P K mg) : mg "colour_at" = some (.ref (He.ga K "colour_at")) := T.glo _ (T.fa 17)
theorem sc_colour_at : FnScope n_colour_at p_colour_at (defScope s_colour_at) := ⟨rfl, rfl, rfl, by decide +kernel, rfl, by decide +kernel, by decide +kernel⟩
theorem c_colour_at (T : Txt P K mg) {k : Nat} {sp : Sp} (len : ∀ vs H Q E, sp vs H Q E → vs.length = 1) (hbody : ∀ (cdv : Value) (A : Around) (outer : List Env) (s : Shared) (H : Hp) (vs : List V) (Q : VK) (E : XK), Room k (A.deeper (envOfC "colour_at" (defScope s_colour_at) s.heap.objs.size (He.ga K "colour_at") cdv)) → sp vs H Q E →
      ∃ t, PSs (cxOf CX0 P w K mg base n_colour_at "colour_at" (defScope s_colour_at) (He.ga K "colour_at") cdv A outer s H E).nox (defBody s_colour_at) t ∧ t { nx := fun _ H' => Q .non H', rt := Q } (start n_colour_at vs) H) : Cal P w K mg base (k + 1) "colour_at" sp [] :=
  cal_of (d := d_colour_at) T 17 rfl (g_colour_at T) rfl rfl rfl sc_colour_at (fun _ _ _ _ _ _ us hl => match us, hl with | [_], _ => rfl) len hbody
theorem sc_Look_init : FnScope n_Look_init p_Look_init (defScope s_Look_init) := ⟨rfl, rfl, rfl, by decide +kernel, rfl, by decide +kernel, by decide +kernel⟩
theorem c_Look_init (T : Txt P K mg) {k : Nat} {sp : Sp} (len : ∀ vs H Q E, sp vs H Q E → vs.length = 2) (hbody : ∀ (cdv : Value) (A : Around) (outer : List Env) (s : Shared) (H : Hp) (vs : List V) (Q : VK) (E : XK), Room k (A.deeper (envOfC "Look.__init__" (defScope s_Look_init) s.heap.objs.size (He.ma K (He.ga K "Look") "__init__") cdv)) → sp vs H Q E →
      ∃ t, PSs (cxOf CX0 P w K mg base n_Look_init "Look.__init__" (defScope s_Look_init) (He.ma K (He.ga K "Look") "__init__") cdv A outer s H E).nox (defBody s_Look_init) t ∧ t { nx := fun _ H' => Q .non H', rt := Q } (start n_Look_init vs) H) : Mak P w K mg base (k + 1) "Look" (He.ga K "Look") sp [] :=
  mak_of (d := d_Look_init) T 18 rfl (T.glo _ (T.fa 75)) (He.mkr_ok (T.fa 112)) rfl rfl rfl sc_Look_init (fun _ _ _ _ _ _ us hl => match us, hl with | [_, _], _ => rfl) len hbody
theorem g_need_look (T : Txt P K mg) : mg "need_look" = some (.ref (He.ga K "need_look")) := T.glo _ (T.fa 18)
theorem sc_need_look : FnScope n_need_look p_need_look (defScope s_need_look) := ⟨rfl, rfl, rfl, by decide +kernel, rfl, by decide +kernel, by decide +kernel⟩
theorem g_least_pair (T : Txt P K mg) : mg "least_pair" = some (.ref (He.ga K "least_pair")) := T.glo _ (T.fa 19)
theorem sc_least_pair : FnScope n_least_pair p_least_pair (defScope s_least_pair) := ⟨rfl, rfl, rfl, by decide +kernel, rfl, by decide +kernel, by decide +kernel⟩
theorem c_least_pair (T : Txt P K mg) {k : Nat} {sp : Sp} (len : ∀ vs H Q E, sp vs H Q E → vs.length = 2) (hbody : ∀ (cdv : Value) (A : Around) (outer : List Env) (s : Shared) (H : Hp) (vs : List V) (Q : VK) (E : XK), Room k (A.deeper (envOfC "least_pair" (defScope s_least_pair) s.heap.objs.size (He.ga K "least_pair") cdv)) → sp vs H Q E →
      ∃ t, PSs (cxOf CX0 P w K mg base n_least_pair "least_pair" (defScope s_least_pair) (He.ga K "least_pair") cdv A outer s H E).nox (defBody s_least_pair) t ∧ t { nx := fun _ H' => Q .non H', rt := Q } (start n_least_pair vs) H) : Cal P w K mg base (k + 1) "least_pair" sp [] :=
  cal_of (d := d_least_pair) T 20 rfl (g_least_pair T) rfl rfl rfl sc_least_pair (fun _ _ _ _ _ _ us hl => match us, hl with | [_, _], _ => rfl) len hbody
theorem g_both (T : Txt P K mg) : mg "both" = some (.ref (He.ga K "both")) := T.glo _ (T.fa 20)
theorem sc_both : FnScope n_both p_both (defScope s_both) := ⟨rfl, rfl, rfl, by decide +kernel, rfl, by decide +kernel, by decide +kernel⟩
theorem c_both (T : Txt P K mg) {k : Nat} {sp : Sp} (len : ∀ vs H Q E, sp vs H Q E → vs.length = 2) (hbody : ∀ (cdv : Value) (A : Around) (outer : List Env) (s : Shared) (H : Hp) (vs : List V) (Q : VK) (E : XK), Room k (A.deeper (envOfC "both" (defScope s_both) s.heap.objs.size (He.ga K "both") cdv)) → sp vs H Q E →
      ∃ t, PSs (cxOf CX0 P w K mg base n_both "both" (defScope s_both) (He.ga K "both") cdv A outer s H E).nox (defBody s_both) t ∧ t { nx := fun _ H' => Q .non H', rt := Q } (start n_both vs) H) : Cal P w K mg base (k + 1) "both" sp [] :=
  cal_of (d := d_both) T 21 rfl (g_both T) rfl rfl rfl sc_both (fun _ _ _ _ _ _ us hl => match us, hl with | [_, _], _ => rfl) len hbody
theorem g_times (T : Txt P K mg) : mg "times" = some (.ref (He.ga K "times")) := T.glo _ (T.fa 21)
theorem sc_times : FnScope n_times p_times (defScope s_times) := ⟨rfl, rfl, rfl, by decide +kernel, rfl, by decide +kernel, by decide +kernel⟩
theorem c_times (T : Txt P K mg) {k : Nat} {sp : Sp} (len : ∀ vs H Q E, sp vs H Q E → vs.length = 2) (hbody : ∀ (cdv : Value) (A : Around) (outer : List Env) (s : Shared) (H : Hp) (vs : List V) (Q : VK) (E : XK), Room k (A.deeper (envOfC "times" (defScope s_times) s.heap.objs.size (He.ga K "times") cdv)) → sp vs H Q E →
      ∃ t, PSs (cxOf CX0 P w K mg base n_times "times" (defScope s_times) (He.ga K "times") cdv A outer s H E).nox (defBody s_times) t ∧ t { nx := fun _ H' => Q .non H', rt := Q } (start n_times vs) H) : Cal P w K mg base (k + 1) "times" sp [] :=
  cal_of (d := d_times) T 22 rfl (g_times T) rfl rfl rfl sc_times (fun _ _ _ _ _ _ us hl => match us, hl with | [_, _], _ => rfl) len hbody
theorem g_turned (T : Txt P K mg) : mg "turned" = some (.ref (He.ga K "turned")) := T.glo _ (T.fa 22)
theorem sc_turned : FnScope n_turned p_turned (defScope s_turned) := ⟨rfl, rfl, rfl, by decide +kernel, rfl, by decide +kernel, by decide +kernel⟩
theorem c_turned (T : Txt P K mg) {k : Nat} {sp : Sp} (len : ∀ vs H Q E, sp vs H Q E → vs.length = 1) (hbody : ∀ (cdv : Value) (A : Around) (outer : List Env) (s : Shared) (H : Hp) (vs : List V) (Q : VK) (E : XK), Room k (A.deeper (envOfC "turned" (defScope s_turned) s.heap.objs.size (He.ga K "turned") cdv)) → sp vs H Q E →
      ∃ t, PSs (cxOf CX0 P w K mg base n_turned "turned" (defScope s_turned) (He.ga K "turned") cdv A outer s H E).nox (defBody s_turned) t ∧ t { nx := fun _ H' => Q .non H', rt := Q } (start n_turned vs) H) : Cal P w K mg base (k + 1) "turned" sp [] :=
  cal_of (d := d_turned) T 23 rfl (g_turned T) rfl rfl rfl sc_turned (fun _ _ _ _ _ _ us hl => match us, hl with | [_], _ => rfl) len hbody
theorem g_is_less (T : Txt P K mg) : mg "is_less" = some (.ref (He.ga K "is_less")) := T.glo _ (T.fa 23)
theorem sc_is_less : FnScope n_is_less p_is_less (defScope s_is_less) := ⟨rfl, rfl, rfl, by decide +kernel, rfl, by decide +kernel, by decide +kernel⟩
theorem c_is_less (T : Txt P K mg) {k : Nat} {sp : Sp} (len : ∀ vs H Q E, sp vs H Q E → vs.length = 2) (hbody : ∀ (cdv : Value) (A : Around) (outer : List Env) (s : Shared) (H : Hp) (vs : List V) (Q : VK) (E : XK), Room k (A.deeper (envOfC "is_less" (defScope s_is_less) s.heap.objs.size (He.ga K "is_less") cdv)) → sp vs H Q E →
      ∃ t, PSs (cxOf CX0 P w K mg base n_is_less "is_less" (defScope s_is_less) (He.ga K "is_less") cdv A outer s H E).nox (defBody s_is_less) t ∧ t { nx := fun _ H' => Q .non H', rt := Q } (start n_is_less vs) H) : Cal P w K mg base (k + 1) "is_less" sp [] :=
  cal_of (d := d_is_less) T 24 rfl (g_is_less T) rfl rfl rfl sc_is_less (fun _ _ _ _ _ _ us hl => match us, hl with | [_, _], _ => rfl) len hbody
theorem g_total_of (T : Txt P K mg) : mg "total_of" = some (.ref (He.ga K "total_of")) := T.glo _ (T.fa 24)
theorem sc_total_of : FnScope n_total_of p_total_of (defScope s_total_of) := ⟨rfl, rfl, rfl, by decide +kernel, rfl, by decide +kernel, by decide +kernel⟩
theorem c_total_of (T : Txt P K mg) {k : Nat} {sp : Sp} (len : ∀ vs H Q E, sp vs H Q E → vs.length = 1) (hbody : ∀ (cdv : Value) (A : Around) (outer : List Env) (s : Shared) (H : Hp) (vs : List V) (Q : VK) (E : XK), Room k (A.deeper (envOfC "total_of" (defScope s_total_of) s.heap.objs.size (He.ga K "total_of") cdv)) → sp vs H Q E →
      ∃ t, PSs (cxOf CX0 P w K mg base n_total_of "total_of" (defScope s_total_of) (He.ga K "total_of") cdv A outer s H E).nox (defBody s_total_of) t ∧ t { nx := fun _ H' => Q .non H', rt := Q } (start n_total_of vs) H) : Cal P w K mg base (k + 1) "total_of" sp [] :=
  cal_of (d := d_total_of) T 25 rfl (g_total_of T) rfl rfl rfl sc_total_of (fun _ _ _ _ _ _ us hl => match us, hl with | [_], _ => rfl) len hbody
theorem g_first_counts (T : Txt P K mg) : mg "first_counts" = some (.ref (He.ga K "first_counts")) := T.glo _ (T.fa 25)
theorem sc_first_counts : FnScope n_first_counts p_first_counts (defScope s_first_counts) := ⟨rfl, rfl, rfl, by decide +kernel, rfl, by decide +kernel, by decide +kernel⟩
theorem c_first_counts (T : Txt P K mg) {k : Nat} {sp : Sp} (len : ∀ vs H Q E, sp vs H Q E → vs.length = 1) (hbody : ∀ (cdv : Value) (A : Around) (outer : List Env) (s : Shared) (H : Hp) (vs : List V) (Q : VK) (E : XK), Room k (A.deeper (envOfC "first_counts" (defScope s_first_counts) s.heap.objs.size (He.ga K "first_counts") cdv)) → sp vs H Q E →
      ∃ t, PSs (cxOf CX0 P w K mg base n_first_counts "first_counts" (defScope s_first_counts) (He.ga K "first_counts") cdv A outer s H E).nox (defBody s_first_counts) t ∧ t { nx := fun _ H' => Q .non H', rt := Q } (start n_first_counts vs) H) : Cal P w K mg base (k + 1) "first_counts" sp [] :=
  cal_of (d := d_first_counts) T 26 rfl (g_first_counts T) rfl rfl rfl sc_first_counts (fun _ _ _ _ _ _ us hl => match us, hl with | [_], _ => rfl) len hbody
theorem g_row_changes (T : Txt P K mg) : mg "row_changes" = some (.ref (He.ga K "row_changes")) := T.glo _ (T.fa 26)
theorem sc_row_changes : FnScope n_row_changes p_row_changes (defScope s_row_changes) := ⟨rfl, rfl, rfl, by decide +kernel, rfl, by decide +kernel, by decide +kernel⟩
theorem c_row_changes (T : Txt P K mg) {k : Nat} {sp : Sp} (len : ∀ vs H Q E, sp vs H Q E → vs.length = 3) (hbody : ∀ (cdv : Value) (A : Around) (outer : List Env) (s : Shared) (H : Hp) (vs : List V) (Q : VK) (E : XK), Room k (A.deeper (envOfC "row_changes" (defScope s_row_changes) s.heap.objs.size (He.ga K "row_changes") cdv)) → sp vs H Q E →
      ∃ t, PSs (cxOf CX0 P w K mg base n_row_changes "row_changes" (defScope s_row_changes) (He.ga K "row_changes") cdv A outer s H E).nox (defBody s_row_changes) t ∧ t { nx := fun _ H' => Q .non H', rt := Q } (start n_row_changes vs) H) : Cal P w K mg base (k + 1) "row_changes" sp [] :=
  cal_of (d := d_row_changes) T 27 rfl (g_row_changes T) rfl rfl rfl sc_row_changes (fun _ _ _ _ _ _ us hl => match us, hl with | [_, _, _], _ => rfl) len hbody
theorem g_all_changes (T : Txt P K mg) : mg "all_changes" = some (.ref (He.ga K "all_changes")) := T.glo _ (T.fa 27)
theorem sc_all_changes : FnScope n_all_changes p_all_changes (defScope s_all_changes) := ⟨rfl, rfl, rfl, by decide +kernel, rfl, by decide +kernel, by decide +kernel⟩
theorem c_all_changes (T : Txt P K mg) {k : Nat} {sp : Sp} (len : ∀ vs H Q E, sp vs H Q E → vs.length = 1) (hbody : ∀ (cdv : Value) (A : Around) (outer : List Env) (s : Shared) (H : Hp) (vs : List V) (Q : VK) (E : XK), Room k (A.deeper (envOfC "all_changes" (defScope s_all_changes) s.heap.objs.size (He.ga K "all_changes") cdv)) → sp vs H Q E →
      ∃ t, PSs (cxOf CX0 P w K mg base n_all_changes "all_changes" (defScope s_all_changes) (He.ga K "all_changes") cdv A outer s H E).nox (defBody s_all_changes) t ∧ t { nx := fun _ H' => Q .non H', rt := Q } (start n_all_changes vs) H) : Cal P w K mg base (k + 1) "all_changes" sp [] :=
  cal_of (d := d_all_changes) T 28 rfl (g_all_changes T) rfl rfl rfl sc_all_changes (fun _ _ _ _ _ _ us hl => match us, hl with | [_], _ => rfl) len hbody
theorem g_change_in (T : Txt P K mg) : mg "change_in" = some (.ref (He.ga K "change_in")) := T.glo _ (T.fa 28)
theorem sc_change_in : FnScope n_change_in p_change_in (defScope s_change_in) := ⟨rfl, rfl, rfl, by decide +kernel, rfl, by decide +kernel, by decide +kernel⟩
theorem c_change_in (T : Txt P K mg) {k : Nat} {sp : Sp} (len : ∀ vs H Q E, sp vs H Q E → vs.length = 2) (hbody : ∀ (cdv : Value) (A : Around) (outer : List Env) (s : Shared) (H : Hp) (vs : List V) (Q : VK) (E : XK), Room k (A.deeper (envOfC "change_in" (defScope s_change_in) s.heap.objs.size (He.ga K "change_in") cdv)) → sp vs H Q E →
      ∃ t, PSs (cxOf CX0 P w K mg base n_change_in "change_in" (defScope s_change_in) (He.ga K "change_in") cdv A outer s H E).nox (defBody s_change_in) t ∧ t { nx := fun _ H' => Q .non H', rt := Q } (start n_change_in vs) H) : Cal P w K mg base (k + 1) "change_in" sp [] :=
  cal_of (d := d_change_in) T 29 rfl (g_change_in T) rfl rfl rfl sc_change_in (fun _ _ _ _ _ _ us hl => match us, hl with | [_, _], _ => rfl) len hbody
theorem g_fixed (T : Txt P K mg) : mg "fixed" = some (.ref (He.ga K "fixed")) := T.glo _ (T.fa 29)
theorem sc_fixed : FnScope n_fixed p_fixed (defScope s_fixed) := ⟨rfl, rfl, rfl, by decide +kernel, rfl, by decide +kernel, by decide +kernel⟩
theorem c_fixed (T : Txt P K mg) {k : Nat} {sp : Sp} (len : ∀ vs H Q E, sp vs H Q E → vs.length = 1) (hbody : ∀ (cdv : Value) (A : Around) (outer : List Env) (s : Shared) (H : Hp) (vs : List V) (Q : VK) (E : XK), Room k (A.deeper (envOfC "fixed" (defScope s_fixed) s.heap.objs.size (He.ga K "fixed") cdv)) → sp vs H Q E →
      ∃ t, PSs (cxOf CX0 P w K mg base n_fixed "fixed" (defScope s_fixed) (He.ga K "fixed") cdv A outer s H E).nox (defBody s_fixed) t ∧ t { nx := fun _ H' => Q .non H', rt := Q } (start n_fixed vs) H) : Cal P w K mg base (k + 1) "fixed" sp [] :=
  cal_of (d := d_fixed) T 30 rfl (g_fixed T) rfl rfl rfl sc_fixed (fun _ _ _ _ _ _ us hl => match us, hl with | [_], _ => rfl) len hbody
theorem sc_Paper_init : FnScope n_Paper_init p_Paper_init (defScope s_Paper_init) := ⟨rfl, rfl, rfl, by decide +kernel, rfl, by decide +kernel, by decide +kernel⟩
theorem g_signed (T : Txt P K mg) : mg "signed" = some (.ref (He.ga K "signed")) := T.glo _ (T.fa 30)
theorem sc_signed : FnScope n_signed p_signed (defScope s_signed) := ⟨rfl, rfl, rfl, by decide +kernel, rfl, by decide +kernel, by decide +kernel⟩
theorem c_signed (T : Txt P K mg) {k : Nat} {sp : Sp} (len : ∀ vs H Q E, sp vs H Q E → vs.length = 2) (hbody : ∀ (cdv : Value) (A : Around) (outer : List Env) (s : Shared) (H : Hp) (vs : List V) (Q : VK) (E : XK), Room k (A.deeper (envOfC "signed" (defScope s_signed) s.heap.objs.size (He.ga K "signed") cdv)) → sp vs H Q E →
      ∃ t, PSs (cxOf CX0 P w K mg base n_signed "signed" (defScope s_signed) (He.ga K "signed") cdv A outer s H E).nox (defBody s_signed) t ∧ t { nx := fun _ H' => Q .non H', rt := Q } (start n_signed vs) H) : Cal P w K mg base (k + 1) "signed" sp [] :=
  cal_of (d := d_signed) T 32 rfl (g_signed T) rfl rfl rfl sc_signed (fun _ _ _ _ _ _ us hl => match us, hl with | [_, _], _ => rfl) len hbody
theorem g_more_of (T : Txt P K mg) : mg "more_of" = some (.ref (He.ga K "more_of")) := T.glo _ (T.fa 31)
theorem sc_more_of : FnScope n_more_of p_more_of (defScope s_more_of) := ⟨rfl, rfl, rfl, by decide +kernel, rfl, by decide +kernel, by decide +kernel⟩
theorem c_more_of (T : Txt P K mg) {k : Nat} {sp : Sp} (len : ∀ vs H Q E, sp vs H Q E → vs.length = 2) (hbody : ∀ (cdv : Value) (A : Around) (outer : List Env) (s : Shared) (H : Hp) (vs : List V) (Q : VK) (E : XK), Room k (A.deeper (envOfC "more_of" (defScope s_more_of) s.heap.objs.size (He.ga K "more_of") cdv)) → sp vs H Q E →
      ∃ t, PSs (cxOf CX0 P w K mg base n_more_of "more_of" (defScope s_more_of) (He.ga K "more_of") cdv A outer s H E).nox (defBody s_more_of) t ∧ t { nx := fun _ H' => Q .non H', rt := Q } (start n_more_of vs) H) : Cal P w K mg base (k + 1) "more_of" sp [] :=
  cal_of (d := d_more_of) T 33 rfl (g_more_of T) rfl rfl rfl sc_more_of (fun _ _ _ _ _ _ us hl => match us, hl with | [_, _], _ => rfl) len hbody
theorem g_with_pick (T : Txt P K mg) : mg "with_pick" = some (.ref (He.ga K "with_pick")) := T.glo _ (T.fa 32)
theorem sc_with_pick : FnScope n_with_pick p_with_pick (defScope s_with_pick) := ⟨rfl, rfl, rfl, by decide +kernel, rfl, by decide +kernel, by decide +kernel⟩
theorem c_with_pick (T : Txt P K mg) {k : Nat} {sp : Sp} (len : ∀ vs H Q E, sp vs H Q E → vs.length = 3) (hbody : ∀ (cdv : Value) (A : Around) (outer : List Env) (s : Shared) (H : Hp) (vs : List V) (Q : VK) (E : XK), Room k (A.deeper (envOfC "with_pick" (defScope s_with_pick) s.heap.objs.size (He.ga K "with_pick") cdv)) → sp vs H Q E →
      ∃ t, PSs (cxOf CX0 P w K mg base n_with_pick "with_pick" (defScope s_with_pick) (He.ga K "with_pick") cdv A outer s H E).nox (defBody s_with_pick) t ∧ t { nx := fun _ H' => Q .non H', rt := Q } (start n_with_pick vs) H) : Cal P w K mg base (k + 1) "with_pick" sp [] :=
  cal_of (d := d_with_pick) T 34 rfl (g_with_pick T) rfl rfl rfl sc_with_pick (fun _ _ _ _ _ _ us hl => match us, hl with | [_, _, _], _ => rfl) len hbody
theorem g_best_turns (T : Txt P K mg) : mg "best_turns" = some (.ref (He.ga K "best_turns")) := T.glo _ (T.fa 33)
theorem sc_best_turns : FnScope n_best_turns p_best_turns (defScope s_best_turns) := ⟨rfl, rfl, rfl, by decide +kernel, rfl, by decide +kernel, by decide +kernel⟩
theorem c_best_turns (T : Txt P K mg) {k : Nat} {sp : Sp} (len : ∀ vs H Q E, sp vs H Q E → vs.length = 1) (hbody : ∀ (cdv : Value) (A : Around) (outer : List Env) (s : Shared) (H : Hp) (vs : List V) (Q : VK) (E : XK), Room k (A.deeper (envOfC "best_turns" (defScope s_best_turns) s.heap.objs.size (He.ga K "best_turns") cdv)) → sp vs H Q E →
      ∃ t, PSs (cxOf CX0 P w K mg base n_best_turns "best_turns" (defScope s_best_turns) (He.ga K "best_turns") cdv A outer s H E).nox (defBody s_best_turns) t ∧ t { nx := fun _ H' => Q .non H', rt := Q } (start n_best_turns vs) H) : Cal P w K mg base (k + 1) "best_turns" sp [] :=
  cal_of (d := d_best_turns) T 35 rfl (g_best_turns T) rfl rfl rfl sc_best_turns (fun _ _ _ _ _ _ us hl => match us, hl with | [_], _ => rfl) len hbody
theorem g_greatest_from (T : Txt P K mg) : mg "greatest_from" = some (.ref (He.ga K "greatest_from")) := T.glo _ (T.fa 34)
theorem sc_greatest_from : FnScope n_greatest_from p_greatest_from (defScope s_greatest_from) := ⟨rfl, rfl, rfl, by decide +kernel, rfl, by decide +kernel, by decide +kernel⟩
theorem c_greatest_from (T : Txt P K mg) {k : Nat} {sp : Sp} (len : ∀ vs H Q E, sp vs H Q E → vs.length = 2) (hbody : ∀ (cdv : Value) (A : Around) (outer : List Env) (s : Shared) (H : Hp) (vs : List V) (Q : VK) (E : XK), Room k (A.deeper (envOfC "greatest_from" (defScope s_greatest_from) s.heap.objs.size (He.ga K "greatest_from") cdv)) → sp vs H Q E →
      ∃ t, PSs (cxOf CX0 P w K mg base n_greatest_from "greatest_from" (defScope s_greatest_from) (He.ga K "greatest_from") cdv A outer s H E).nox (defBody s_greatest_from) t ∧ t { nx := fun _ H' => Q .non H', rt := Q } (start n_greatest_from vs) H) : Cal P w K mg base (k + 1) "greatest_from" sp [] :=
  cal_of (d := d_greatest_from) T 36 rfl (g_greatest_from T) rfl rfl rfl sc_greatest_from (fun _ _ _ _ _ _ us hl => match us, hl with | [_, _], _ => rfl) len hbody
theorem g_between (T : Txt P K mg) : mg "between" = some (.ref (He.ga K "between")) := T.glo _ (T.fa 35)
theorem sc_between : FnScope n_between p_between (defScope s_between) := ⟨rfl, rfl, rfl, by decide +kernel, rfl, by decide +kernel, by decide +kernel⟩
theorem c_between (T : Txt P K mg) {k : Nat} {sp : Sp} (len : ∀ vs H Q E, sp vs H Q E → vs.length = 2) (hbody : ∀ (cdv : Value) (A : Around) (outer : List Env) (s : Shared) (H : Hp) (vs : List V) (Q : VK) (E : XK), Room k (A.deeper (envOfC "between" (defScope s_between) s.heap.objs.size (He.ga K "between") cdv)) → sp vs H Q E →
      ∃ t, PSs (cxOf CX0 P w K mg base n_between "between" (defScope s_between) (He.ga K "between") cdv A outer s H E).nox (defBody s_between) t ∧ t { nx := fun _ H' => Q .non H', rt := Q } (start n_between vs) H) : Cal P w K mg base (k + 1) "between" sp [] :=
  cal_of (d := d_between) T 37 rfl (g_between T) rfl rfl rfl sc_between (fun _ _ _ _ _ _ us hl => match us, hl with | [_, _], _ => rfl) len hbody
theorem g_spots_changes (T : Txt P K mg) : mg "spots_changes" = some (.ref (He.ga K "spots_changes")) := T.glo _ (T.fa 36)
theorem sc_spots_changes : FnScope n_spots_changes p_spots_changes (defScope s_spots_changes) := ⟨rfl, rfl, rfl, by decide +kernel, rfl, by decide +kernel, by decide +kernel⟩
theorem c_spots_changes (T : Txt P K mg) {k : Nat} {sp : Sp} (len : ∀ vs H Q E, sp vs H Q E → vs.length = 1) (hbody : ∀ (cdv : Value) (A : Around) (outer : List Env) (s : Shared) (H : Hp) (vs : List V) (Q : VK) (E : XK), Room k (A.deeper (envOfC "spots_changes" (defScope s_spots_changes) s.heap.objs.size (He.ga K "spots_changes") cdv)) → sp vs H Q E →
      ∃ t, PSs (cxOf CX0 P w K mg base n_spots_changes "spots_changes" (defScope s_spots_changes) (He.ga K "spots_changes") cdv A outer s H E).nox (defBody s_spots_changes) t ∧ t { nx := fun _ H' => Q .non H', rt := Q } (start n_spots_changes vs) H) : Cal P w K mg base (k + 1) "spots_changes" sp [] :=
  cal_of (d := d_spots_changes) T 38 rfl (g_spots_changes T) rfl rfl rfl sc_spots_changes (fun _ _ _ _ _ _ us hl => match us, hl with | [_], _ => rfl) len hbody
theorem g_reach_in (T : Txt P K mg) : mg "reach_in" = some (.ref (He.ga K "reach_in")) := T.glo _ (T.fa 37)
theorem sc_reach_in : FnScope n_reach_in p_reach_in (defScope s_reach_in) := ⟨rfl, rfl, rfl, by decide +kernel, rfl, by decide +kernel, by decide +kernel⟩
theorem c_reach_in (T : Txt P K mg) {k : Nat} {sp : Sp} (len : ∀ vs H Q E, sp vs H Q E → vs.length = 1) (hbody : ∀ (cdv : Value) (A : Around) (outer : List Env) (s : Shared) (H : Hp) (vs : List V) (Q : VK) (E : XK), Room k (A.deeper (envOfC "reach_in" (defScope s_reach_in) s.heap.objs.size (He.ga K "reach_in") cdv)) → sp vs H Q E →
      ∃ t, PSs (cxOf CX0 P w K mg base n_reach_in "reach_in" (defScope s_reach_in) (He.ga K "reach_in") cdv A outer s H E).nox (defBody s_reach_in) t ∧ t { nx := fun _ H' => Q .non H', rt := Q } (start n_reach_in vs) H) : Cal P w K mg base (k + 1) "reach_in" sp [] :=
  cal_of (d := d_reach_in) T 39 rfl (g_reach_in T) rfl rfl rfl sc_reach_in (fun _ _ _ _ _ _ us hl => match us, hl with | [_], _ => rfl) len hbody
theorem g_reach_of (T : Txt P K mg) : mg "reach_of" = some (.ref (He.ga K "reach_of")) := T.glo _ (T.fa 38)
theorem sc_reach_of : FnScope n_reach_of p_reach_of (defScope s_reach_of) := ⟨rfl, rfl, rfl, by decide +kernel, rfl, by decide +kernel, by decide +kernel⟩
theorem c_reach_of (T : Txt P K mg) {k : Nat} {sp : Sp} (len : ∀ vs H Q E, sp vs H Q E → vs.length = 1) (hbody : ∀ (cdv : Value) (A : Around) (outer : List Env) (s : Shared) (H : Hp) (vs : List V) (Q : VK) (E : XK), Room k (A.deeper (envOfC "reach_of" (defScope s_reach_of) s.heap.objs.size (He.ga K "reach_of") cdv)) → sp vs H Q E →
      ∃ t, PSs (cxOf CX0 P w K mg base n_reach_of "reach_of" (defScope s_reach_of) (He.ga K "reach_of") cdv A outer s H E).nox (defBody s_reach_of) t ∧ t { nx := fun _ H' => Q .non H', rt := Q } (start n_reach_of vs) H) : Cal P w K mg base (k + 1) "reach_of" sp [] :=
  cal_of (d := d_reach_of) T 40 rfl (g_reach_of T) rfl rfl rfl sc_reach_of (fun _ _ _ _ _ _ us hl => match us, hl with | [_], _ => rfl) len hbody
theorem g_reach_by (T : Txt P K mg) : mg "reach_by" = some (.ref (He.ga K "reach_by")) := T.glo _ (T.fa 39)
theorem sc_reach_by : FnScope n_reach_by p_reach_by (defScope s_reach_by) := ⟨rfl, rfl, rfl, by decide +kernel, rfl, by decide +kernel, by decide +kernel⟩
theorem c_reach_by (T : Txt P K mg) {k : Nat} {sp : Sp} (len : ∀ vs H Q E, sp vs H Q E → vs.length = 2) (hbody : ∀ (cdv : Value) (A : Around) (outer : List Env) (s : Shared) (H : Hp) (vs : List V) (Q : VK) (E : XK), Room k (A.deeper (envOfC "reach_by" (defScope s_reach_by) s.heap.objs.size (He.ga K "reach_by") cdv)) → sp vs H Q E →
      ∃ t, PSs (cxOf CX0 P w K mg base n_reach_by "reach_by" (defScope s_reach_by) (He.ga K "reach_by") cdv A outer s H E).nox (defBody s_reach_by) t ∧ t { nx := fun _ H' => Q .non H', rt := Q } (start n_reach_by vs) H) : Cal P w K mg base (k + 1) "reach_by" sp [] :=
  cal_of (d := d_reach_by) T 41 rfl (g_reach_by T) rfl rfl rfl sc_reach_by (fun _ _ _ _ _ _ us hl => match us, hl with | [_, _], _ => rfl) len hbody
theorem sc_Line_init : FnScope n_Line_init p_Line_init (defScope s_Line_init) := ⟨rfl, rfl, rfl, by decide +kernel, rfl, by decide +kernel, by decide +kernel⟩
theorem c_Line_init (T : Txt P K mg) {k : Nat} {sp : Sp} (len : ∀ vs H Q E, sp vs H Q E → vs.length = 3) (hbody : ∀ (cdv : Value) (A : Around) (outer : List Env) (s : Shared) (H : Hp) (vs : List V) (Q : VK) (E : XK), Room k (A.deeper (envOfC "Line.__init__" (defScope s_Line_init) s.heap.objs.size (He.ma K (He.ga K "Line") "__init__") cdv)) → sp vs H Q E →
      ∃ t, PSs (cxOf CX0 P w K mg base n_Line_init "Line.__init__" (defScope s_Line_init) (He.ma K (He.ga K "Line") "__init__") cdv A outer s H E).nox (defBody s_Line_init) t ∧ t { nx := fun _ H' => Q .non H', rt := Q } (start n_Line_init vs) H) : Mak P w K mg base (k + 1) "Line" (He.ga K "Line") sp [] :=
  mak_of (d := d_Line_init) T 42 rfl (T.glo _ (T.fa 76)) (He.mkr_ok (T.fa 114)) rfl rfl rfl sc_Line_init (fun _ _ _ _ _ _ us hl => match us, hl with | [_, _, _], _ => rfl) len hbody
theorem sc_Line_heap_at : FnScope n_Line_heap_at p_Line_heap_at (defScope s_Line_heap_at) := ⟨rfl, rfl, rfl, by decide +kernel, rfl, by decide +kernel, by decide +kernel⟩
theorem c_Line_heap_at (T : Txt P K mg) {k : Nat} {sp : Sp} (len : ∀ vs H Q E, sp vs H Q E → vs.length = 2) (hbody : ∀ (cdv : Value) (A : Around) (outer : List Env) (s : Shared) (H : Hp) (vs : List V) (Q : VK) (E : XK), Room k (A.deeper (envOfC "Line.heap_at" (defScope s_Line_heap_at) s.heap.objs.size (He.ma K (He.ga K "Line") "heap_at") cdv)) → sp vs H Q E →
      ∃ t, PSs (cxOf CX0 P w K mg base n_Line_heap_at "Line.heap_at" (defScope s_Line_heap_at) (He.ma K (He.ga K "Line") "heap_at") cdv A outer s H E).nox (defBody s_Line_heap_at) t ∧ t { nx := fun _ H' => Q .non H', rt := Q } (start n_Line_heap_at vs) H) : Met P w K mg base (k + 1) (He.ga K "Line") "heap_at" sp [] :=
  met_of (d := d_Line_heap_at) T 43 rfl (He.cls_ok (T.fa 113)) (He.meth_ok (T.fa 117)) rfl rfl rfl sc_Line_heap_at (fun _ _ _ _ _ _ us hl => match us, hl with | [_, _], _ => rfl) len hbody
theorem sc_Line_advance : FnScope n_Line_advance p_Line_advance (defScope s_Line_advance) := ⟨rfl, rfl, rfl, by decide +kernel, rfl, by decide +kernel, by decide +kernel⟩
theorem c_Line_advance (T : Txt P K mg) {k : Nat} {sp : Sp} (len : ∀ vs H Q E, sp vs H Q E → vs.length = 1) (hbody : ∀ (cdv : Value) (A : Around) (outer : List Env) (s : Shared) (H : Hp) (vs : List V) (Q : VK) (E : XK), Room k (A.deeper (envOfC "Line.advance" (defScope s_Line_advance) s.heap.objs.size (He.ma K (He.ga K "Line") "advance") cdv)) → sp vs H Q E →
      ∃ t, PSs (cxOf CX0 P w K mg base n_Line_advance "Line.advance" (defScope s_Line_advance) (He.ma K (He.ga K "Line") "advance") cdv A outer s H E).nox (defBody s_Line_advance) t ∧ t { nx := fun _ H' => Q .non H', rt := Q } (start n_Line_advance vs) H) : Met P w K mg base (k + 1) (He.ga K "Line") "advance" sp [] :=
  met_of (d := d_Line_advance) T 44 rfl (He.cls_ok (T.fa 113)) (He.meth_ok (T.fa 118)) rfl rfl rfl sc_Line_advance (fun _ _ _ _ _ _ us hl => match us, hl with | [_], _ => rfl) len hbody
theorem sc_Line_forward : FnScope n_Line_forward p_Line_forward (defScope s_Line_forward) := ⟨rfl, rfl, rfl, by decide +kernel, rfl, by decide +kernel, by decide +kernel⟩
theorem c_Line_forward (T : Txt P K mg) {k : Nat} {sp : Sp} (len : ∀ vs H Q E, sp vs H Q E → vs.length = 2) (hbody : ∀ (cdv : Value) (A : Around) (outer : List Env) (s : Shared) (H : Hp) (vs : List V) (Q : VK) (E : XK), Room k (A.deeper (envOfC "Line.forward" (defScope s_Line_forward) s.heap.objs.size (He.ma K (He.ga K "Line") "forward") cdv)) → sp vs H Q E →
      ∃ t, PSs (cxOf CX0 P w K mg base n_Line_forward "Line.forward" (defScope s_Line_forward) (He.ma K (He.ga K "Line") "forward") cdv A outer s H E).nox (defBody s_Line_forward) t ∧ t { nx := fun _ H' => Q .non H', rt := Q } (start n_Line_forward vs) H) : Met P w K mg base (k + 1) (He.ga K "Line") "forward" sp [] :=
  met_of (d := d_Line_forward) T 45 rfl (He.cls_ok (T.fa 113)) (He.meth_ok (T.fa 119)) rfl rfl rfl sc_Line_forward (fun _ _ _ _ _ _ us hl => match us, hl with | [_, _], _ => rfl) len hbody
theorem g_line_at (T : Txt P K mg) : mg "line_at" = some (.ref (He.ga K "line_at")) := T.glo _ (T.fa 40)
theorem sc_line_at : FnScope n_line_at p_line_at (defScope s_line_at) := ⟨rfl, rfl, rfl, by decide +kernel, rfl, by decide +kernel, by decide +kernel⟩
theorem c_line_at (T : Txt P K mg) {k : Nat} {sp : Sp} (len : ∀ vs H Q E, sp vs H Q E → vs.length = 3) (hbody : ∀ (cdv : Value) (A : Around) (outer : List Env) (s : Shared) (H : Hp) (vs : List V) (Q : VK) (E : XK), Room k (A.deeper (envOfC "line_at" (defScope s_line_at) s.heap.objs.size (He.ga K "line_at") cdv)) → sp vs H Q E →
      ∃ t, PSs (cxOf CX0 P w K mg base n_line_at "line_at" (defScope s_line_at) (He.ga K "line_at") cdv A outer s H E).nox (defBody s_line_at) t ∧ t { nx := fun _ H' => Q .non H', rt := Q } (start n_line_at vs) H) : Cal P w K mg base (k + 1) "line_at" sp [] :=
  cal_of (d := d_line_at) T 46 rfl (g_line_at T) rfl rfl rfl sc_line_at (fun _ _ _ _ _ _ us hl => match us, hl with | [_, _, _], _ => rfl) len hbody
theorem g_sent_on (T : Txt P K mg) : mg "sent_on" = some (.ref (He.ga K "sent_on")) := T.glo _ (T.fa 41)
theorem sc_sent_on : FnScope n_sent_on p_sent_on (defScope s_sent_on) := ⟨rfl, rfl, rfl, by decide +kernel, rfl, by decide +kernel, by decide +kernel⟩
theorem c_sent_on (T : Txt P K mg) {k : Nat} {sp : Sp} (len : ∀ vs H Q E, sp vs H Q E → vs.length = 2) (hbody : ∀ (cdv : Value) (A : Around) (outer : List Env) (s : Shared) (H : Hp) (vs : List V) (Q : VK) (E : XK), Room k (A.deeper (envOfC "sent_on" (defScope s_sent_on) s.heap.objs.size (He.ga K "sent_on") cdv)) → sp vs H Q E →
      ∃ t, PSs (cxOf CX0 P w K mg base n_sent_on "sent_on" (defScope s_sent_on) (He.ga K "sent_on") cdv A outer s H E).nox (defBody s_sent_on) t ∧ t { nx := fun _ H' => Q .non H', rt := Q } (start n_sent_on vs) H) : Cal P w K mg base (k + 1) "sent_on" sp [] :=
  cal_of (d := d_sent_on) T 47 rfl (g_sent_on T) rfl rfl rfl sc_sent_on (fun _ _ _ _ _ _ us hl => match us, hl with | [_, _], _ => rfl) len hbody
theorem g_picks_from (T : Txt P K mg) : mg "picks_from" = some (.ref (He.ga K "picks_from")) := T.glo _ (T.fa 42)
theorem sc_picks_from : FnScope n_picks_from p_picks_from (defScope s_picks_from) := ⟨rfl, rfl, rfl, by decide +kernel, rfl, by decide +kernel, by decide +kernel⟩
theorem c_picks_from (T : Txt P K mg) {k : Nat} {sp : Sp} (len : ∀ vs H Q E, sp vs H Q E → vs.length = 2) (hbody : ∀ (cdv : Value) (A : Around) (outer : List Env) (s : Shared) (H : Hp) (vs : List V) (Q : VK) (E : XK), Room k (A.deeper (envOfC "picks_from" (defScope s_picks_from) s.heap.objs.size (He.ga K "picks_from") cdv)) → sp vs H Q E →
      ∃ t, PSs (cxOf CX0 P w K mg base n_picks_from "picks_from" (defScope s_picks_from) (He.ga K "picks_from") cdv A outer s H E).nox (defBody s_picks_from) t ∧ t { nx := fun _ H' => Q .non H', rt := Q } (start n_picks_from vs) H) : Cal P w K mg base (k + 1) "picks_from" sp [] :=
  cal_of (d := d_picks_from) T 48 rfl (g_picks_from T) rfl rfl rfl sc_picks_from (fun _ _ _ _ _ _ us hl => match us, hl with | [_, _], _ => rfl) len hbody
theorem g_added_wish (T : Txt P K mg) : mg "added_wish" = some (.ref (He.ga K "added_wish")) := T.glo _ (T.fa 43)
theorem sc_added_wish : FnScope n_added_wish p_added_wish (defScope s_added_wish) := ⟨rfl, rfl, rfl, by decide +kernel, rfl, by decide +kernel, by decide +kernel⟩
theorem c_added_wish (T : Txt P K mg) {k : Nat} {sp : Sp} (len : ∀ vs H Q E, sp vs H Q E → vs.length = 4) (hbody : ∀ (cdv : Value) (A : Around) (outer : List Env) (s : Shared) (H : Hp) (vs : List V) (Q : VK) (E : XK), Room k (A.deeper (envOfC "added_wish" (defScope s_added_wish) s.heap.objs.size (He.ga K "added_wish") cdv)) → sp vs H Q E →
      ∃ t, PSs (cxOf CX0 P w K mg base n_added_wish "added_wish" (defScope s_added_wish) (He.ga K "added_wish") cdv A outer s H E).nox (defBody s_added_wish) t ∧ t { nx := fun _ H' => Q .non H', rt := Q } (start n_added_wish vs) H) : Cal P w K mg base (k + 1) "added_wish" sp [] :=
  cal_of (d := d_added_wish) T 49 rfl (g_added_wish T) rfl rfl rfl sc_added_wish (fun _ _ _ _ _ _ us hl => match us, hl with | [_, _, _, _], _ => rfl) len hbody
theorem g_free_wish (T : Txt P K mg) : mg "free_wish" = some (.ref (He.ga K "free_wish")) := T.glo _ (T.fa 44)
theorem sc_free_wish : FnScope n_free_wish p_free_wish (defScope s_free_wish) := ⟨rfl, rfl, rfl, by decide +kernel, rfl, by decide +kernel, by decide +kernel⟩
theorem c_free_wish (T : Txt P K mg) {k : Nat} {sp : Sp} (len : ∀ vs H Q E, sp vs H Q E → vs.length = 1) (hbody : ∀ (cdv : Value) (A : Around) (outer : List Env) (s : Shared) (H : Hp) (vs : List V) (Q : VK) (E : XK), Room k (A.deeper (envOfC "free_wish" (defScope s_free_wish) s.heap.objs.size (He.ga K "free_wish") cdv)) → sp vs H Q E →
      ∃ t, PSs (cxOf CX0 P w K mg base n_free_wish "free_wish" (defScope s_free_wish) (He.ga K "free_wish") cdv A outer s H E).nox (defBody s_free_wish) t ∧ t { nx := fun _ H' => Q .non H', rt := Q } (start n_free_wish vs) H) : Cal P w K mg base (k + 1) "free_wish" sp [] :=
  cal_of (d := d_free_wish) T 50 rfl (g_free_wish T) rfl rfl rfl sc_free_wish (fun _ _ _ _ _ _ us hl => match us, hl with | [_], _ => rfl) len hbody
theorem g_wish_by (T : Txt P K mg) : mg "wish_by" = some (.ref (He.ga K "wish_by")) := T.glo _ (T.fa 45)
theorem sc_wish_by : FnScope n_wish_by p_wish_by (defScope s_wish_by) := ⟨rfl, rfl, rfl, by decide +kernel, rfl, by decide +kernel, by decide +kernel⟩
theorem c_wish_by (T : Txt P K mg) {k : Nat} {sp : Sp} (len : ∀ vs H Q E, sp vs H Q E → vs.length = 2) (hbody : ∀ (cdv : Value) (A : Around) (outer : List Env) (s : Shared) (H : Hp) (vs : List V) (Q : VK) (E : XK), Room k (A.deeper (envOfC "wish_by" (defScope s_wish_by) s.heap.objs.size (He.ga K "wish_by") cdv)) → sp vs H Q E →
      ∃ t, PSs (cxOf CX0 P w K mg base n_wish_by "wish_by" (defScope s_wish_by) (He.ga K "wish_by") cdv A outer s H E).nox (defBody s_wish_by) t ∧ t { nx := fun _ H' => Q .non H', rt := Q } (start n_wish_by vs) H) : Cal P w K mg base (k + 1) "wish_by" sp [] :=
  cal_of (d := d_wish_by) T 51 rfl (g_wish_by T) rfl rfl rfl sc_wish_by (fun _ _ _ _ _ _ us hl => match us, hl with | [_, _], _ => rfl) len hbody
theorem g_ends_of (T : Txt P K mg) : mg "ends_of" = some (.ref (He.ga K "ends_of")) := T.glo _ (T.fa 46)
theorem sc_ends_of : FnScope n_ends_of p_ends_of (defScope s_ends_of) := ⟨rfl, rfl, rfl, by decide +kernel, rfl, by decide +kernel, by decide +kernel⟩
theorem c_ends_of (T : Txt P K mg) {k : Nat} {sp : Sp} (len : ∀ vs H Q E, sp vs H Q E → vs.length = 1) (hbody : ∀ (cdv : Value) (A : Around) (outer : List Env) (s : Shared) (H : Hp) (vs : List V) (Q : VK) (E : XK), Room k (A.deeper (envOfC "ends_of" (defScope s_ends_of) s.heap.objs.size (He.ga K "ends_of") cdv)) → sp vs H Q E →
      ∃ t, PSs (cxOf CX0 P w K mg base n_ends_of "ends_of" (defScope s_ends_of) (He.ga K "ends_of") cdv A outer s H E).nox (defBody s_ends_of) t ∧ t { nx := fun _ H' => Q .non H', rt := Q } (start n_ends_of vs) H) : Cal P w K mg base (k + 1) "ends_of" sp [] :=
  cal_of (d := d_ends_of) T 52 rfl (g_ends_of T) rfl rfl rfl sc_ends_of (fun _ _ _ _ _ _ us hl => match us, hl with | [_], _ => rfl) len hbody
theorem g_later_row (T : Txt P K mg) : mg "later_row" = some (.ref (He.ga K "later_row")) := T.glo _ (T.fa 47)
theorem sc_later_row : FnScope n_later_row p_later_row (defScope s_later_row) := ⟨rfl, rfl, rfl, by decide +kernel, rfl, by decide +kernel, by decide +kernel⟩
theorem c_later_row (T : Txt P K mg) {k : Nat} {sp : Sp} (len : ∀ vs H Q E, sp vs H Q E → vs.length = 1) (hbody : ∀ (cdv : Value) (A : Around) (outer : List Env) (s : Shared) (H : Hp) (vs : List V) (Q : VK) (E : XK), Room k (A.deeper (envOfC "later_row" (defScope s_later_row) s.heap.objs.size (He.ga K "later_row") cdv)) → sp vs H Q E →
      ∃ t, PSs (cxOf CX0 P w K mg base n_later_row "later_row" (defScope s_later_row) (He.ga K "later_row") cdv A outer s H E).nox (defBody s_later_row) t ∧ t { nx := fun _ H' => Q .non H', rt := Q } (start n_later_row vs) H) : Cal P w K mg base (k + 1) "later_row" sp [] :=
  cal_of (d := d_later_row) T 53 rfl (g_later_row T) rfl rfl rfl sc_later_row (fun _ _ _ _ _ _ us hl => match us, hl with | [_], _ => rfl) len hbody
theorem g_heaps_for (T : Txt P K mg) : mg "heaps_for" = some (.ref (He.ga K "heaps_for")) := T.glo _ (T.fa 48)
theorem sc_heaps_for : FnScope n_heaps_for p_heaps_for (defScope s_heaps_for) := ⟨rfl, rfl, rfl, by decide +kernel, rfl, by decide +kernel, by decide +kernel⟩
theorem c_heaps_for (T : Txt P K mg) {k : Nat} {sp : Sp} (len : ∀ vs H Q E, sp vs H Q E → vs.length = 3) (hbody : ∀ (cdv : Value) (A : Around) (outer : List Env) (s : Shared) (H : Hp) (vs : List V) (Q : VK) (E : XK), Room k (A.deeper (envOfC "heaps_for" (defScope s_heaps_for) s.heap.objs.size (He.ga K "heaps_for") cdv)) → sp vs H Q E →
      ∃ t, PSs (cxOf CX0 P w K mg base n_heaps_for "heaps_for" (defScope s_heaps_for) (He.ga K "heaps_for") cdv A outer s H E).nox (defBody s_heaps_for) t ∧ t { nx := fun _ H' => Q .non H', rt := Q } (start n_heaps_for vs) H) : Cal P w K mg base (k + 1) "heaps_for" sp [] :=
  cal_of (d := d_heaps_for) T 54 rfl (g_heaps_for T) rfl rfl rfl sc_heaps_for (fun _ _ _ _ _ _ us hl => match us, hl with | [_, _, _], _ => rfl) len hbody
theorem g_need_near (T : Txt P K mg) : mg "need_near" = some (.ref (He.ga K "need_near")) := T.glo _ (T.fa 49)
theorem sc_need_near : FnScope n_need_near p_need_near (defScope s_need_near) := ⟨rfl, rfl, rfl, by decide +kernel, rfl, by decide +kernel, by decide +kernel⟩
theorem c_need_near (T : Txt P K mg) {k : Nat} {sp : Sp} (len : ∀ vs H Q E, sp vs H Q E → vs.length = 1) (hbody : ∀ (cdv : Value) (A : Around) (outer : List Env) (s : Shared) (H : Hp) (vs : List V) (Q : VK) (E : XK), Room k (A.deeper (envOfC "need_near" (defScope s_need_near) s.heap.objs.size (He.ga K "need_near") cdv)) → sp vs H Q E →
      ∃ t, PSs (cxOf CX0 P w K mg base n_need_near "need_near" (defScope s_need_near) (He.ga K "need_near") cdv A outer s H E).nox (defBody s_need_near) t ∧ t { nx := fun _ H' => Q .non H', rt := Q } (start n_need_near vs) H) : Cal P w K mg base (k + 1) "need_near" sp [] :=
  cal_of (d := d_need_near) T 55 rfl (g_need_near T) rfl rfl rfl sc_need_near (fun _ _ _ _ _ _ us hl => match us, hl with | [_], _ => rfl) len hbody
theorem g_worst_start (T : Txt P K mg) : mg "worst_start" = some (.ref (He.ga K "worst_start")) := T.glo _ (T.fa 50)
theorem sc_worst_start : FnScope n_worst_start p_worst_start (defScope s_worst_start) := ⟨rfl, rfl, rfl, by decide +kernel, rfl, by decide +kernel, by decide +kernel⟩
theorem c_worst_start (T : Txt P K mg) {k : Nat} {sp : Sp} (len : ∀ vs H Q E, sp vs H Q E → vs.length = 1) (hbody : ∀ (cdv : Value) (A : Around) (outer : List Env) (s : Shared) (H : Hp) (vs : List V) (Q : VK) (E : XK), Room k (A.deeper (envOfC "worst_start" (defScope s_worst_start) s.heap.objs.size (He.ga K "worst_start") cdv)) → sp vs H Q E →
      ∃ t, PSs (cxOf CX0 P w K mg base n_worst_start "worst_start" (defScope s_worst_start) (He.ga K "worst_start") cdv A outer s H E).nox (defBody s_worst_start) t ∧ t { nx := fun _ H' => Q .non H', rt := Q } (start n_worst_start vs) H) : Cal P w K mg base (k + 1) "worst_start" sp [] :=
  cal_of (d := d_worst_start) T 56 rfl (g_worst_start T) rfl rfl rfl sc_worst_start (fun _ _ _ _ _ _ us hl => match us, hl with | [_], _ => rfl) len hbody
theorem g_worst_by (T : Txt P K mg) : mg "worst_by" = some (.ref (He.ga K "worst_by")) := T.glo _ (T.fa 51)
theorem sc_worst_by : FnScope n_worst_by p_worst_by (defScope s_worst_by) := ⟨rfl, rfl, rfl, by decide +kernel, rfl, by decide +kernel, by decide +kernel⟩
theorem c_worst_by (T : Txt P K mg) {k : Nat} {sp : Sp} (len : ∀ vs H Q E, sp vs H Q E → vs.length = 2) (hbody : ∀ (cdv : Value) (A : Around) (outer : List Env) (s : Shared) (H : Hp) (vs : List V) (Q : VK) (E : XK), Room k (A.deeper (envOfC "worst_by" (defScope s_worst_by) s.heap.objs.size (He.ga K "worst_by") cdv)) → sp vs H Q E →
      ∃ t, PSs (cxOf CX0 P w K mg base n_worst_by "worst_by" (defScope s_worst_by) (He.ga K "worst_by") cdv A outer s H E).nox (defBody s_worst_by) t ∧ t { nx := fun _ H' => Q .non H', rt := Q } (start n_worst_by vs) H) : Cal P w K mg base (k + 1) "worst_by" sp [] :=
  cal_of (d := d_worst_by) T 57 rfl (g_worst_by T) rfl rfl rfl sc_worst_by (fun _ _ _ _ _ _ us hl => match us, hl with | [_, _], _ => rfl) len hbody
theorem g_choices (T : Txt P K mg) : mg "choices" = some (.ref (He.ga K "choices")) := T.glo _ (T.fa 52)
theorem sc_choices : FnScope n_choices p_choices (defScope s_choices) := ⟨rfl, rfl, rfl, by decide +kernel, rfl, by decide +kernel, by decide +kernel⟩
theorem c_choices (T : Txt P K mg) {k : Nat} {sp : Sp} (len : ∀ vs H Q E, sp vs H Q E → vs.length = 2) (hbody : ∀ (cdv : Value) (A : Around) (outer : List Env) (s : Shared) (H : Hp) (vs : List V) (Q : VK) (E : XK), Room k (A.deeper (envOfC "choices" (defScope s_choices) s.heap.objs.size (He.ga K "choices") cdv)) → sp vs H Q E →
      ∃ t, PSs (cxOf CX0 P w K mg base n_choices "choices" (defScope s_choices) (He.ga K "choices") cdv A outer s H E).nox (defBody s_choices) t ∧ t { nx := fun _ H' => Q .non H', rt := Q } (start n_choices vs) H) : Cal P w K mg base (k + 1) "choices" sp [] :=
  cal_of (d := d_choices) T 58 rfl (g_choices T) rfl rfl rfl sc_choices (fun _ _ _ _ _ _ us hl => match us, hl with | [_, _], _ => rfl) len hbody
theorem g_rows_to (T : Txt P K mg) : mg "rows_to" = some (.ref (He.ga K "rows_to")) := T.glo _ (T.fa 53)
theorem sc_rows_to : FnScope n_rows_to p_rows_to (defScope s_rows_to) := ⟨rfl, rfl, rfl, by decide +kernel, rfl, by decide +kernel, by decide +kernel⟩
theorem c_rows_to (T : Txt P K mg) {k : Nat} {sp : Sp} (len : ∀ vs H Q E, sp vs H Q E → vs.length = 2) (hbody : ∀ (cdv : Value) (A : Around) (outer : List Env) (s : Shared) (H : Hp) (vs : List V) (Q : VK) (E : XK), Room k (A.deeper (envOfC "rows_to" (defScope s_rows_to) s.heap.objs.size (He.ga K "rows_to") cdv)) → sp vs H Q E →
      ∃ t, PSs (cxOf CX0 P w K mg base n_rows_to "rows_to" (defScope s_rows_to) (He.ga K "rows_to") cdv A outer s H E).nox (defBody s_rows_to) t ∧ t { nx := fun _ H' => Q .non H', rt := Q } (start n_rows_to vs) H) : Cal P w K mg base (k + 1) "rows_to" sp [] :=
  cal_of (d := d_rows_to) T 59 rfl (g_rows_to T) rfl rfl rfl sc_rows_to (fun _ _ _ _ _ _ us hl => match us, hl with | [_, _], _ => rfl) len hbody
theorem g_mean_in (T : Txt P K mg) : mg "mean_in" = some (.ref (He.ga K "mean_in")) := T.glo _ (T.fa 54)
theorem sc_mean_in : FnScope n_mean_in p_mean_in (defScope s_mean_in) := ⟨rfl, rfl, rfl, by decide +kernel, rfl, by decide +kernel, by decide +kernel⟩
theorem c_mean_in (T : Txt P K mg) {k : Nat} {sp : Sp} (len : ∀ vs H Q E, sp vs H Q E → vs.length = 3) (hbody : ∀ (cdv : Value) (A : Around) (outer : List Env) (s : Shared) (H : Hp) (vs : List V) (Q : VK) (E : XK), Room k (A.deeper (envOfC "mean_in" (defScope s_mean_in) s.heap.objs.size (He.ga K "mean_in") cdv)) → sp vs H Q E →
      ∃ t, PSs (cxOf CX0 P w K mg base n_mean_in "mean_in" (defScope s_mean_in) (He.ga K "mean_in") cdv A outer s H E).nox (defBody s_mean_in) t ∧ t { nx := fun _ H' => Q .non H', rt := Q } (start n_mean_in vs) H) : Cal P w K mg base (k + 1) "mean_in" sp [] :=
  cal_of (d := d_mean_in) T 60 rfl (g_mean_in T) rfl rfl rfl sc_mean_in (fun _ _ _ _ _ _ us hl => match us, hl with | [_, _, _], _ => rfl) len hbody
theorem g_worth_in (T : Txt P K mg) : mg "worth_in" = some (.ref (He.ga K "worth_in")) := T.glo _ (T.fa 55)
theorem sc_worth_in : FnScope n_worth_in p_worth_in (defScope s_worth_in) := ⟨rfl, rfl, rfl, by decide +kernel, rfl, by decide +kernel, by decide +kernel⟩
theorem c_worth_in (T : Txt P K mg) {k : Nat} {sp : Sp} (len : ∀ vs H Q E, sp vs H Q E → vs.length = 3) (hbody : ∀ (cdv : Value) (A : Around) (outer : List Env) (s : Shared) (H : Hp) (vs : List V) (Q : VK) (E : XK), Room k (A.deeper (envOfC "worth_in" (defScope s_worth_in) s.heap.objs.size (He.ga K "worth_in") cdv)) → sp vs H Q E →
      ∃ t, PSs (cxOf CX0 P w K mg base n_worth_in "worth_in" (defScope s_worth_in) (He.ga K "worth_in") cdv A outer s H E).nox (defBody s_worth_in) t ∧ t { nx := fun _ H' => Q .non H', rt := Q } (start n_worth_in vs) H) : Cal P w K mg base (k + 1) "worth_in" sp [] :=
  cal_of (d := d_worth_in) T 61 rfl (g_worth_in T) rfl rfl rfl sc_worth_in (fun _ _ _ _ _ _ us hl => match us, hl with | [_, _, _], _ => rfl) len hbody
theorem g_mean_of_look (T : Txt P K mg) : mg "mean_of_look" = some (.ref (He.ga K "mean_of_look")) := T.glo _ (T.fa 56)
theorem sc_mean_of_look : FnScope n_mean_of_look p_mean_of_look (defScope s_mean_of_look) := ⟨rfl, rfl, rfl, by decide +kernel, rfl, by decide +kernel, by decide +kernel⟩
theorem c_mean_of_look (T : Txt P K mg) {k : Nat} {sp : Sp} (len : ∀ vs H Q E, sp vs H Q E → vs.length = 2) (hbody : ∀ (cdv : Value) (A : Around) (outer : List Env) (s : Shared) (H : Hp) (vs : List V) (Q : VK) (E : XK), Room k (A.deeper (envOfC "mean_of_look" (defScope s_mean_of_look) s.heap.objs.size (He.ga K "mean_of_look") cdv)) → sp vs H Q E →
      ∃ t, PSs (cxOf CX0 P w K mg base n_mean_of_look "mean_of_look" (defScope s_mean_of_look) (He.ga K "mean_of_look") cdv A outer s H E).nox (defBody s_mean_of_look) t ∧ t { nx := fun _ H' => Q .non H', rt := Q } (start n_mean_of_look vs) H) : Cal P w K mg base (k + 1) "mean_of_look" sp [] :=
  cal_of (d := d_mean_of_look) T 62 rfl (g_mean_of_look T) rfl rfl rfl sc_mean_of_look (fun _ _ _ _ _ _ us hl => match us, hl with | [_, _], _ => rfl) len hbody
theorem g_need_fit (T : Txt P K mg) : mg "need_fit" = some (.ref (He.ga K "need_fit")) := T.glo _ (T.fa 57)
theorem sc_need_fit : FnScope n_need_fit p_need_fit (defScope s_need_fit) := ⟨rfl, rfl, rfl, by decide +kernel, rfl, by decide +kernel, by decide +kernel⟩
theorem c_need_fit (T : Txt P K mg) {k : Nat} {sp : Sp} (len : ∀ vs H Q E, sp vs H Q E → vs.length = 2) (hbody : ∀ (cdv : Value) (A : Around) (outer : List Env) (s : Shared) (H : Hp) (vs : List V) (Q : VK) (E : XK), Room k (A.deeper (envOfC "need_fit" (defScope s_need_fit) s.heap.objs.size (He.ga K "need_fit") cdv)) → sp vs H Q E →
      ∃ t, PSs (cxOf CX0 P w K mg base n_need_fit "need_fit" (defScope s_need_fit) (He.ga K "need_fit") cdv A outer s H E).nox (defBody s_need_fit) t ∧ t { nx := fun _ H' => Q .non H', rt := Q } (start n_need_fit vs) H) : Cal P w K mg base (k + 1) "need_fit" sp [] :=
  cal_of (d := d_need_fit) T 63 rfl (g_need_fit T) rfl rfl rfl sc_need_fit (fun _ _ _ _ _ _ us hl => match us, hl with | [_, _], _ => rfl) len hbody
theorem g_look_gap (T : Txt P K mg) : mg "look_gap" = some (.ref (He.ga K "look_gap")) := T.glo _ (T.fa 58)
theorem sc_look_gap : FnScope n_look_gap p_look_gap (defScope s_look_gap) := ⟨rfl, rfl, rfl, by decide +kernel, rfl, by decide +kernel, by decide +kernel⟩
theorem c_look_gap (T : Txt P K mg) {k : Nat} {sp : Sp} (len : ∀ vs H Q E, sp vs H Q E → vs.length = 3) (hbody : ∀ (cdv : Value) (A : Around) (outer : List Env) (s : Shared) (H : Hp) (vs : List V) (Q : VK) (E : XK), Room k (A.deeper (envOfC "look_gap" (defScope s_look_gap) s.heap.objs.size (He.ga K "look_gap") cdv)) → sp vs H Q E →
      ∃ t, PSs (cxOf CX0 P w K mg base n_look_gap "look_gap" (defScope s_look_gap) (He.ga K "look_gap") cdv A outer s H E).nox (defBody s_look_gap) t ∧ t { nx := fun _ H' => Q .non H', rt := Q } (start n_look_gap vs) H) : Cal P w K mg base (k + 1) "look_gap" sp [] :=
  cal_of (d := d_look_gap) T 64 rfl (g_look_gap T) rfl rfl rfl sc_look_gap (fun _ _ _ _ _ _ us hl => match us, hl with | [_, _, _], _ => rfl) len hbody
theorem g_is_start (T : Txt P K mg) : mg "is_start" = some (.ref (He.ga K "is_start")) := T.glo _ (T.fa 59)
theorem sc_is_start : FnScope n_is_start p_is_start (defScope s_is_start) := ⟨rfl, rfl, rfl, by decide +kernel, rfl, by decide +kernel, by decide +kernel⟩
theorem c_is_start (T : Txt P K mg) {k : Nat} {sp : Sp} (len : ∀ vs H Q E, sp vs H Q E → vs.length = 3) (hbody : ∀ (cdv : Value) (A : Around) (outer : List Env) (s : Shared) (H : Hp) (vs : List V) (Q : VK) (E : XK), Room k (A.deeper (envOfC "is_start" (defScope s_is_start) s.heap.objs.size (He.ga K "is_start") cdv)) → sp vs H Q E →
      ∃ t, PSs (cxOf CX0 P w K mg base n_is_start "is_start" (defScope s_is_start) (He.ga K "is_start") cdv A outer s H E).nox (defBody s_is_start) t ∧ t { nx := fun _ H' => Q .non H', rt := Q } (start n_is_start vs) H) : Cal P w K mg base (k + 1) "is_start" sp [] :=
  cal_of (d := d_is_start) T 65 rfl (g_is_start T) rfl rfl rfl sc_is_start (fun _ _ _ _ _ _ us hl => match us, hl with | [_, _, _], _ => rfl) len hbody
theorem g_shows_worst (T : Txt P K mg) : mg "shows_worst" = some (.ref (He.ga K "shows_worst")) := T.glo _ (T.fa 60)
theorem sc_shows_worst : FnScope n_shows_worst p_shows_worst (defScope s_shows_worst) := ⟨rfl, rfl, rfl, by decide +kernel, rfl, by decide +kernel, by decide +kernel⟩
theorem c_shows_worst (T : Txt P K mg) {k : Nat} {sp : Sp} (len : ∀ vs H Q E, sp vs H Q E → vs.length = 2) (hbody : ∀ (cdv : Value) (A : Around) (outer : List Env) (s : Shared) (H : Hp) (vs : List V) (Q : VK) (E : XK), Room k (A.deeper (envOfC "shows_worst" (defScope s_shows_worst) s.heap.objs.size (He.ga K "shows_worst") cdv)) → sp vs H Q E →
      ∃ t, PSs (cxOf CX0 P w K mg base n_shows_worst "shows_worst" (defScope s_shows_worst) (He.ga K "shows_worst") cdv A outer s H E).nox (defBody s_shows_worst) t ∧ t { nx := fun _ H' => Q .non H', rt := Q } (start n_shows_worst vs) H) : Cal P w K mg base (k + 1) "shows_worst" sp [] :=
  cal_of (d := d_shows_worst) T 66 rfl (g_shows_worst T) rfl rfl rfl sc_shows_worst (fun _ _ _ _ _ _ us hl => match us, hl with | [_, _], _ => rfl) len hbody
theorem g_L_horizon (T : Txt P K mg) : mg "_law_horizon" = some (.ref (He.ga K "_law_horizon")) := T.glo _ (T.fa 61)
theorem sc_L_horizon : FnScope n_L_horizon p_L_horizon (defScope s_L_horizon) := ⟨rfl, rfl, rfl, by decide +kernel, rfl, by decide +kernel, by decide +kernel⟩
theorem c_L_horizon (T : Txt P K mg) {k : Nat} {sp : Sp} (len : ∀ vs H Q E, sp vs H Q E → vs.length = 1) (hbody : ∀ (cdv : Value) (A : Around) (outer : List Env) (s : Shared) (H : Hp) (vs : List V) (Q : VK) (E : XK), Room k (A.deeper (envOfC "_law_horizon" (defScope s_L_horizon) s.heap.objs.size (He.ga K "_law_horizon") cdv)) → sp vs H Q E →
      ∃ t, PSs (cxOf CX0 P w K mg base n_L_horizon "_law_horizon" (defScope s_L_horizon) (He.ga K "_law_horizon") cdv A outer s H E).nox (defBody s_L_horizon) t ∧ t { nx := fun _ H' => Q .non H', rt := Q } (start n_L_horizon vs) H) : Cal P w K mg base (k + 1) "_law_horizon" sp [] :=
  cal_of (d := d_L_horizon) T 67 rfl (g_L_horizon T) rfl rfl rfl sc_L_horizon (fun _ _ _ _ _ _ us hl => match us, hl with | [_], _ => rfl) len hbody
theorem g_L_mile (T : Txt P K mg) : mg "_law_mile" = some (.ref (He.ga K "_law_mile")) := T.glo _ (T.fa 62)
theorem sc_L_mile : FnScope n_L_mile p_L_mile (defScope s_L_mile) := ⟨rfl, rfl, rfl, by decide +kernel, rfl, by decide +kernel, by decide +kernel⟩
theorem c_L_mile (T : Txt P K mg) {k : Nat} {sp : Sp} (len : ∀ vs H Q E, sp vs H Q E → vs.length = 2) (hbody : ∀ (cdv : Value) (A : Around) (outer : List Env) (s : Shared) (H : Hp) (vs : List V) (Q : VK) (E : XK), Room k (A.deeper (envOfC "_law_mile" (defScope s_L_mile) s.heap.objs.size (He.ga K "_law_mile") cdv)) → sp vs H Q E →
      ∃ t, PSs (cxOf CX0 P w K mg base n_L_mile "_law_mile" (defScope s_L_mile) (He.ga K "_law_mile") cdv A outer s H E).nox (defBody s_L_mile) t ∧ t { nx := fun _ H' => Q .non H', rt := Q } (start n_L_mile vs) H) : Cal P w K mg base (k + 1) "_law_mile" sp [] :=
  cal_of (d := d_L_mile) T 68 rfl (g_L_mile T) rfl rfl rfl sc_L_mile (fun _ _ _ _ _ _ us hl => match us, hl with | [_, _], _ => rfl) len hbody
theorem g_L_one (T : Txt P K mg) : mg "_law_one" = some (.ref (He.ga K "_law_one")) := T.glo _ (T.fa 63)
theorem sc_L_one : FnScope n_L_one p_L_one (defScope s_L_one) := ⟨rfl, rfl, rfl, by decide +kernel, rfl, by decide +kernel, by decide +kernel⟩
theorem c_L_one (T : Txt P K mg) {k : Nat} {sp : Sp} (len : ∀ vs H Q E, sp vs H Q E → vs.length = 2) (hbody : ∀ (cdv : Value) (A : Around) (outer : List Env) (s : Shared) (H : Hp) (vs : List V) (Q : VK) (E : XK), Room k (A.deeper (envOfC "_law_one" (defScope s_L_one) s.heap.objs.size (He.ga K "_law_one") cdv)) → sp vs H Q E →
      ∃ t, PSs (cxOf CX0 P w K mg base n_L_one "_law_one" (defScope s_L_one) (He.ga K "_law_one") cdv A outer s H E).nox (defBody s_L_one) t ∧ t { nx := fun _ H' => Q .non H', rt := Q } (start n_L_one vs) H) : Cal P w K mg base (k + 1) "_law_one" sp [] :=
  cal_of (d := d_L_one) T 69 rfl (g_L_one T) rfl rfl rfl sc_L_one (fun _ _ _ _ _ _ us hl => match us, hl with | [_, _], _ => rfl) len hbody
theorem g_L_rows (T : Txt P K mg) : mg "_law_rows" = some (.ref (He.ga K "_law_rows")) := T.glo _ (T.fa 64)
theorem sc_L_rows : FnScope n_L_rows p_L_rows (defScope s_L_rows) := ⟨rfl, rfl, rfl, by decide +kernel, rfl, by decide +kernel, by decide +kernel⟩
theorem c_L_rows (T : Txt P K mg) {k : Nat} {sp : Sp} (len : ∀ vs H Q E, sp vs H Q E → vs.length = 3) (hbody : ∀ (cdv : Value) (A : Around) (outer : List Env) (s : Shared) (H : Hp) (vs : List V) (Q : VK) (E : XK), Room k (A.deeper (envOfC "_law_rows" (defScope s_L_rows) s.heap.objs.size (He.ga K "_law_rows") cdv)) → sp vs H Q E →
      ∃ t, PSs (cxOf CX0 P w K mg base n_L_rows "_law_rows" (defScope s_L_rows) (He.ga K "_law_rows") cdv A outer s H E).nox (defBody s_L_rows) t ∧ t { nx := fun _ H' => Q .non H', rt := Q } (start n_L_rows vs) H) : Cal P w K mg base (k + 1) "_law_rows" sp [] :=
  cal_of (d := d_L_rows) T 70 rfl (g_L_rows T) rfl rfl rfl sc_L_rows (fun _ _ _ _ _ _ us hl => match us, hl with | [_, _, _], _ => rfl) len hbody
theorem g_L_paths (T : Txt P K mg) : mg "_law_paths" = some (.ref (He.ga K "_law_paths")) := T.glo _ (T.fa 65)
theorem sc_L_paths : FnScope n_L_paths p_L_paths (defScope s_L_paths) := ⟨rfl, rfl, rfl, by decide +kernel, rfl, by decide +kernel, by decide +kernel⟩
theorem c_L_paths (T : Txt P K mg) {k : Nat} {sp : Sp} (len : ∀ vs H Q E, sp vs H Q E → vs.length = 1) (hbody : ∀ (cdv : Value) (A : Around) (outer : List Env) (s : Shared) (H : Hp) (vs : List V) (Q : VK) (E : XK), Room k (A.deeper (envOfC "_law_paths" (defScope s_L_paths) s.heap.objs.size (He.ga K "_law_paths") cdv)) → sp vs H Q E →
      ∃ t, PSs (cxOf CX0 P w K mg base n_L_paths "_law_paths" (defScope s_L_paths) (He.ga K "_law_paths") cdv A outer s H E).nox (defBody s_L_paths) t ∧ t { nx := fun _ H' => Q .non H', rt := Q } (start n_L_paths vs) H) : Cal P w K mg base (k + 1) "_law_paths" sp [] :=
  cal_of (d := d_L_paths) T 71 rfl (g_L_paths T) rfl rfl rfl sc_L_paths (fun _ _ _ _ _ _ us hl => match us, hl with | [_], _ => rfl) len hbody
theorem g_L_share (T : Txt P K mg) : mg "_law_share" = some (.ref (He.ga K "_law_share")) := T.glo _ (T.fa 66)
theorem sc_L_share : FnScope n_L_share p_L_share (defScope s_L_share) := ⟨rfl, rfl, rfl, by decide +kernel, rfl, by decide +kernel, by decide +kernel⟩
theorem c_L_share (T : Txt P K mg) {k : Nat} {sp : Sp} (len : ∀ vs H Q E, sp vs H Q E → vs.length = 3) (hbody : ∀ (cdv : Value) (A : Around) (outer : List Env) (s : Shared) (H : Hp) (vs : List V) (Q : VK) (E : XK), Room k (A.deeper (envOfC "_law_share" (defScope s_L_share) s.heap.objs.size (He.ga K "_law_share") cdv)) → sp vs H Q E →
      ∃ t, PSs (cxOf CX0 P w K mg base n_L_share "_law_share" (defScope s_L_share) (He.ga K "_law_share") cdv A outer s H E).nox (defBody s_L_share) t ∧ t { nx := fun _ H' => Q .non H', rt := Q } (start n_L_share vs) H) : Cal P w K mg base (k + 1) "_law_share" sp [] :=
  cal_of (d := d_L_share) T 72 rfl (g_L_share T) rfl rfl rfl sc_L_share (fun _ _ _ _ _ _ us hl => match us, hl with | [_, _, _], _ => rfl) len hbody
theorem g_L_changes (T : Txt P K mg) : mg "_law_changes" = some (.ref (He.ga K "_law_changes")) := T.glo _ (T.fa 67)
theorem sc_L_changes : FnScope n_L_changes p_L_changes (defScope s_L_changes) := ⟨rfl, rfl, rfl, by decide +kernel, rfl, by decide +kernel, by decide +kernel⟩
theorem c_L_changes (T : Txt P K mg) {k : Nat} {sp : Sp} (len : ∀ vs H Q E, sp vs H Q E → vs.length = 2) (hbody : ∀ (cdv : Value) (A : Around) (outer : List Env) (s : Shared) (H : Hp) (vs : List V) (Q : VK) (E : XK), Room k (A.deeper (envOfC "_law_changes" (defScope s_L_changes) s.heap.objs.size (He.ga K "_law_changes") cdv)) → sp vs H Q E →
      ∃ t, PSs (cxOf CX0 P w K mg base n_L_changes "_law_changes" (defScope s_L_changes) (He.ga K "_law_changes") cdv A outer s H E).nox (defBody s_L_changes) t ∧ t { nx := fun _ H' => Q .non H', rt := Q } (start n_L_changes vs) H) : Cal P w K mg base (k + 1) "_law_changes" sp [] :=
  cal_of (d := d_L_changes) T 73 rfl (g_L_changes T) rfl rfl rfl sc_L_changes (fun _ _ _ _ _ _ us hl => match us, hl with | [_, _], _ => rfl) len hbody
theorem g_L_greatest (T : Txt P K mg) : mg "_law_greatest" = some (.ref (He.ga K "_law_greatest")) := T.glo _ (T.fa 68)
theorem sc_L_greatest : FnScope n_L_greatest p_L_greatest (defScope s_L_greatest) := ⟨rfl, rfl, rfl, by decide +kernel, rfl, by decide +kernel, by decide +kernel⟩
theorem c_L_greatest (T : Txt P K mg) {k : Nat} {sp : Sp} (len : ∀ vs H Q E, sp vs H Q E → vs.length = 1) (hbody : ∀ (cdv : Value) (A : Around) (outer : List Env) (s : Shared) (H : Hp) (vs : List V) (Q : VK) (E : XK), Room k (A.deeper (envOfC "_law_greatest" (defScope s_L_greatest) s.heap.objs.size (He.ga K "_law_greatest") cdv)) → sp vs H Q E →
      ∃ t, PSs (cxOf CX0 P w K mg base n_L_greatest "_law_greatest" (defScope s_L_greatest) (He.ga K "_law_greatest") cdv A outer s H E).nox (defBody s_L_greatest) t ∧ t { nx := fun _ H' => Q .non H', rt := Q } (start n_L_greatest vs) H) : Cal P w K mg base (k + 1) "_law_greatest" sp [] :=
  cal_of (d := d_L_greatest) T 74 rfl (g_L_greatest T) rfl rfl rfl sc_L_greatest (fun _ _ _ _ _ _ us hl => match us, hl with | [_], _ => rfl) len hbody
theorem g_L_sent (T : Txt P K mg) : mg "_law_sent" = some (.ref (He.ga K "_law_sent")) := T.glo _ (T.fa 69)
theorem sc_L_sent : FnScope n_L_sent p_L_sent (defScope s_L_sent) := ⟨rfl, rfl, rfl, by decide +kernel, rfl, by decide +kernel, by decide +kernel⟩
theorem c_L_sent (T : Txt P K mg) {k : Nat} {sp : Sp} (len : ∀ vs H Q E, sp vs H Q E → vs.length = 2) (hbody : ∀ (cdv : Value) (A : Around) (outer : List Env) (s : Shared) (H : Hp) (vs : List V) (Q : VK) (E : XK), Room k (A.deeper (envOfC "_law_sent" (defScope s_L_sent) s.heap.objs.size (He.ga K "_law_sent") cdv)) → sp vs H Q E →
      ∃ t, PSs (cxOf CX0 P w K mg base n_L_sent "_law_sent" (defScope s_L_sent) (He.ga K "_law_sent") cdv A outer s H E).nox (defBody s_L_sent) t ∧ t { nx := fun _ H' => Q .non H', rt := Q } (start n_L_sent vs) H) : Cal P w K mg base (k + 1) "_law_sent" sp [] :=
  cal_of (d := d_L_sent) T 75 rfl (g_L_sent T) rfl rfl rfl sc_L_sent (fun _ _ _ _ _ _ us hl => match us, hl with | [_, _], _ => rfl) len hbody
theorem g_L_gap (T : Txt P K mg) : mg "_law_gap" = some (.ref (He.ga K "_law_gap")) := T.glo _ (T.fa 70)
theorem sc_L_gap : FnScope n_L_gap p_L_gap (defScope s_L_gap) := ⟨rfl, rfl, rfl, by decide +kernel, rfl, by decide +kernel, by decide +kernel⟩
theorem c_L_gap (T : Txt P K mg) {k : Nat} {sp : Sp} (len : ∀ vs H Q E, sp vs H Q E → vs.length = 4) (hbody : ∀ (cdv : Value) (A : Around) (outer : List Env) (s : Shared) (H : Hp) (vs : List V) (Q : VK) (E : XK), Room k (A.deeper (envOfC "_law_gap" (defScope s_L_gap) s.heap.objs.size (He.ga K "_law_gap") cdv)) → sp vs H Q E →
      ∃ t, PSs (cxOf CX0 P w K mg base n_L_gap "_law_gap" (defScope s_L_gap) (He.ga K "_law_gap") cdv A outer s H E).nox (defBody s_L_gap) t ∧ t { nx := fun _ H' => Q .non H', rt := Q } (start n_L_gap vs) H) : Cal P w K mg base (k + 1) "_law_gap" sp [] :=
  cal_of (d := d_L_gap) T 76 rfl (g_L_gap T) rfl rfl rfl sc_L_gap (fun _ _ _ _ _ _ us hl => match us, hl with | [_, _, _, _], _ => rfl) len hbody
theorem g_L_is_within (T : Txt P K mg) : mg "_law_is_within" = some (.ref (He.ga K "_law_is_within")) := T.glo _ (T.fa 71)
theorem sc_L_is_within : FnScope n_L_is_within p_L_is_within (defScope s_L_is_within) := ⟨rfl, rfl, rfl, by decide +kernel, rfl, by decide +kernel, by decide +kernel⟩
theorem c_L_is_within (T : Txt P K mg) {k : Nat} {sp : Sp} (len : ∀ vs H Q E, sp vs H Q E → vs.length = 4) (hbody : ∀ (cdv : Value) (A : Around) (outer : List Env) (s : Shared) (H : Hp) (vs : List V) (Q : VK) (E : XK), Room k (A.deeper (envOfC "_law_is_within" (defScope s_L_is_within) s.heap.objs.size (He.ga K "_law_is_within") cdv)) → sp vs H Q E →
      ∃ t, PSs (cxOf CX0 P w K mg base n_L_is_within "_law_is_within" (defScope s_L_is_within) (He.ga K "_law_is_within") cdv A outer s H E).nox (defBody s_L_is_within) t ∧ t { nx := fun _ H' => Q .non H', rt := Q } (start n_L_is_within vs) H) : Cal P w K mg base (k + 1) "_law_is_within" sp [] :=
  cal_of (d := d_L_is_within) T 77 rfl (g_L_is_within T) rfl rfl rfl sc_L_is_within (fun _ _ _ _ _ _ us hl => match us, hl with | [_, _, _, _], _ => rfl) len hbody
theorem g_L_start (T : Txt P K mg) : mg "_law_start" = some (.ref (He.ga K "_law_start")) := T.glo _ (T.fa 72)
theorem sc_L_start : FnScope n_L_start p_L_start (defScope s_L_start) := ⟨rfl, rfl, rfl, by decide +kernel, rfl, by decide +kernel, by decide +kernel⟩
theorem c_L_start (T : Txt P K mg) {k : Nat} {sp : Sp} (len : ∀ vs H Q E, sp vs H Q E → vs.length = 2) (hbody : ∀ (cdv : Value) (A : Around) (outer : List Env) (s : Shared) (H : Hp) (vs : List V) (Q : VK) (E : XK), Room k (A.deeper (envOfC "_law_start" (defScope s_L_start) s.heap.objs.size (He.ga K "_law_start") cdv)) → sp vs H Q E →
      ∃ t, PSs (cxOf CX0 P w K mg base n_L_start "_law_start" (defScope s_L_start) (He.ga K "_law_start") cdv A outer s H E).nox (defBody s_L_start) t ∧ t { nx := fun _ H' => Q .non H', rt := Q } (start n_L_start vs) H) : Cal P w K mg base (k + 1) "_law_start" sp [] :=
  cal_of (d := d_L_start) T 78 rfl (g_L_start T) rfl rfl rfl sc_L_start (fun _ _ _ _ _ _ us hl => match us, hl with | [_, _], _ => rfl) len hbody
theorem g_L_added (T : Txt P K mg) : mg "_law_added" = some (.ref (He.ga K "_law_added")) := T.glo _ (T.fa 73)
theorem sc_L_added : FnScope n_L_added p_L_added (defScope s_L_added) := ⟨rfl, rfl, rfl, by decide +kernel, rfl, by decide +kernel, by decide +kernel⟩
theorem c_L_added (T : Txt P K mg) {k : Nat} {sp : Sp} (len : ∀ vs H Q E, sp vs H Q E → vs.length = 4) (hbody : ∀ (cdv : Value) (A : Around) (outer : List Env) (s : Shared) (H : Hp) (vs : List V) (Q : VK) (E : XK), Room k (A.deeper (envOfC "_law_added" (defScope s_L_added) s.heap.objs.size (He.ga K "_law_added") cdv)) → sp vs H Q E →
      ∃ t, PSs (cxOf CX0 P w K mg base n_L_added "_law_added" (defScope s_L_added) (He.ga K "_law_added") cdv A outer s H E).nox (defBody s_L_added) t ∧ t { nx := fun _ H' => Q .non H', rt := Q } (start n_L_added vs) H) : Cal P w K mg base (k + 1) "_law_added" sp [] :=
  cal_of (d := d_L_added) T 79 rfl (g_L_added T) rfl rfl rfl sc_L_added (fun _ _ _ _ _ _ us hl => match us, hl with | [_, _, _, _], _ => rfl) len hbody
theorem g_law (T : Txt P K mg) : mg "law" = some (.ref (He.ga K "law")) := T.glo _ (T.fa 74)
theorem sc_law : FnScope n_law p_law (defScope s_law) := ⟨rfl, rfl, rfl, by decide +kernel, rfl, by decide +kernel, by decide +kernel⟩
theorem c_law (T : Txt P K mg) {k : Nat} {sp : Sp} (len : ∀ vs H Q E, sp vs H Q E → vs.length = 1) (hbody : ∀ (cdv : Value) (A : Around) (outer : List Env) (s : Shared) (H : Hp) (vs : List V) (Q : VK) (E : XK), Room k (A.deeper (envOfC "law" (defScope s_law) s.heap.objs.size (He.ga K "law") cdv)) → sp vs H Q E →
      ∃ t, PSs (cxOf CX0 P w K mg base n_law "law" (defScope s_law) (He.ga K "law") cdv A outer s H E).nox (defBody s_law) t ∧ t { nx := fun _ H' => Q .non H', rt := Q } (start n_law vs) H) : Cal P w K mg base (k + 1) "law" sp [] :=
  cal_of (d := d_law) T 80 rfl (g_law T) rfl rfl rfl sc_law (fun _ _ _ _ _ _ us hl => match us, hl with | [_], _ => rfl) len hbody
theorem g_Look (T : Txt P K mg) : mg "Look" = some (.ref (He.ga K "Look")) := T.glo _ (T.fa 75)
theorem g_Line (T : Txt P K mg) : mg "Line" = some (.ref (He.ga K "Line")) := T.glo _ (T.fa 76)
theorem g_Worst (T : Txt P K mg) : mg "Worst" = some (.ref (He.ga K "Worst")) := T.glo _ (T.fa 77)
theorem g_BadNumber (T : Txt P K mg) : mg "BadNumber" = some (.ref (He.ga K "BadNumber")) := T.glo _ (T.fa 78)
theorem g_NOUGHT (T : Txt P K mg) : mg "NOUGHT" = some (.ref (He.ga K "NOUGHT")) := T.glo _ (T.fa 79)
theorem g_Paper (T : Txt P K mg) : mg "Paper" = some (.ref (He.ga K "Paper")) := T.glo _ (T.fa 80)
theorem z_isinstance (T : Txt P K mg) : mg "isinstance" = none := T.free _ (T.fa 81)
theorem z_int (T : Txt P K mg) : mg "int" = none := T.free _ (T.fa 82)
theorem z_bool (T : Txt P K mg) : mg "bool" = none := T.free _ (T.fa 83)
theorem z_len (T : Txt P K mg) : mg "len" = none := T.free _ (T.fa 84)
theorem z_all (T : Txt P K mg) : mg "all" = none := T.free _ (T.fa 85)
theorem z_tuple (T : Txt P K mg) : mg "tuple" = none := T.free _ (T.fa 86)
theorem z_sorted (T : Txt P K mg) : mg "sorted" = none := T.free _ (T.fa 87)
theorem z_set (T : Txt P K mg) : mg "set" = none := T.free _ (T.fa 88)
theorem z_range (T : Txt P K mg) : mg "range" = none := T.free _ (T.fa 89)
theorem z_enumerate (T : Txt P K mg) : mg "enumerate" = none := T.free _ (T.fa 90)
theorem z_zip (T : Txt P K mg) : mg "zip" = none := T.free _ (T.fa 91)
theorem z_dict (T : Txt P K mg) : mg "dict" = none := T.free _ (T.fa 92)
theorem z_min (T : Txt P K mg) : mg "min" = none := T.free _ (T.fa 93)
theorem z_max (T : Txt P K mg) : mg "max" = none := T.free _ (T.fa 94)
theorem z_sum (T : Txt P K mg) : mg "sum" = none := T.free _ (T.fa 95)
theorem z_abs (T : Txt P K mg) : mg "abs" = none := T.free _ (T.fa 96)
theorem z_repr (T : Txt P K mg) : mg "repr" = none := T.free _ (T.fa 97)
theorem z_list (T : Txt P K mg) : mg "list" = none := T.free _ (T.fa 98)
theorem z_super (T : Txt P K mg) : mg "super" = none := T.free _ (T.fa 99)
theorem i_MOST_HEAPS (T : Txt P K mg) : ∃ t, mg "MOST_HEAPS" = some (.int 60 t) := T.int _ _ (T.fa 100)
theorem i_MOST_LEFTS (T : Txt P K mg) : ∃ t, mg "MOST_LEFTS" = some (.int 400 t) := T.int _ _ (T.fa 101)
theorem i_FARTHEST (T : Txt P K mg) : ∃ t, mg "FARTHEST" = some (.int 1000000 t) := T.int _ _ (T.fa 102)
theorem i_MOST_CHIPS (T : Txt P K mg) : ∃ t, mg "MOST_CHIPS" = some (.int 1000000000000000000000000000000000000000000000000000000000000 t) := T.int _ _ (T.fa 103)
theorem i_MOST_FIGURES (T : Txt P K mg) : ∃ t, mg "MOST_FIGURES" = some (.int 140 t) := T.int _ _ (T.fa 104)
theorem i_MOST_ROWS (T : Txt P K mg) : ∃ t, mg "MOST_ROWS" = some (.int 40 t) := T.int _ _ (T.fa 105)
theorem i_MOST_TICK (T : Txt P K mg) : ∃ t, mg "MOST_TICK" = some (.int 60 t) := T.int _ _ (T.fa 106)
theorem i_MOST_WEIGHT (T : Txt P K mg) : ∃ t, mg "MOST_WEIGHT" = some (.int 1000000 t) := T.int _ _ (T.fa 107)
theorem i_FARTHEST_FIRST (T : Txt P K mg) : ∃ t, mg "FARTHEST_FIRST" = some (.int 999900 t) := T.int _ _ (T.fa 108)
theorem i_MOST_TICKS (T : Txt P K mg) : ∃ t, mg "MOST_TICKS" = some (.int 200 t) := T.int _ _ (T.fa 109)
theorem i_MOST_WIDE (T : Txt P K mg) : ∃ t, mg "MOST_WIDE" = some (.int 118 t) := T.int _ _ (T.fa 110)
theorem cl_Look (T : Txt P K mg) : Cls K (He.ga K "Look") := He.cls_ok (T.fa 111)
theorem cl_Line (T : Txt P K mg) : Cls K (He.ga K "Line") := He.cls_ok (T.fa 113)
theorem cl_Worst (T : Txt P K mg) : Cls K (He.ga K "Worst") := He.cls_ok (T.fa 115)
theorem no_Look_rows (T : Txt P K mg) : NoAttr K (He.ga K "Look") "rows" := He.noat_ok (T.fa 120)
theorem no_Look_last (T : Txt P K mg) : NoAttr K (He.ga K "Look") "last" := He.noat_ok (T.fa 121)
theorem no_Look_colour (T : Txt P K mg) : NoAttr K (He.ga K "Look") "colour" := He.noat_ok (T.fa 122)
theorem no_Line_tick (T : Txt P K mg) : NoAttr K (He.ga K "Line") "tick" := He.noat_ok (T.fa 123)
theorem no_Line_heaps (T : Txt P K mg) : NoAttr K (He.ga K "Line") "heaps" := He.noat_ok (T.fa 124)
theorem no_Line_lefts (T : Txt P K mg) : NoAttr K (He.ga K "Line") "lefts" := He.noat_ok (T.fa 125)
theorem no_Worst_word (T : Txt P K mg) : NoAttr K (He.ga K "Worst") "word" := He.noat_ok (T.fa 126)
theorem no_Worst_parts (T : Txt P K mg) : NoAttr K (He.ga K "Worst") "parts" := He.noat_ok (T.fa 127)
theorem no_Worst_heaps (T : Txt P K mg) : NoAttr K (He.ga K "Worst") "heaps" := He.noat_ok (T.fa 128)
theorem no_Worst_lefts (T : Txt P K mg) : NoAttr K (He.ga K "Worst") "lefts" := He.noat_ok (T.fa 129)
theorem mk_Worst (T : Txt P K mg) : Mk K (He.ga K "Worst") (He.ma K (He.ga K "Worst") "__init__") := He.mkr_ok (T.fa 116)
theorem def_Paper_init (T : Txt P K mg) : ∃ fd, L2.FunD K "__init__" "Paper.__init__" (defArgs s_Paper_init) (defBody s_Paper_init) (defScope s_Paper_init) [] [] (He.ma K (He.ga K "Paper") "__init__") fd := T.says.def_ (d := d_Paper_init) 31 rfl
end
end K86
end
section
set_option Elab.async false
set_option linter.all false
set_option maxRecDepth 100000
set_option maxHeartbeats 0
namespace K86
open PySem PySem.Spec PyProof.Rows L2
def gcdB (K : PySem.W.Frag) : Bool := match PySem.W.nsIn K mainGlobals "gcd" with
  | some (some (.builtin b)) => decide (b = "math.gcd")
  | _ => false
/-- Worst.__init__ says super(): its closure holds the cell of its class -/
abbrev FnC : Type := Option (Str × Str × Arguments × FuncBody × Scope × Addr × Value × Addr)
def wAd (K : PySem.W.Frag) : Addr := He.ma K (He.ga K "Worst") "__init__"
def wFn (K : PySem.W.Frag) : FnC := match K.lookup (wAd K) with
  | some ⟨_, _, .func fd, _⟩ => some (fd.name, fd.qualname, fd.params, fd.body, fd.scope, fd.globals, fd.defaults, fd.builtins)
  | _ => none
def wVal : FnC := some ("__init__", "Worst.__init__", defArgs s_Worst_init, .stmts (defBody s_Worst_init), defScope s_Worst_init, mainGlobals, .none, builtinsNs)
def pAd (K : PySem.W.Frag) : Addr := He.ma K (He.ga K "Paper") "__init__"
def wFile : Str := PySem.Challenge.pw_nodice_k86_whole_no_start_beyond_a_reach.main.file
/-- the cell of its closure, its code -/
def wCellB (K : PySem.W.Frag) : Bool := match K.lookup (wAd K) with
  | some ⟨_, _, .func fd, _⟩ => (match fd.closure with
    | [(x, c)] => decide (x = "__class__") && (match K.lookup c with
      | some ⟨_, _, .cell (some (.ref a)), _⟩ => Nat.beq a (He.ga K "Worst")
      | _ => false)
    | _ => false) && (PySem.W.codeIn K fd.code "Worst.__init__" && (match fd.code with
      | .ref c => (match K.lookup c with
        | some ⟨_, _, .fields vs, _⟩ => (match (vs[2]? : Option Value) with
          | some (.str f _) => decide (f = wFile)
          | _ => false)
        | _ => false)
      | _ => false))
  | _ => false
def upB (K : PySem.W.Frag) : Bool :=
  (match PySem.W.clsIn K (He.ga K "Worst") with
    | some _ => true
    | none => false) && (decide (PySem.W.mroIn K (He.ga K "Worst") (.ref (He.ga K "Worst")) = some true) && (He.eqO (PySem.W.ks_superIn K (He.ga K "Worst") (He.ga K "Worst") "__init__") (some (some (.ref (pAd K)))) &&
      (He.eqO (PySem.W.nsIn K cStatics "thirdparty.any") (some none) && (PySem.W.fnIn K (pAd K) && (match PySem.W.typeIn K (.ref (pAd K)) with
        | some (.type n) => decide (n = "function")
        | _ => false)))))
/-- isinstance(x, C) of an instance of C -/
def insB (K : PySem.W.Frag) (x : Str) : Bool :=
  He.eqO (PySem.W.findIn K (.ref (He.ga K x)) "__class__") (some (some (.builtin "object.__class__"))) && (decide (PySem.W.mroIn K (He.ga K x) (.type "object") = some true) && decide (PySem.W.kitOne K (.ref (He.ga K x)) (.ref (He.ga K x)) = some true))
def exB (K : PySem.W.Frag) : Bool := gcdB K && (He.tupB K "NOUGHT" [.int 0, .int 1] && (wCellB K && (upB K && (insB K "Look" && insB K "Worst"))))
abbrev R : PySem.W.OpenRow := PySem.W.OpenLaw.row PySem.Challenge.rw_nodice_k86_whole_no_start_beyond_a_reach
/-! the part of the heap that is looked at: the module's names, functions' code and defaults, classes' own dicts, the methods -/
def valsAt (g : Addr → Option Obj) (a : Addr) : List Addr := match g a with
  | some ⟨_, _, .dict es _, _⟩ => es.toList.flatMap fun e => He.refV e.val
  | _ => []
def codesAt (g : Addr → Option Obj) (a : Addr) : List Addr := match g a with
  | some ⟨_, _, .func fd, _⟩ => He.refV fd.code ++ (He.refV fd.defaults ++ fd.closure.map (·.2))
  | _ => []
def nsAt (g : Addr → Option Obj) (a : Addr) : List Addr := match g a with
  | some ⟨_, _, .cls cd, _⟩ => [cd.ns]
  | _ => []
/-- a list forced, item by item -/
def frA {α : Type} : List Nat → (List Nat → α) → α
  | [], k => k []
  | a :: r, k => HandSHeadRun.frNat a fun a => frA r fun r => k (a :: r)
def frL {α β : Type} : List β → (List β → α) → α
  | [], k => k []
  | (a) :: r, k => frL r fun r => k (a :: r)
theorem frL_eq {α β : Type} : ∀ (l : List β) (k : List β → α), frL l k = k l
  | [], _ => rfl
  | _ :: r, k => frL_eq r _
theorem frA_eq {α : Type} : ∀ (l : List Nat) (k : List Nat → α), frA l k = k l
  | [], _ => rfl
  | a :: r, k => by
    show HandSHeadRun.frNat a _ = _
    rw [HandSHeadRun.frNat_eq]
    exact frA_eq r _
def obsK (fa : List He.Fa) (fn : List He.DefD) (ex : PySem.W.Frag → Bool) (g : Addr → Option Obj) : He.AlD × Bool × FnC :=
  frA (valsAt g mainGlobals) fun l1 => frA (l1.flatMap (codesAt g)) fun l2 => frA (l1.flatMap (nsAt g)) fun l3 => frA (l3.flatMap (valsAt g)) fun l4 => frA (l4.flatMap (codesAt g)) fun l5 =>
    frL (He.frG g (mainGlobals :: cStatics :: (l1 ++ (l3 ++ (l4 ++ (l2 ++ l5)))))) fun K => (He.obsD fa fn K, ex K, wFn K)
theorem obsK_eq {fa : List He.Fa} {fn : List He.DefD} {ex : PySem.W.Frag → Bool} {g : Addr → Option Obj} : ∃ as, obsK fa fn ex g = (He.obsD fa fn (He.frG g as), ex (He.frG g as), wFn (He.frG g as)) := by
  unfold obsK
  simp only [frA_eq, frL_eq]
  exact ⟨_, rfl⟩
def hookK (fa : List He.Fa) (fn : List He.DefD) (ex : PySem.W.Frag → Bool) : PySem.W.Hook where
  α := He.AlD × Bool × FnC
  obs := fun s => obsK fa fn ex s.heap.get?
  val := fun _ => (He.valD fn, true, wVal)
  says := fun _ h => ∃ K : PySem.W.Frag, K.In h ∧ He.SaysD fa fn K ∧ ex K = true ∧ wFn K = wVal
  of := fun w s e => by
    obtain ⟨as, q⟩ := obsK_eq (fa := fa) (fn := fn) (ex := ex) (g := s.heap.get?)
    have e2 : (He.obsD fa fn (He.frG s.heap.get? as), ex (He.frG s.heap.get? as), wFn (He.frG s.heap.get? as)) = (He.valD fn, true, wVal) := q.symm.trans e
    exact ⟨_, He.frG_in, congrArg Prod.fst e2, congrArg (fun z => z.2.1) e2, congrArg (fun z => z.2.2) e2⟩
  keeps := fun _ _ _ ⟨K, hK, c⟩ k => ⟨K, PySem.W.Frag.In.keeps hK k, c⟩
abbrev hk : PySem.W.Hook := hookK facts fns exB
def ob (s : PySem.W.SharedT) : He.AlD × Bool × FnC := obsK facts fns exB (HandSHeadRun.getT s)
theorem ob_eq (s : PySem.W.SharedT) : ob s = hk.obs s.abs := by
  have e : HandSHeadRun.getT s = s.abs.heap.get? := funext (HandSHeadRun.getT_eq s)
  unfold ob
  rw [e] <;> rfl
/-! the whole run, looked at three times: each look is an equation of its own (a declaration's memory) -/
noncomputable def whole (w : World) : Option (Shared × PySem.W.SharedT) := HandSHeadRun.wholeF (fun p => HandSHeadRun.stepQ (HandSHeadRun.denQ HandSHeadRun.tabQ) p w) HandSHeadRun.fenceQ 20000 R.prog
theorem run1 (w : World) : (whole w).map (fun x => HandSHeadRun.looksF R.prog x.1.heap x.2.abs) = some true := by
  kernel_rfl
theorem run2 (w : World) : (whole w).map (fun x => HandSHeadRun.seenQ (PySem.W.view R.prog [0, lawAt]) loose (importedModules R.prog.main.body) (fun s => PySem.W.xlAt (PySem.W.view R.prog [0, lawAt]) [] s && PySem.W.recOk R.toRowW.records s) x.2.abs) = some (PySem.W.openGood (PySem.W.view R.prog [0, lawAt]) loose) := by
  kernel_rfl
theorem run3 (w : World) : (whole w).map (fun x => ob x.2) = some (hk.val w) := by
  kernel_rfl
theorem run (w : World) : HandSHeadRun.RunEqI R (PySem.W.view R.prog [0, lawAt]) hk ob 20000 loose w := by
  obtain ⟨x, h, e1⟩ := Option.map_eq_some_iff.mp (run1 w)
  have e2 := run2 w
  have e3 := run3 w
  rw [h, Option.map_some] at e2 e3
  unfold HandSHeadRun.RunEqI
  show (whole w).map _ = _
  rw [h, Option.map_some, e1, Option.some.inj e2, Option.some.inj e3]
end K86
end
section
set_option autoImplicit false
namespace K86
/-! fractions of a common 2 ^ k -/
def gcdI (u d : Int) : Int := ((Nat.gcd u.natAbs d.natAbs : Nat) : Int)
/-- least_pair for down above 0 -/
def lp (u d : Int) : Int × Int := (u / gcdI u d, d / gcdI u d)
theorem gcdI_pos {u d : Int} (h : 0 < d) : 0 < gcdI u d := by
  unfold gcdI
  have : 0 < Nat.gcd u.natAbs d.natAbs := Nat.gcd_pos_of_pos_right _ (by omega)
  omega
theorem gcdI_dvd_l (u d : Int) : gcdI u d ∣ u := by
  unfold gcdI
  exact Int.dvd_natAbs.mp (Int.natCast_dvd_natCast.mpr (Nat.gcd_dvd_left u.natAbs d.natAbs))
theorem gcdI_dvd_r (u d : Int) : gcdI u d ∣ d := by
  unfold gcdI
  exact Int.dvd_natAbs.mp (Int.natCast_dvd_natCast.mpr (Nat.gcd_dvd_right u.natAbs d.natAbs))
theorem lp_up {u d : Int} : (lp u d).1 * gcdI u d = u := Int.ediv_mul_cancel (gcdI_dvd_l u d)
theorem lp_down {u d : Int} : (lp u d).2 * gcdI u d = d := Int.ediv_mul_cancel (gcdI_dvd_r u d)
theorem lp_pos {u d : Int} (h : 0 < d) : 0 < (lp u d).2 := by
  have g := gcdI_pos (u := u) h
  have e := lp_down (u := u) (d := d)
  refine Int.lt_of_not_ge fun z => ?_
  have : (lp u d).2 * gcdI u d ≤ 0 := Int.mul_nonpos_of_nonpos_of_nonneg z (by omega)
  omega
theorem gcdI_scale {c u d : Int} (hc : 0 < c) : gcdI (c * u) (c * d) = c * gcdI u d := by
  unfold gcdI
  rw [Int.natAbs_mul, Int.natAbs_mul, Nat.gcd_mul_left]
  have : ((c.natAbs : Nat) : Int) = c := by omega
  rw [Int.natCast_mul, this]
theorem lp_scale {c u d : Int} (hc : 0 < c) : lp (c * u) (c * d) = lp u d := by
  unfold lp
  rw [gcdI_scale hc]
  rw [Int.mul_ediv_mul_of_pos _ _ hc, Int.mul_ediv_mul_of_pos _ _ hc]
/-- what is a multiple of both -/
theorem lp_of {u d u' d' c : Int} (hc : 0 < c) (h1 : c * u = u') (h2 : c * d = d') : lp u d = lp u' d' := by
  rw [← h1, ← h2, lp_scale hc]
theorem lp_eq_of_cross {u d u' d' : Int} (hd : 0 < d) (hd' : 0 < d') (h : u * d' = u' * d) : lp u d = lp u' d' := by
  have e1 : lp (d' * u) (d' * d) = lp u d := lp_scale hd'
  have e2 : lp (d * u') (d * d') = lp u' d' := lp_scale hd
  rw [← e1, ← e2, Int.mul_comm d' u, h, Int.mul_comm u' d, Int.mul_comm d' d]
theorem lp_cross {u d u' d' : Int} (hd : 0 < d) (hd' : 0 < d') (h : lp u d = lp u' d') : u * d' = u' * d := by
  have a1 := lp_up (u := u) (d := d)
  have a2 := lp_down (u := u) (d := d)
  have b1 := lp_up (u := u') (d := d')
  have b2 := lp_down (u := u') (d := d')
  rw [h] at a1 a2
  generalize (lp u' d').1 = x at *
  generalize (lp u' d').2 = y at *
  generalize gcdI u d = g at *
  generalize gcdI u' d' = g' at *
  subst a1 a2 b1 b2
  simp only [Int.mul_comm, Int.mul_left_comm]
/-- the fraction n / 2 ^ k -/
def frac (k : Nat) (n : Int) : Int × Int := lp n (2 ^ k)
theorem two_pos (k : Nat) : (0 : Int) < 2 ^ k := Int.pow_pos (by decide)
theorem frac_inj {k : Nat} {n m : Int} (h : frac k n = frac k m) : n = m := by
  have := lp_cross (two_pos k) (two_pos k) h
  exact Int.eq_of_mul_eq_mul_right (Int.ne_of_gt (two_pos k)) this
theorem frac_up (k : Nat) (n : Int) : (frac k n).1 * gcdI n (2 ^ k) = n := lp_up
theorem frac_down (k : Nat) (n : Int) : (frac k n).2 * gcdI n (2 ^ k) = 2 ^ k := lp_down
theorem frac_pos (k : Nat) (n : Int) : 0 < (frac k n).2 := lp_pos (two_pos k)
theorem frac_le (k : Nat) (n : Int) : (frac k n).2 ≤ 2 ^ k := by
  have g := gcdI_pos (u := n) (two_pos k)
  have e := frac_down k n
  have p := frac_pos k n
  have : (frac k n).2 * 1 ≤ (frac k n).2 * gcdI n (2 ^ k) := Int.mul_le_mul_of_nonneg_left (by omega) (by omega)
  omega
theorem lp_abs_le (u d : Int) : (lp u d).1.natAbs ≤ u.natAbs := by
  show (u / gcdI u d).natAbs ≤ _
  obtain ⟨c, hc⟩ := gcdI_dvd_l u d
  by_cases h0 : gcdI u d = 0
  · rw [h0, Int.ediv_zero]
    exact Nat.zero_le _
  · have e : u / gcdI u d = c := Int.ediv_eq_of_eq_mul_right h0 hc
    rw [e]
    have e2 : u.natAbs = (gcdI u d).natAbs * c.natAbs := by
      rw [← Int.natAbs_mul]
      exact congrArg Int.natAbs hc
    rw [e2]
    exact Nat.le_mul_of_pos_left _ (Int.natAbs_pos.mpr h0)
theorem frac_abs (k : Nat) (n : Int) : (frac k n).1.natAbs ≤ n.natAbs := lp_abs_le _ _
/-- the sum of two -/
theorem both_lp {u d u' d' : Int} (hd : 0 < d) (hd' : 0 < d') : lp ((lp u d).1 * (lp u' d').2 + (lp u' d').1 * (lp u d).2) ((lp u d).2 * (lp u' d').2) = lp (u * d' + u' * d) (d * d') := by
  refine lp_of (c := gcdI u d * gcdI u' d') (Int.mul_pos (gcdI_pos hd) (gcdI_pos hd')) ?_ ?_
  · have a1 := lp_up (u := u) (d := d)
    have a2 := lp_down (u := u) (d := d)
    have b1 := lp_up (u := u') (d := d')
    have b2 := lp_down (u := u') (d := d')
    generalize (lp u d).1 = x at *
    generalize (lp u d).2 = y at *
    generalize (lp u' d').1 = z at *
    generalize (lp u' d').2 = w at *
    generalize gcdI u d = g at *
    generalize gcdI u' d' = g' at *
    subst a1 a2 b1 b2
    simp only [Int.mul_add, Int.mul_comm, Int.mul_left_comm]
  · have a2 := lp_down (u := u) (d := d)
    have b2 := lp_down (u := u') (d := d')
    generalize (lp u d).2 = y at *
    generalize (lp u' d').2 = w at *
    generalize gcdI u d = g at *
    generalize gcdI u' d' = g' at *
    subst a2 b2
    simp only [Int.mul_comm, Int.mul_left_comm]
theorem times_lp {u d u' d' : Int} (hd : 0 < d) (hd' : 0 < d') : lp ((lp u d).1 * (lp u' d').1) ((lp u d).2 * (lp u' d').2) = lp (u * u') (d * d') := by
  refine lp_of (c := gcdI u d * gcdI u' d') (Int.mul_pos (gcdI_pos hd) (gcdI_pos hd')) ?_ ?_
  · have a1 := lp_up (u := u) (d := d)
    have b1 := lp_up (u := u') (d := d')
    generalize (lp u d).1 = x at *
    generalize (lp u' d').1 = z at *
    generalize gcdI u d = g at *
    generalize gcdI u' d' = g' at *
    subst a1 b1
    simp only [Int.mul_comm, Int.mul_left_comm]
  · have a2 := lp_down (u := u) (d := d)
    have b2 := lp_down (u := u') (d := d')
    generalize (lp u d).2 = y at *
    generalize (lp u' d').2 = w at *
    generalize gcdI u d = g at *
    generalize gcdI u' d' = g' at *
    subst a2 b2
    simp only [Int.mul_comm, Int.mul_left_comm]
theorem frac_add (k : Nat) (n m : Int) : lp ((frac k n).1 * (frac k m).2 + (frac k m).1 * (frac k n).2) ((frac k n).2 * (frac k m).2) = frac k (n + m) := by
  have h := both_lp (u := n) (u' := m) (two_pos k) (two_pos k)
  refine h.trans ?_
  refine (lp_of (two_pos k) ?_ rfl).symm
  rw [Int.mul_comm, Int.add_mul]
theorem frac_up_scale (k j : Nat) (n : Int) : frac (k + j) (n * 2 ^ j) = frac k n := by
  unfold frac
  refine (lp_of (two_pos j) (Int.mul_comm _ _) ?_).symm
  rw [Int.pow_add, Int.mul_comm]
theorem frac_zero (n : Int) : frac 0 n = (n, 1) := by
  unfold frac lp gcdI
  have : Nat.gcd n.natAbs ((2 : Int) ^ 0).natAbs = 1 := by
    show Nat.gcd n.natAbs 1 = 1
    exact Nat.gcd_one_right _
  rw [this]
  simp
theorem frac_nought (k : Nat) : frac k 0 = (0, 1) := by
  have h := frac_up_scale 0 k 0
  rw [Int.zero_mul, Nat.zero_add] at h
  rw [h, frac_zero]
theorem frac_neg (k : Nat) (n : Int) : frac k (-n) = (-(frac k n).1, (frac k n).2) := by
  unfold frac lp
  have e : gcdI (-n) (2 ^ k) = gcdI n (2 ^ k) := by
    unfold gcdI
    rw [Int.natAbs_neg]
  rw [e]
  rw [Int.neg_ediv_of_dvd (gcdI_dvd_l n _)]
theorem cross4 {x y g h n d : Int} (a : x * g = n) (b : y * h = d) : (x * y) * (g * h) = n * d := by
  subst a b
  simp only [Int.mul_comm, Int.mul_left_comm]
theorem cross3 {x g n d : Int} (a : x * g = n) : (x * d) * g = n * d := by
  subst a
  simp only [Int.mul_comm, Int.mul_left_comm]
theorem frac_lt (k : Nat) (n m : Int) : (frac k n).1 * (frac k m).2 < (frac k m).1 * (frac k n).2 ↔ n < m := by
  have a1 := frac_up k n
  have a2 := frac_down k n
  have b1 := frac_up k m
  have b2 := frac_down k m
  have g1 := gcdI_pos (u := n) (two_pos k)
  have g2 := gcdI_pos (u := m) (two_pos k)
  have tp := two_pos k
  have e1 : ((frac k n).1 * (frac k m).2) * (gcdI n (2 ^ k) * gcdI m (2 ^ k)) = n * 2 ^ k := cross4 a1 b2
  have e2 : ((frac k m).1 * (frac k n).2) * (gcdI n (2 ^ k) * gcdI m (2 ^ k)) = m * 2 ^ k := by
    rw [Int.mul_comm (gcdI n (2 ^ k))]
    exact cross4 b1 a2
  have gp := Int.mul_pos g1 g2
  constructor
  · intro h
    have h2 := Int.mul_lt_mul_of_pos_right h gp
    rw [e1, e2] at h2
    exact Int.lt_of_mul_lt_mul_right h2 (Int.le_of_lt tp)
  · intro h
    have h2 := Int.mul_lt_mul_of_pos_right h tp
    rw [← e1, ← e2] at h2
    exact Int.lt_of_mul_lt_mul_right h2 (Int.le_of_lt gp)
theorem frac_le_iff (k : Nat) (n g : Int) : (frac k n).1 * 2 ^ k ≤ g * (frac k n).2 ↔ n ≤ g := by
  have a1 := frac_up k n
  have a2 := frac_down k n
  have g1 := gcdI_pos (u := n) (two_pos k)
  have tp := two_pos k
  have e1 : ((frac k n).1 * 2 ^ k) * gcdI n (2 ^ k) = n * 2 ^ k := cross3 a1
  have e2 : (g * (frac k n).2) * gcdI n (2 ^ k) = g * 2 ^ k := by
    rw [Int.mul_assoc, a2]
  constructor
  · intro h
    have h2 := Int.mul_le_mul_of_nonneg_right h (Int.le_of_lt g1)
    rw [e1, e2] at h2
    exact Int.le_of_mul_le_mul_right h2 tp
  · intro h
    have h2 := Int.mul_le_mul_of_nonneg_right h (Int.le_of_lt tp)
    rw [← e1, ← e2] at h2
    exact Int.le_of_mul_le_mul_right h2 g1
theorem frac_ge_iff (k : Nat) (n g : Int) : g * (frac k n).2 ≤ (frac k n).1 * 2 ^ k ↔ g ≤ n := by
  have a1 := frac_up k n
  have a2 := frac_down k n
  have g1 := gcdI_pos (u := n) (two_pos k)
  have tp := two_pos k
  have e1 : ((frac k n).1 * 2 ^ k) * gcdI n (2 ^ k) = n * 2 ^ k := cross3 a1
  have e2 : (g * (frac k n).2) * gcdI n (2 ^ k) = g * 2 ^ k := by
    rw [Int.mul_assoc, a2]
  constructor
  · intro h
    have h2 := Int.mul_le_mul_of_nonneg_right h (Int.le_of_lt g1)
    rw [e1, e2] at h2
    exact Int.le_of_mul_le_mul_right h2 tp
  · intro h
    have h2 := Int.mul_le_mul_of_nonneg_right h (Int.le_of_lt tp)
    rw [← e1, ← e2] at h2
    exact Int.le_of_mul_le_mul_right h2 g1
theorem frac_self (k : Nat) (n : Int) : (frac k n).1 * 2 ^ k = n * (frac k n).2 :=
  Int.le_antisymm ((frac_le_iff k n n).mpr (Int.le_refl _)) ((frac_ge_iff k n n).mpr (Int.le_refl _))
end K86
end
section
set_option autoImplicit false
namespace K86
/-! greatest sums by turns: the program's road, forwards -/
abbrev Sm := Int × List Nat
def moreOf (a b : Sm) : Sm := if a.1 < b.1 then b else a
def btStep (s : Sm × Sm) (i : Nat) (c : Int) : Sm × Sm := (moreOf s.1 (s.2.1 + c, s.2.2 ++ [i]), moreOf s.2 (s.1.1 + -c, s.1.2 ++ [i]))
def btN (cs : List Int) : Nat → Sm × Sm
  | 0 => ((0, []), (0, []))
  | i + 1 => btStep (btN cs i) i (cs.getD i 0)
def btEnd (cs : List Int) : Sm := moreOf (btN cs cs.length).1 (btN cs cs.length).2
def btLast (cs : List Int) : Int := if (btN cs cs.length).1.1 < (btN cs cs.length).2.1 then -1 else 1
def btSign (cs : List Int) : Int := if (btEnd cs).2 = [] then 1 else if (btEnd cs).2.length % 2 = 1 then btLast cs else -btLast cs
/-- from a told sign -/
def gfStep (s : Option Int × Int) (own : Int) : Option Int × Int := match s.1 with
  | none => (some (s.2 + own), s.2)
  | some o => (some (if s.2 + own < o then o else s.2 + own), if s.2 < o + -own then o + -own else s.2)
def gfN (sg : Int) (cs : List Int) : Nat → Option Int × Int
  | 0 => (none, 0)
  | i + 1 => gfStep (gfN sg cs i) (sg * cs.getD i 0)
def gfEnd (s : Option Int × Int) : Int := match s.1 with
  | none => s.2
  | some o => if o < s.2 then s.2 else o
def gf (sg : Int) (cs : List Int) : Int := gfEnd (gfN sg cs cs.length)
theorem bt_len (cs : List Int) : ∀ i, (btN cs i).1.2.length ≤ i ∧ (btN cs i).2.2.length ≤ i
  | 0 => ⟨Nat.le_refl _, Nat.le_refl _⟩
  | i + 1 => by
    have h := bt_len cs i
    show (moreOf _ _).2.length ≤ _ ∧ (moreOf _ _).2.length ≤ _
    unfold moreOf
    constructor <;> (split <;> (first | (simp only [List.length_append, List.length_cons, List.length_nil]; omega) | omega))
end K86
end
section
set_option autoImplicit false
namespace K86
/-! sums over all spots -/
def win : List Int := (List.range 60).map fun i : Nat => (i : Int) - 30
def wS (f : Int → Int) : Int := (win.map f).sum
theorem mem_win {y : Int} : y ∈ win ↔ -30 ≤ y ∧ y < 30 := by
  constructor
  · intro h
    obtain ⟨i, hi, rfl⟩ := List.mem_map.mp h
    have := List.mem_range.mp hi
    omega
  · intro h
    exact List.mem_map.mpr ⟨(y + 30).toNat, List.mem_range.mpr (by omega), by omega⟩
theorem nd_win : win.Nodup := by decide
theorem sum_perm {α : Type} {f : α → Int} {l m : List α} (p : l.Perm m) : (l.map f).sum = (m.map f).sum := by
  induction p with
  | nil => rfl
  | cons x _ ih => simp only [List.map_cons, List.sum_cons, ih]
  | swap x y l => simp only [List.map_cons, List.sum_cons]; omega
  | trans _ _ a b => exact a.trans b
theorem sum_app (a b : List Int) : (a ++ b).sum = a.sum + b.sum := by
  induction a with
  | nil => simp
  | cons x r ih => simp only [List.cons_append, List.sum_cons, ih]; omega
theorem sum_zero {α : Type} {f : α → Int} : ∀ {l : List α}, (∀ x ∈ l, f x = 0) → (l.map f).sum = 0
  | [], _ => rfl
  | x :: l, h => by
    rw [List.map_cons, List.sum_cons, h x List.mem_cons_self, sum_zero fun y hy => h y (List.mem_cons_of_mem _ hy)]
    rfl
theorem wS_of {f : Int → Int} {ys : List Int} (hn : ys.Nodup) (hs : ∀ y ∈ ys, -30 ≤ y ∧ y < 30) (h0 : ∀ y, y ∉ ys → f y = 0) : (ys.map f).sum = wS f := by
  have p : win.Perm (ys ++ win.filter fun y => decide (y ∉ ys)) := by
    refine (List.perm_ext_iff_of_nodup nd_win ?_).mpr fun y => ?_
    · rw [List.nodup_append]
      refine ⟨hn, nd_win.filter _, fun a ha b hb e => ?_⟩
      rw [List.mem_filter] at hb
      exact absurd (e ▸ ha) (of_decide_eq_true hb.2)
    · rw [List.mem_append, List.mem_filter]
      constructor
      · intro h
        by_cases c : y ∈ ys
        · exact .inl c
        · exact .inr ⟨h, decide_eq_true c⟩
      · rintro (h | h)
        · exact mem_win.mpr (hs y h)
        · exact h.1
  unfold wS
  rw [sum_perm p, List.map_append, sum_app, sum_zero (l := win.filter _) fun y hy => h0 y (of_decide_eq_true (List.mem_filter.mp hy).2)]
  omega
theorem getD_zero {cs : List Int} (h : ∀ x ∈ cs, x = 0) (i : Nat) : cs.getD i 0 = 0 := by
  rw [List.getD_eq_getElem?_getD]
  cases e : cs[i]? with
  | none => rfl
  | some x => exact h x (List.mem_of_getElem? e)
theorem btN_zero {cs : List Int} (h : ∀ x ∈ cs, x = 0) : ∀ i, (btN cs i).1.1 = 0 ∧ (btN cs i).2.1 = 0
  | 0 => ⟨rfl, rfl⟩
  | i + 1 => by
    have ih := btN_zero h i
    show (moreOf _ (_, _)).1 = 0 ∧ (moreOf _ (_, _)).1 = 0
    rw [getD_zero h]
    unfold moreOf
    constructor
    · split
      · show (btN cs i).2.1 + 0 = 0; omega
      · exact ih.1
    · split
      · show (btN cs i).1.1 + -0 = 0; omega
      · exact ih.2
theorem btEnd_zero {cs : List Int} (h : ∀ x ∈ cs, x = 0) : (btEnd cs).1 = 0 := by
  have ih := btN_zero h cs.length
  unfold btEnd moreOf
  split
  · exact ih.2
  · exact ih.1
theorem btN_none {cs : List Int} (h : ∀ x ∈ cs, x = 0) : ∀ i, (btN cs i).1.2 = [] ∧ (btN cs i).2.2 = []
  | 0 => ⟨rfl, rfl⟩
  | i + 1 => by
    have ih := btN_none h i
    have z := btN_zero h i
    show (moreOf _ (_, _)).2 = [] ∧ (moreOf _ (_, _)).2 = []
    rw [getD_zero h]
    unfold moreOf
    rw [if_neg (by show ¬ (btN cs i).1.1 < (btN cs i).2.1 + 0; omega), if_neg (by show ¬ (btN cs i).2.1 < (btN cs i).1.1 + -0; omega)]
    exact ih
theorem btEnd_none {cs : List Int} (h : ∀ x ∈ cs, x = 0) : (btEnd cs).2 = [] := by
  have z := btN_zero h cs.length
  unfold btEnd moreOf
  rw [if_neg (by omega)]
  exact (btN_none h cs.length).1
theorem btSign_none {cs : List Int} (h : ∀ x ∈ cs, x = 0) : btSign cs = 1 := by
  unfold btSign
  rw [if_pos (btEnd_none h)]
theorem gfN_zero {sg : Int} {cs : List Int} (h : ∀ x ∈ cs, x = 0) : ∀ i, (gfN sg cs i).2 = 0 ∧ ∀ o, (gfN sg cs i).1 = some o → o = 0
  | 0 => ⟨rfl, fun o h => by nomatch h⟩
  | i + 1 => by
    have ih := gfN_zero (sg := sg) h i
    show (gfStep (gfN sg cs i) (sg * cs.getD i 0)).2 = 0 ∧ ∀ o, (gfStep (gfN sg cs i) (sg * cs.getD i 0)).1 = some o → o = 0
    rw [getD_zero h, Int.mul_zero]
    generalize gfN sg cs i = s at ih
    obtain ⟨so, se⟩ := s
    cases so with
    | none =>
      refine ⟨ih.1, fun o e => ?_⟩
      have e2 : se + 0 = o := Option.some.inj e
      have := ih.1
      simp only at this
      omega
    | some v =>
      have h1 : se = 0 := ih.1
      have h2 : v = 0 := ih.2 v rfl
      subst h1 h2
      refine ⟨rfl, fun o e => ?_⟩
      have e2 : (0 : Int) = o := Option.some.inj e
      exact e2.symm
theorem gf_zero {sg : Int} {cs : List Int} (h : ∀ x ∈ cs, x = 0) : gf sg cs = 0 := by
  have ih := gfN_zero (sg := sg) h cs.length
  unfold gf gfEnd
  generalize gfN sg cs cs.length = s at ih
  obtain ⟨so, se⟩ := s
  cases so with
  | none => exact ih.1
  | some v =>
    have h1 : se = 0 := ih.1
    have h2 : v = 0 := ih.2 v rfl
    show (if v < se then se else v) = 0
    rw [h1, h2]
    rfl
end K86
end
section
set_option autoImplicit false
namespace K86
/-! ways of n steps, each one left or right, that end f off -/
def P : Nat → Int → Int
  | 0, f => if f = 0 then 1 else 0
  | n + 1, f => P n (f - 1) + P n (f + 1)
/-- ways that come to f the first time, less those to -f -/
def G (n : Nat) (f : Int) : Int := match n with
  | 0 => 0
  | n + 1 => P n (f - 1) - P n (f + 1)
theorem P_sym : ∀ (n : Nat) (f : Int), P n (-f) = P n f
  | 0, f => by
    unfold P
    by_cases h : f = 0
    · rw [if_pos h, if_pos (by omega)]
    · rw [if_neg h, if_neg (by omega)]
  | n + 1, f => by
    show P n (-f - 1) + P n (-f + 1) = P n (f - 1) + P n (f + 1)
    have e1 : -f - 1 = -(f + 1) := by omega
    have e2 : -f + 1 = -(f - 1) := by omega
    rw [e1, e2, P_sym n, P_sym n, Int.add_comm]
theorem P_far : ∀ (n : Nat) (f : Int), (n : Int) < f → P n f = 0
  | 0, f, h => if_neg (by omega)
  | n + 1, f, h => by
    show P n (f - 1) + P n (f + 1) = 0
    rw [P_far n _ (by omega), P_far n _ (by omega)]
    rfl
theorem P_par : ∀ (n : Nat) (f : Int), (n + f) % 2 = 1 → P n f = 0
  | 0, f, h => if_neg (by omega)
  | n + 1, f, h => by
    show P n (f - 1) + P n (f + 1) = 0
    rw [P_par n _ (by omega), P_par n _ (by omega)]
    rfl
theorem P_nonneg : ∀ (n : Nat) (f : Int), 0 ≤ P n f
  | 0, f => by unfold P; split <;> decide
  | n + 1, f => by
    have h1 := P_nonneg n (f - 1)
    have h2 := P_nonneg n (f + 1)
    show 0 ≤ P n (f - 1) + P n (f + 1)
    omega
theorem P_le : ∀ (n : Nat) (f : Int), P n f ≤ 2 ^ n
  | 0, f => by unfold P; split <;> decide
  | n + 1, f => by
    have h1 := P_le n (f - 1)
    have h2 := P_le n (f + 1)
    show P n (f - 1) + P n (f + 1) ≤ 2 ^ (n + 1)
    rw [Int.pow_succ]
    omega
theorem G_anti (n : Nat) (f : Int) : G n (-f) = -G n f := by
  cases n with
  | zero => rfl
  | succ n =>
    show P n (-f - 1) - P n (-f + 1) = -(P n (f - 1) - P n (f + 1))
    have e1 : -f - 1 = -(f + 1) := by omega
    have e2 : -f + 1 = -(f - 1) := by omega
    rw [e1, e2, P_sym n, P_sym n]
    omega
theorem G_zero (n : Nat) : G n 0 = 0 := by
  have := G_anti n 0
  rw [Int.neg_zero] at this
  omega
theorem G_step (n : Nat) (f : Int) : G (n + 2) f = G (n + 1) (f - 1) + G (n + 1) (f + 1) := by
  show (P n (f - 1 - 1) + P n (f - 1 + 1)) - (P n (f + 1 - 1) + P n (f + 1 + 1)) = (P n (f - 1 - 1) - P n (f - 1 + 1)) + (P n (f + 1 - 1) - P n (f + 1 + 1))
  have e1 : f - 1 + 1 = f := by omega
  have e2 : f + 1 - 1 = f := by omega
  rw [e1, e2]
  omega
theorem G_far (n : Nat) (f : Int) (h : (n : Int) < f) : G n f = 0 := by
  cases n with
  | zero => rfl
  | succ n =>
    show P n (f - 1) - P n (f + 1) = 0
    rw [P_far n _ (by omega), P_far n _ (by omega)]
    rfl
theorem G_par (n : Nat) (f : Int) (h : (n + f) % 2 = 1) : G n f = 0 := by
  cases n with
  | zero => rfl
  | succ n =>
    show P n (f - 1) - P n (f + 1) = 0
    rw [P_par n _ (by omega), P_par n _ (by omega)]
    rfl
theorem G_le (n : Nat) (f : Int) : -(2 ^ n) ≤ G n f ∧ G n f ≤ 2 ^ n := by
  cases n with
  | zero => exact ⟨(by decide : -(2 ^ 0) ≤ (0 : Int)), (by decide : (0 : Int) ≤ 2 ^ 0)⟩
  | succ n =>
    show -(2 ^ (n + 1)) ≤ P n (f - 1) - P n (f + 1) ∧ P n (f - 1) - P n (f + 1) ≤ 2 ^ (n + 1)
    have a := P_nonneg n (f - 1)
    have b := P_nonneg n (f + 1)
    have c := P_le n (f - 1)
    have d := P_le n (f + 1)
    rw [Int.pow_succ]
    omega
/-- the program's table of n -/
def farAt (n i : Nat) : Int := 2 - (n : Int) % 2 + (i : Nat) * 2
def cLk (n k : Nat) : List (Int × Int) := (List.range k).map fun i => (farAt n i, G n (farAt n i))
def cL (n : Nat) : List (Int × Int) := cLk n ((n + 1) / 2)
theorem cLk_succ (n k : Nat) : cLk n (k + 1) = cLk n k ++ [(farAt n k, G n (farAt n k))] := by
  unfold cLk
  rw [List.range_succ, List.map_append]
  rfl
theorem cL_mem {n : Nat} {p : Int × Int} (h : p ∈ cL n) : p.2 = G n p.1 ∧ 0 < p.1 ∧ p.1 ≤ n ∧ (n + p.1) % 2 = 0 := by
  obtain ⟨i, hi, rfl⟩ := List.mem_map.mp h
  have hi2 := List.mem_range.mp hi
  unfold farAt
  refine ⟨rfl, ?_, ?_, ?_⟩ <;> simp only <;> omega
theorem cL_len (n : Nat) : (cL n).length = (n + 1) / 2 := by
  unfold cL cLk
  rw [List.length_map, List.length_range]
/-- one row's changes, as the program lists them -/
def rcOne (place w : Int) (last tick ahead : Nat) (p : Int × Int) : List (Int × Int × Int) :=
  [(place - p.1, (tick : Int), w * p.2 * 2 ^ (last - ahead)), (place + p.1, (tick : Int), -(w * p.2 * 2 ^ (last - ahead)))]
def rcTick (place w : Int) (last e t : Nat) : List (Int × Int × Int) := (cL (e - t)).flatMap (rcOne place w last t (e - t))
def rcN (place w : Int) (last e n : Nat) : List (Int × Int × Int) := (List.range n).flatMap (rcTick place w last e)
theorem rcN_succ (place w : Int) (last e n : Nat) : rcN place w last e (n + 1) = rcN place w last e n ++ rcTick place w last e n := by
  unfold rcN
  rw [List.range_succ, List.flatMap_append, List.flatMap_cons, List.flatMap_nil, List.append_nil]
/-- what a list of changes comes to, by spot and tick -/
def sC (l : List (Int × Int × Int)) (y t : Int) : Int := (l.map fun r => if r.1 = y ∧ r.2.1 = t then r.2.2 else 0).sum
theorem sC_nil (y t : Int) : sC [] y t = 0 := rfl
theorem sum_append (a b : List Int) : (a ++ b).sum = a.sum + b.sum := by
  induction a with
  | nil => simp
  | cons x r ih => simp only [List.cons_append, List.sum_cons, ih]; omega
theorem sC_app (a b : List (Int × Int × Int)) (y t : Int) : sC (a ++ b) y t = sC a y t + sC b y t := by
  unfold sC
  rw [List.map_append, sum_append]
theorem sC_one (r : Int × Int × Int) (y t : Int) : sC [r] y t = if r.1 = y ∧ r.2.1 = t then r.2.2 else 0 := by
  show (if r.1 = y ∧ r.2.1 = t then r.2.2 else 0) + 0 = _
  omega
/-- all the changes of a look's rows -/
def rcRow (last : Nat) (r : Int × Int × Int) : List (Int × Int × Int) := rcN r.1 r.2.2 last r.2.1.toNat r.2.1.toNat
def rcAll (last : Nat) (rs : List (Int × Int × Int)) : List (Int × Int × Int) := rs.flatMap (rcRow last)
theorem rcRow_in {last : Nat} {r x : Int × Int × Int} (h : x ∈ rcRow last r) : r.1 - r.2.1.toNat ≤ x.1 ∧ x.1 ≤ r.1 + r.2.1.toNat ∧ 0 ≤ x.2.1 ∧ x.2.1 < r.2.1.toNat := by
  unfold rcRow rcN at h
  obtain ⟨t, ht, h⟩ := List.mem_flatMap.mp h
  obtain ⟨p, hp, h⟩ := List.mem_flatMap.mp h
  have ht := List.mem_range.mp ht
  have hc := cL_mem hp
  unfold rcOne at h
  rcases List.mem_cons.mp h with rfl | h
  · refine ⟨?_, ?_, ?_, ?_⟩ <;> simp only <;> omega
  · rcases List.mem_cons.mp h with rfl | h
    · refine ⟨?_, ?_, ?_, ?_⟩ <;> simp only <;> omega
    · nomatch h
/-- what a chip sent the other way from y at t changes, at scale last -/
def chgI (rs : List (Int × Int × Int)) (last : Nat) (y : Int) (t : Nat) : Int := (rs.map fun r => if (t : Int) < r.2.1 then r.2.2 * G (r.2.1.toNat - t) (r.1 - y) * 2 ^ (last - (r.2.1.toNat - t)) else 0).sum
end K86
end
section
set_option autoImplicit false
namespace K86
/-! chips sent on: plain -/
def lft (h : Int → Int) (L : Int → Bool) (y : Int) : Int := if L y = true then h y - h y / 2 else h y / 2
def rgt (h : Int → Int) (L : Int → Bool) (y : Int) : Int := h y - lft h L y
def stepH (h : Int → Int) (L : Int → Bool) (y : Int) : Int := rgt h L (y - 1) + lft h L (y + 1)
def stepL (h : Int → Int) (L : Int → Bool) (y : Int) : Bool := if h y % 2 = 1 then !L y else L y
def runS (h : Int → Int) (L : Int → Bool) : Nat → (Int → Int) × (Int → Bool)
  | 0 => (h, L)
  | t + 1 => (stepH (runS h L t).1 (runS h L t).2, stepL (runS h L t).1 (runS h L t).2)
theorem lft_nn {h : Int → Int} {L : Int → Bool} {y : Int} (p : 0 ≤ h y) : 0 ≤ lft h L y ∧ lft h L y ≤ h y := by
  unfold lft
  split <;> omega
theorem stepH_nn {h : Int → Int} {L : Int → Bool} (p : ∀ y, 0 ≤ h y) (y : Int) : 0 ≤ stepH h L y := by
  have a := lft_nn (L := L) (p (y - 1))
  have b := lft_nn (L := L) (p (y + 1))
  unfold stepH rgt
  omega
theorem lr_ne {h : Int → Int} {L : Int → Bool} {y : Int} : lft h L y ≠ rgt h L y ↔ h y % 2 = 1 := by
  unfold rgt lft
  split <;> omega
theorem runS_add (h : Int → Int) (L : Int → Bool) (a : Nat) : ∀ b, runS (runS h L a).1 (runS h L a).2 b = runS h L (a + b)
  | 0 => rfl
  | b + 1 => by
    show (stepH _ _, stepL _ _) = (stepH _ _, stepL _ _)
    rw [runS_add h L a b]
    rfl
/-- what the heaps of a list send to y -/
def sentTo (h : Int → Int) (L : Int → Bool) (ys : List Int) (y : Int) : Int := (ys.map fun z => (if z - 1 = y then lft h L z else 0) + (if z + 1 = y then rgt h L z else 0)).sum
theorem sentTo_snoc (h : Int → Int) (L : Int → Bool) (ys : List Int) (z y : Int) : sentTo h L (ys ++ [z]) y = sentTo h L ys y + ((if z - 1 = y then lft h L z else 0) + (if z + 1 = y then rgt h L z else 0)) := by
  unfold sentTo
  rw [List.map_append, List.sum_append]
  simp
theorem sum_pick {f : Int → Int} {k : Int} : ∀ {ys : List Int}, ys.Nodup → (k ∉ ys → f k = 0) → (ys.map fun z => if z = k then f z else 0).sum = f k
  | [], _, h => by rw [h (fun z => nomatch z)]; rfl
  | y :: ys, hn, h => by
    have n2 := List.nodup_cons.mp hn
    rw [List.map_cons, List.sum_cons]
    by_cases e : y = k
    · rw [if_pos e]
      have z : (ys.map fun z => if z = k then f z else 0).sum = 0 := by
        have hh : ∀ l : List Int, k ∉ l → (l.map fun z => if z = k then f z else 0).sum = 0 := by
          intro l
          induction l with
          | nil => intro _; rfl
          | cons a l ih =>
            intro q
            rw [List.map_cons, List.sum_cons, if_neg (fun w => q (List.mem_cons.mpr (.inl w.symm))), ih fun w => q (List.mem_cons_of_mem _ w)]
            rfl
        exact hh ys (e ▸ n2.1)
      rw [z, e]
      omega
    · rw [if_neg e, sum_pick n2.2 fun q => h fun w => (List.mem_cons.mp w).elim (fun v => e v.symm) q]
      omega
theorem sum_add {f g : Int → Int} : ∀ {ys : List Int}, (ys.map fun z => f z + g z).sum = (ys.map f).sum + (ys.map g).sum
  | [] => rfl
  | y :: ys => by
    simp only [List.map_cons, List.sum_cons, sum_add (ys := ys)]
    omega
theorem sentTo_all {h : Int → Int} {L : Int → Bool} {ys : List Int} (hn : ys.Nodup) (h0 : ∀ y, y ∉ ys → h y = 0) (y : Int) : sentTo h L ys y = stepH h L y := by
  have l0 : ∀ y, y ∉ ys → lft h L y = 0 := fun y q => by unfold lft; rw [h0 y q]; split <;> rfl
  have r0 : ∀ y, y ∉ ys → rgt h L y = 0 := fun y q => by unfold rgt; rw [l0 y q, h0 y q]; rfl
  unfold sentTo stepH
  rw [sum_add]
  have e1 : (ys.map fun z => if z - 1 = y then lft h L z else 0) = ys.map fun z => if z = y + 1 then lft h L z else 0 := by
    refine List.map_congr_left fun z _ => ?_
    by_cases c : z - 1 = y
    · rw [if_pos c, if_pos (by omega)]
    · rw [if_neg c, if_neg (by omega)]
  have e2 : (ys.map fun z => if z + 1 = y then rgt h L z else 0) = ys.map fun z => if z = y - 1 then rgt h L z else 0 := by
    refine List.map_congr_left fun z _ => ?_
    by_cases c : z + 1 = y
    · rw [if_pos c, if_pos (by omega)]
    · rw [if_neg c, if_neg (by omega)]
  rw [e1, e2, sum_pick hn (l0 _), sum_pick hn (r0 _)]
  omega
end K86
end
section
set_option autoImplicit false
namespace K86
theorem lft_even {h m : Int → Int} {L : Int → Bool} (y : Int) : lft (fun y => h y + 2 * m y) L y = lft h L y + m y := by
  unfold lft
  simp only
  split <;> omega
theorem stepH_even {h m : Int → Int} {L : Int → Bool} : stepH (fun y => h y + 2 * m y) L = fun y => stepH h L y + (m (y - 1) + m (y + 1)) := by
  funext y
  unfold stepH rgt
  rw [lft_even, lft_even]
  simp only
  omega
theorem stepL_even {h m : Int → Int} {L : Int → Bool} : stepL (fun y => h y + 2 * m y) L = stepL h L := by
  funext y
  unfold stepL
  have e : (h y + 2 * m y) % 2 = h y % 2 := by omega
  simp only [e]
/-- 2 ^ t chips more at a: at the tick j they stand by halves, and change no parity before t -/
theorem grant (f : Int → Int) (L : Int → Bool) (t : Nat) (a : Int) : ∀ j, j ≤ t → runS (fun y => f y + if y = a then 2 ^ t else 0) L j = (fun y => (runS f L j).1 y + 2 ^ (t - j) * P j (y - a), (runS f L j).2)
  | 0, _ => by
    show (_, L) = (_, L)
    congr 1
    funext y
    show f y + _ = f y + _
    congr 1
    show _ = 2 ^ t * P 0 (y - a)
    unfold P
    by_cases c : y = a
    · rw [if_pos c, if_pos (by omega), Int.mul_one]
    · rw [if_neg c, if_neg (by omega), Int.mul_zero]
  | j + 1, h => by
    have ih := grant f L t a j (by omega)
    show (stepH (runS _ L j).1 (runS _ L j).2, stepL (runS _ L j).1 (runS _ L j).2) = _
    rw [ih]
    have e : (fun y => (runS f L j).1 y + 2 ^ (t - j) * P j (y - a)) = fun y => (runS f L j).1 y + 2 * (2 ^ (t - (j + 1)) * P j (y - a)) := by
      funext y
      rw [← Int.mul_assoc, show (2 : Int) * 2 ^ (t - (j + 1)) = 2 ^ (t - j) by rw [← Int.pow_succ']; congr 1; omega]
    simp only [e]
    rw [stepH_even (m := fun y => 2 ^ (t - (j + 1)) * P j (y - a)), stepL_even (m := fun y => 2 ^ (t - (j + 1)) * P j (y - a))]
    show (_, stepL (runS f L j).1 (runS f L j).2) = (_, stepL (runS f L j).1 (runS f L j).2)
    congr 1
    funext y
    show stepH (runS f L j).1 (runS f L j).2 y + _ = stepH (runS f L j).1 (runS f L j).2 y + _
    congr 1
    rw [← Int.mul_add]
    congr 1
    show P j (y - 1 - a) + P j (y + 1 - a) = P j (y - a - 1) + P j (y - a + 1)
    rw [show y - 1 - a = y - a - 1 by omega, show y + 1 - a = y - a + 1 by omega]
def partS (t : Nat) (d : Int) (n : Nat) : Int := ((List.range n).map fun k : Nat => if d = 2 * (k : Int) then P t (2 * (k : Int) - t) else 0).sum
theorem partS_succ (t : Nat) (d : Int) (n : Nat) : partS t d (n + 1) = partS t d n + if d = 2 * (n : Int) then P t (2 * (n : Int) - t) else 0 := by
  unfold partS
  rw [List.range_succ, List.map_append, List.sum_append]
  simp
theorem partS_all (t : Nat) (d : Int) : partS t d (t + 1) = P t (d - t) := by
  have hn : ((List.range (t + 1)).map fun k : Nat => 2 * (k : Int)).Nodup := by
    have h : (List.range (t + 1)).Nodup := List.nodup_range
    unfold List.Nodup at h ⊢
    exact List.Pairwise.map _ (fun a b hab => by omega) h
  have e := sum_pick (f := fun z => P t (z - t)) (k := d) hn fun q => by
    show P t (d - t) = 0
    by_cases c : d % 2 = 0
    · by_cases c2 : 0 ≤ d ∧ d ≤ 2 * t
      · exact absurd (List.mem_map.mpr ⟨(d / 2).toNat, List.mem_range.mpr (by omega), by omega⟩) q
      · by_cases c3 : d < 0
        · rw [← P_sym]
          exact P_far t _ (by omega)
        · exact P_far t _ (by omega)
    · exact P_par t _ (by omega)
  rw [List.map_map] at e
  rw [← show _ = P t (d - t) from e]
  unfold partS
  congr 1
  refine List.map_congr_left fun k _ => ?_
  show (if d = 2 * (k : Int) then _ else _) = if 2 * (k : Int) = d then _ else _
  by_cases c : d = 2 * (k : Int)
  · rw [if_pos c, if_pos c.symm]
  · rw [if_neg c, if_neg (fun z => c z.symm)]
/-- the state of the making: the parities asked so far are met -/
def metW (f : Int → Int) (L : Int → Bool) (S : Int → Int → Bool) (c lo hi : Int) (last j : Nat) : Prop := ∀ s : Int, lo - ((last : Int) - j) ≤ s → s ≤ hi + ((last : Int) - j) → (s + j) % 2 = c → ((runS f L j).1 s % 2 = 1 ↔ S s j = true)
theorem metW_grant {f : Int → Int} {L : Int → Bool} {S : Int → Int → Bool} {c lo hi : Int} {last j t : Nat} {a : Int} (h : metW f L S c lo hi last j) (hj : j < t) : metW (fun y => f y + if y = a then 2 ^ t else 0) L S c lo hi last j := by
  intro s h1 h2 h3
  rw [grant f L t a j (by omega)]
  have e : ((runS f L j).1 s + 2 ^ (t - j) * P j (s - a)) % 2 = (runS f L j).1 s % 2 := by
    rw [show (2 : Int) ^ (t - j) = 2 * 2 ^ (t - j - 1) by rw [← Int.pow_succ']; congr 1; omega, Int.mul_assoc]
    omega
  show (((runS f L j).1 s + 2 ^ (t - j) * P j (s - a)) % 2 = 1 ↔ _)
  rw [e]
  exact h s h1 h2 h3
theorem P_end (t : Nat) : P t (-(t : Int)) = 1 := by
  induction t with
  | zero => rfl
  | succ t ih =>
    show P t (-((t + 1 : Nat) : Int) - 1) + P t (-((t + 1 : Nat) : Int) + 1) = 1
    rw [show -((t + 1 : Nat) : Int) + 1 = -(t : Int) by omega, ih, show -((t + 1 : Nat) : Int) - 1 = -((t : Int) + 2) by omega, P_sym, P_far t _ (by omega)]
    rfl
end K86
end
section
set_option autoImplicit false
namespace K86
/-! the law's own greatest sum: all roads, told one by one -/
def grOne (n : Int) (p : Int × Int) : List (Int × Int) := if p.2 ≠ 0 then [(p.1 + p.2 * n, -p.2)] else [(p.1 + 1 * n, -1), (p.1 + -1 * n, - -1)]
def grNext (S : List (Int × Int)) (n : Int) : List (Int × Int) := S ++ S.flatMap (grOne n)
def grS (ns : List Int) : List (Int × Int) := ns.foldl grNext [(0, 0)]
theorem grOne_ok {n : Int} {p q : Int × Int} (h : q ∈ grOne n p) (hp : p.2 = 0 ∨ p.2 = 1 ∨ p.2 = -1) : q.2 = 0 ∨ q.2 = 1 ∨ q.2 = -1 := by
  unfold grOne at h
  split at h
  · rw [List.mem_singleton.mp h]
    rcases hp with e | e | e <;> simp only [e] <;> decide
  · rcases List.mem_cons.mp h with rfl | h
    · exact .inr (.inr rfl)
    · rw [List.mem_singleton.mp h]
      exact .inr (.inl rfl)
theorem grNext_ok {S : List (Int × Int)} {n : Int} (h : ∀ p ∈ S, p.2 = 0 ∨ p.2 = 1 ∨ p.2 = -1) : ∀ p ∈ grNext S n, p.2 = 0 ∨ p.2 = 1 ∨ p.2 = -1 := fun p hp => by
  rcases List.mem_append.mp hp with hp | hp
  · exact h p hp
  · obtain ⟨q, hq, hp⟩ := List.mem_flatMap.mp hp
    exact grOne_ok hp (h q hq)
theorem grOne_len (n : Int) (p : Int × Int) : (grOne n p).length ≤ 2 := by
  unfold grOne
  split
  · exact Nat.le_succ 1
  · exact Nat.le_refl 2
theorem flat_len (n : Int) : ∀ S : List (Int × Int), (S.flatMap (grOne n)).length ≤ 2 * S.length
  | [] => Nat.le_refl _
  | p :: S => by
    have h1 := grOne_len n p
    have h2 := flat_len n S
    rw [List.flatMap_cons, List.length_append, List.length_cons]
    omega
theorem grNext_len (S : List (Int × Int)) (n : Int) : (grNext S n).length ≤ 3 * S.length := by
  have := flat_len n S
  unfold grNext
  rw [List.length_append]
  omega
end K86
end
section
set_option autoImplicit false
namespace K86
theorem stepH_le {h : Int → Int} {L : Int → Bool} {M : Int} (nn : ∀ y, 0 ≤ h y) (hM : ∀ y, h y ≤ M) (y : Int) : stepH h L y ≤ 2 * M := by
  have a := lft_nn (L := L) (nn (y - 1))
  have b := lft_nn (L := L) (nn (y + 1))
  have c := hM (y - 1)
  have d := hM (y + 1)
  unfold stepH rgt
  omega
theorem runS_nn {h : Int → Int} {L : Int → Bool} (nn : ∀ y, 0 ≤ h y) : ∀ t y, 0 ≤ (runS h L t).1 y
  | 0, y => nn y
  | t + 1, y => stepH_nn (runS_nn nn t) y
theorem runS_le {h : Int → Int} {L : Int → Bool} {M : Int} (nn : ∀ y, 0 ≤ h y) (hM : ∀ y, h y ≤ M) : ∀ t y, (runS h L t).1 y ≤ 2 ^ t * M
  | 0, y => by
    show h y ≤ 2 ^ 0 * M
    have := hM y
    rw [Int.pow_zero, Int.one_mul]
    exact this
  | t + 1, y => by
    have h1 := stepH_le (L := (runS h L t).2) (M := 2 ^ t * M) (runS_nn (L := L) nn t) (runS_le (L := L) nn hM t) y
    show stepH _ _ y ≤ 2 ^ (t + 1) * M
    rw [Int.pow_succ', Int.mul_assoc]
    exact h1
end K86
end
section
set_option autoImplicit false
namespace K86
/-! sums with signs by turns: the sum so far, the next sign -/
def aS (sg : Int) (d : Nat → Int) (b : Nat → Bool) : Nat → Int × Int
  | 0 => (0, sg)
  | i + 1 => if b i = true then ((aS sg d b i).1 + (aS sg d b i).2 * d i, -(aS sg d b i).2) else aS sg d b i
theorem aS_succ (sg : Int) (d : Nat → Int) (b : Nat → Bool) (i : Nat) : aS sg d b (i + 1) = if b i = true then ((aS sg d b i).1 + (aS sg d b i).2 * d i, -(aS sg d b i).2) else aS sg d b i := rfl
theorem aS_sign {sg : Int} (h : sg = 1 ∨ sg = -1) (d : Nat → Int) (b : Nat → Bool) : ∀ i, (aS sg d b i).2 = 1 ∨ (aS sg d b i).2 = -1
  | 0 => h
  | i + 1 => by
    have ih := aS_sign h d b i
    rw [aS_succ]
    split
    · show -_ = (1 : Int) ∨ -_ = (-1 : Int); omega
    · exact ih
theorem aS_congr {sg : Int} {d d' : Nat → Int} {b b' : Nat → Bool} : ∀ {n : Nat}, (∀ i, i < n → d i = d' i) → (∀ i, i < n → b i = b' i) → aS sg d b n = aS sg d' b' n
  | 0, _, _ => rfl
  | n + 1, h, g => by
    have ih := aS_congr (sg := sg) (n := n) (fun i hi => h i (by omega)) (fun i hi => g i (by omega))
    rw [aS_succ, aS_succ, ih, h n (by omega), g n (by omega)]
/-- all signs turned over -/
theorem aS_neg {sg : Int} {d : Nat → Int} {b : Nat → Bool} : ∀ n, aS (-sg) d b n = (-(aS sg d b n).1, -(aS sg d b n).2)
  | 0 => rfl
  | n + 1 => by
    rw [aS_succ, aS_succ, aS_neg n]
    split
    · show (_, _) = (_, _)
      rw [Int.neg_mul]
      congr 1
      show -(aS sg d b n).1 + -((aS sg d b n).2 * d n) = -((aS sg d b n).1 + (aS sg d b n).2 * d n)
      omega
    · rfl
/-- no sum from a sign is above gf -/
theorem aS_gfN {sg : Int} (hs : sg = 1 ∨ sg = -1) (cs : List Int) (b : Nat → Bool) : ∀ n, ((aS sg (fun i => cs.getD i 0) b n).2 = sg → (aS sg (fun i => cs.getD i 0) b n).1 ≤ (gfN sg cs n).2) ∧
    ((aS sg (fun i => cs.getD i 0) b n).2 = -sg → ∃ o, (gfN sg cs n).1 = some o ∧ (aS sg (fun i => cs.getD i 0) b n).1 ≤ o)
  | 0 => ⟨fun _ => Int.le_refl _, fun h => by
    have h2 : sg = -sg := h
    omega⟩
  | n + 1 => by
    have ih := aS_gfN hs cs b n
    have sg2 := aS_sign hs (fun i => cs.getD i 0) b n
    have e : gfN sg cs (n + 1) = gfStep (gfN sg cs n) (sg * cs.getD n 0) := rfl
    rw [aS_succ, e]
    generalize aS sg (fun i => cs.getD i 0) b n = a at ih sg2
    generalize gfN sg cs n = s at ih
    obtain ⟨a1, a2⟩ := a
    obtain ⟨so, se⟩ := s
    simp only at ih sg2
    by_cases hb : b n = true
    · rw [if_pos hb]
      show (-a2 = sg → a1 + a2 * cs.getD n 0 ≤ _) ∧ (-a2 = -sg → ∃ o, _ ∧ a1 + a2 * cs.getD n 0 ≤ o)
      generalize cs.getD n 0 = x
      refine ⟨fun h => ?_, fun h => ?_⟩
      · obtain ⟨o, rfl, ho⟩ := ih.2 (by omega)
        have h2 : a2 = -sg := by omega
        subst h2
        rw [Int.neg_mul]
        show _ ≤ (if se < o + -(sg * x) then o + -(sg * x) else se)
        split <;> omega
      · have h2 : a2 = sg := by omega
        subst h2
        have h3 := ih.1 rfl
        cases so with
        | none => exact ⟨_, rfl, by omega⟩
        | some o =>
          refine ⟨_, rfl, ?_⟩
          split <;> omega
    · rw [if_neg hb]
      generalize sg * cs.getD n 0 = x
      refine ⟨fun h => ?_, fun h => ?_⟩
      · have h3 := ih.1 h
        cases so with
        | none => exact h3
        | some o =>
          show a1 ≤ (if se < o + -x then o + -x else se)
          split <;> omega
      · obtain ⟨o, rfl, ho⟩ := ih.2 h
        refine ⟨_, rfl, ?_⟩
        show a1 ≤ _
        split <;> omega
theorem aS_gf {sg : Int} (hs : sg = 1 ∨ sg = -1) (cs : List Int) (b : Nat → Bool) : (aS sg (fun i => cs.getD i 0) b cs.length).1 ≤ gf sg cs := by
  have h := aS_gfN hs cs b cs.length
  have s2 := aS_sign hs (fun i => cs.getD i 0) b cs.length
  unfold gf gfEnd
  generalize aS sg (fun i => cs.getD i 0) b cs.length = a at h s2
  generalize gfN sg cs cs.length = s at h
  obtain ⟨a1, a2⟩ := a
  obtain ⟨so, se⟩ := s
  simp only at h s2 ⊢
  by_cases c : a2 = sg
  · have h1 := h.1 c
    cases so with
    | none => exact h1
    | some o => simp only; split <;> omega
  · have hn : a2 = -sg := by
      clear h
      omega
    obtain ⟨o, rfl, ho⟩ := h.2 hn
    simp only
    split <;> omega
theorem aS_low {sg : Int} (hs : sg = 1 ∨ sg = -1) (cs : List Int) (b : Nat → Bool) : -gf (-sg) cs ≤ (aS sg (fun i => cs.getD i 0) b cs.length).1 := by
  have h := aS_gf (sg := -sg) (by omega) cs b
  rw [aS_neg] at h
  simp only at h
  omega
theorem moreOf_l (a b : Sm) : a.1 ≤ (moreOf a b).1 := by unfold moreOf; split <;> omega
theorem moreOf_r (a b : Sm) : b.1 ≤ (moreOf a b).1 := by unfold moreOf; split <;> omega
theorem btN_up (cs : List Int) (i : Nat) : (btN cs i).1.1 ≤ (btN cs (i + 1)).1.1 ∧ (btN cs i).2.1 + cs.getD i 0 ≤ (btN cs (i + 1)).1.1 ∧ (btN cs i).2.1 ≤ (btN cs (i + 1)).2.1 ∧ (btN cs i).1.1 - cs.getD i 0 ≤ (btN cs (i + 1)).2.1 :=
  ⟨moreOf_l _ _, moreOf_r _ _, moreOf_l _ _, by
    have := moreOf_r (btN cs i).2 ((btN cs i).1.1 + -cs.getD i 0, (btN cs i).1.2 ++ [i])
    show _ ≤ (moreOf (btN cs i).2 ((btN cs i).1.1 + -cs.getD i 0, (btN cs i).1.2 ++ [i])).1
    simp only at this
    omega⟩
theorem btN_nn (cs : List Int) : ∀ i, 0 ≤ (btN cs i).1.1 ∧ 0 ≤ (btN cs i).2.1
  | 0 => ⟨Int.le_refl _, Int.le_refl _⟩
  | i + 1 => by
    have h := btN_up cs i
    have ih := btN_nn cs i
    omega
theorem btEnd_ge (cs : List Int) : (btN cs cs.length).1.1 ≤ (btEnd cs).1 ∧ (btN cs cs.length).2.1 ≤ (btEnd cs).1 := ⟨moreOf_l _ _, moreOf_r _ _⟩
theorem gfN_bt {sg : Int} (hs : sg = 1 ∨ sg = -1) (cs : List Int) : ∀ n, (gfN sg cs n).2 ≤ (if sg = 1 then (btN cs n).2.1 else (btN cs n).1.1) ∧ ∀ o, (gfN sg cs n).1 = some o → o ≤ (if sg = 1 then (btN cs n).1.1 else (btN cs n).2.1)
  | 0 => ⟨by split <;> exact Int.le_refl _, fun o h => nomatch h⟩
  | n + 1 => by
    have ih := gfN_bt hs cs n
    have u := btN_up cs n
    show (gfStep (gfN sg cs n) (sg * cs.getD n 0)).2 ≤ _ ∧ ∀ o, (gfStep (gfN sg cs n) (sg * cs.getD n 0)).1 = some o → _
    generalize gfN sg cs n = s at ih
    obtain ⟨so, se⟩ := s
    rcases hs with rfl | rfl
    · simp only [if_true] at ih ⊢
      rw [Int.one_mul]
      cases so with
      | none =>
        refine ⟨?_, fun o h => ?_⟩
        · show se ≤ _; omega
        · have : se + cs.getD n 0 = o := Option.some.inj h
          omega
      | some v =>
        have hv := ih.2 v rfl
        refine ⟨?_, fun o h => ?_⟩
        · show (if se < v + -cs.getD n 0 then v + -cs.getD n 0 else se) ≤ _
          split <;> omega
        · have : (if se + cs.getD n 0 < v then v else se + cs.getD n 0) = o := Option.some.inj h
          rw [← this]
          split <;> omega
    · have e1 : ¬ (-1 : Int) = 1 := by decide
      simp only [if_neg e1] at ih ⊢
      rw [show (-1 : Int) * cs.getD n 0 = -cs.getD n 0 by omega]
      cases so with
      | none =>
        refine ⟨?_, fun o h => ?_⟩
        · show se ≤ _; omega
        · have : se + -cs.getD n 0 = o := Option.some.inj h
          omega
      | some v =>
        have hv := ih.2 v rfl
        refine ⟨?_, fun o h => ?_⟩
        · show (if se < v + - -cs.getD n 0 then v + - -cs.getD n 0 else se) ≤ _
          split <;> omega
        · have : (if se + -cs.getD n 0 < v then v else se + -cs.getD n 0) = o := Option.some.inj h
          rw [← this]
          split <;> omega
theorem gf_le {sg : Int} (hs : sg = 1 ∨ sg = -1) (cs : List Int) : gf sg cs ≤ (btEnd cs).1 := by
  have h := gfN_bt hs cs cs.length
  have g := btEnd_ge cs
  unfold gf gfEnd
  generalize gfN sg cs cs.length = s at h
  obtain ⟨so, se⟩ := s
  cases so with
  | none =>
    have h1 := h.1
    simp only at h1 ⊢
    split at h1 <;> omega
  | some v =>
    have h1 := h.1
    have h2 := h.2 v rfl
    simp only at h1 h2 ⊢
    split at h1 <;> split <;> simp_all <;> omega
/-! the picks of the greatest -/
def Asc (n : Nat) (is : List Nat) : Prop := is = (List.range n).filter fun j => decide (j ∈ is)
theorem Asc.lt {n : Nat} {is : List Nat} (h : Asc n is) {j : Nat} (hj : j ∈ is) : j < n := by
  rw [h] at hj
  exact List.mem_range.mp (List.mem_filter.mp hj).1
theorem Asc.keep {n : Nat} {is : List Nat} (h : Asc n is) : Asc (n + 1) is := by
  unfold Asc
  rw [List.range_succ, List.filter_append]
  have e : ([n].filter fun j => decide (j ∈ is)) = [] := by
    rw [List.filter_cons, if_neg]
    · rfl
    · intro z
      exact absurd (h.lt (of_decide_eq_true z)) (Nat.lt_irrefl n)
  rw [e, List.append_nil]
  exact h
theorem Asc.pick {n : Nat} {is : List Nat} (h : Asc n is) : Asc (n + 1) (is ++ [n]) := by
  unfold Asc
  rw [List.range_succ, List.filter_append]
  have e : ([n].filter fun j => decide (j ∈ is ++ [n])) = [n] := by
    rw [List.filter_cons, if_pos (decide_eq_true (List.mem_append.mpr (.inr (List.mem_singleton.mpr rfl))))]
    rfl
  rw [e]
  congr 1
  refine Eq.trans h (List.filter_congr fun j hj => ?_)
  have hjn := List.mem_range.mp hj
  refine decide_eq_decide.mpr ⟨fun z => List.mem_append.mpr (.inl z), fun z => ?_⟩
  rcases List.mem_append.mp z with z | z
  · exact z
  · have := List.mem_singleton.mp z
    omega
/-- the picks, told by their last sign -/
inductive EndS (d : Nat → Int) : Int → List Nat → Int → Prop
  | nil (e : Int) : EndS d e [] 0
  | snoc {e s : Int} {is : List Nat} (i : Nat) (h : EndS d (-e) is s) : EndS d e (is ++ [i]) (s + e * d i)
theorem EndS.inj {d : Nat → Int} {e : Int} {is : List Nat} {s s' : Int} (h : EndS d e is s) (g : EndS d e is s') : s = s' := by
  induction h generalizing s' with
  | nil e =>
    generalize hl : ([] : List Nat) = l at g
    cases g with
    | nil => rfl
    | snoc i h => simp at hl
  | snoc i h ih =>
    rename_i e s js
    generalize hl : js ++ [i] = l at g
    cases g with
    | nil => simp at hl
    | snoc i' h' =>
      have e2 := List.append_inj' hl rfl
      have e3 : i = i' := by simpa using e2.2
      obtain ⟨e4, _⟩ := e2
      subst e3 e4
      rw [ih h']
theorem EndS.nils {d : Nat → Int} {e e' s s' : Int} {l : List Nat} (hl : l = []) (h : EndS d e l s) (g : EndS d e' l s') : s = s' := by
  subst hl
  exact (h.inj (.nil _)).trans (g.inj (.nil _)).symm
theorem btN_ends (cs : List Int) : ∀ n, (Asc n (btN cs n).1.2 ∧ EndS (fun i => cs.getD i 0) 1 (btN cs n).1.2 (btN cs n).1.1) ∧ (Asc n (btN cs n).2.2 ∧ EndS (fun i => cs.getD i 0) (-1) (btN cs n).2.2 (btN cs n).2.1)
  | 0 => ⟨⟨rfl, .nil _⟩, ⟨rfl, .nil _⟩⟩
  | n + 1 => by
    have ih := btN_ends cs n
    show (Asc (n + 1) (moreOf (btN cs n).1 ((btN cs n).2.1 + cs.getD n 0, (btN cs n).2.2 ++ [n])).2 ∧ _) ∧ (Asc (n + 1) (moreOf (btN cs n).2 ((btN cs n).1.1 + -cs.getD n 0, (btN cs n).1.2 ++ [n])).2 ∧ _)
    constructor
    · show Asc (n + 1) (moreOf (btN cs n).1 ((btN cs n).2.1 + cs.getD n 0, (btN cs n).2.2 ++ [n])).2 ∧ EndS _ 1 (moreOf (btN cs n).1 ((btN cs n).2.1 + cs.getD n 0, (btN cs n).2.2 ++ [n])).2 (moreOf (btN cs n).1 ((btN cs n).2.1 + cs.getD n 0, (btN cs n).2.2 ++ [n])).1
      unfold moreOf
      split
      · refine ⟨ih.2.1.pick, ?_⟩
        have q := EndS.snoc (d := fun i => cs.getD i 0) (e := 1) n ih.2.2
        rw [Int.one_mul] at q
        exact q
      · exact ⟨ih.1.1.keep, ih.1.2⟩
    · show Asc (n + 1) (moreOf (btN cs n).2 ((btN cs n).1.1 + -cs.getD n 0, (btN cs n).1.2 ++ [n])).2 ∧ EndS _ (-1) (moreOf (btN cs n).2 ((btN cs n).1.1 + -cs.getD n 0, (btN cs n).1.2 ++ [n])).2 (moreOf (btN cs n).2 ((btN cs n).1.1 + -cs.getD n 0, (btN cs n).1.2 ++ [n])).1
      unfold moreOf
      split
      · refine ⟨ih.1.1.pick, ?_⟩
        have q := EndS.snoc (d := fun i => cs.getD i 0) (e := -1) n (by rw [Int.neg_neg]; exact ih.1.2)
        rw [show (-1 : Int) * cs.getD n 0 = -cs.getD n 0 by omega] at q
        exact q
      · exact ⟨ih.2.1.keep, ih.2.2⟩
theorem btEnd_ends (cs : List Int) : Asc cs.length (btEnd cs).2 ∧ EndS (fun i => cs.getD i 0) (btLast cs) (btEnd cs).2 (btEnd cs).1 := by
  have h := btN_ends cs cs.length
  unfold btEnd btLast moreOf
  split
  · exact h.2
  · exact h.1
/-- what is walked through, told by its picks -/
theorem aS_ends {sg : Int} (d : Nat → Int) (b : Nat → Bool) : ∀ n, EndS d (-(aS sg d b n).2) ((List.range n).filter b) (aS sg d b n).1 ∧ (aS sg d b n).2 = if ((List.range n).filter b).length % 2 = 0 then sg else -sg
  | 0 => ⟨.nil _, rfl⟩
  | n + 1 => by
    have ih := aS_ends (sg := sg) d b n
    rw [aS_succ, List.range_succ, List.filter_append]
    by_cases hb : b n = true
    · rw [if_pos hb, List.filter_cons, if_pos hb]
      refine ⟨?_, ?_⟩
      · show EndS d (- -(aS sg d b n).2) (_ ++ [n]) ((aS sg d b n).1 + (aS sg d b n).2 * d n)
        rw [Int.neg_neg]
        exact .snoc n ih.1
      · show -(aS sg d b n).2 = if (_ ++ [n]).length % 2 = 0 then _ else _
        rw [ih.2, List.length_append, List.length_singleton]
        by_cases c : ((List.range n).filter b).length % 2 = 0
        · rw [if_pos c, if_neg (by omega)]
        · rw [if_neg c, if_pos (by omega), Int.neg_neg]
    · rw [if_neg hb, List.filter_cons, if_neg hb, List.filter_nil, List.append_nil]
      exact ih
theorem btLast_or (cs : List Int) : btLast cs = 1 ∨ btLast cs = -1 := by
  unfold btLast
  split
  · exact .inr rfl
  · exact .inl rfl
theorem btSign_or (cs : List Int) : btSign cs = 1 ∨ btSign cs = -1 := by
  have h := btLast_or cs
  unfold btSign
  split
  · exact .inl rfl
  · split <;> omega
/-- the greatest sum is come to by its own picks -/
theorem bt_reached (cs : List Int) : (aS (btSign cs) (fun i => cs.getD i 0) (fun i => decide (i ∈ (btEnd cs).2)) cs.length).1 = (btEnd cs).1 := by
  have h := btEnd_ends cs
  have g := aS_ends (sg := btSign cs) (fun i => cs.getD i 0) (fun i => decide (i ∈ (btEnd cs).2)) cs.length
  rw [← show (btEnd cs).2 = (List.range cs.length).filter fun i => decide (i ∈ (btEnd cs).2) from h.1] at g
  by_cases c : (btEnd cs).2 = []
  · have h2 := h.2
    have g1 := g.1
    exact EndS.nils c g1 h2
  · have e : -(aS (btSign cs) (fun i => cs.getD i 0) (fun i => decide (i ∈ (btEnd cs).2)) cs.length).2 = btLast cs := by
      rw [g.2]
      unfold btSign
      rw [if_neg c]
      by_cases o : (btEnd cs).2.length % 2 = 1
      · rw [if_pos o, if_neg (by omega), Int.neg_neg]
      · rw [if_neg o, if_pos (by omega), Int.neg_neg]
    have g1 := g.1
    rw [e] at g1
    exact g1.inj h.2
theorem gf_bt (cs : List Int) : gf (btSign cs) cs = (btEnd cs).1 := by
  refine Int.le_antisymm (gf_le (btSign_or cs) cs) ?_
  rw [← bt_reached cs]
  exact aS_gf (btSign_or cs) cs _
theorem aS_bt {sg : Int} (hs : sg = 1 ∨ sg = -1) (cs : List Int) (b : Nat → Bool) : (aS sg (fun i => cs.getD i 0) b cs.length).1 ≤ (btEnd cs).1 := Int.le_trans (aS_gf hs cs b) (gf_le hs cs)
theorem aS_bt_low {sg : Int} (hs : sg = 1 ∨ sg = -1) (cs : List Int) (b : Nat → Bool) : -(btEnd cs).1 ≤ (aS sg (fun i => cs.getD i 0) b cs.length).1 := by
  have h := aS_low hs cs b
  have g := gf_le (sg := -sg) (by omega) cs
  omega
/-- picks that differ only where nothing is left -/
theorem aS_tail {sg : Int} {d : Nat → Int} {b b' : Nat → Bool} : ∀ {n : Nat}, (∀ i, i < n → b i = b' i ∨ ∀ j, i ≤ j → j < n → d j = 0) → (aS sg d b n).1 = (aS sg d b' n).1 := by
  intro n h
  have key : ∀ m, m ≤ n → (aS sg d b m).1 = (aS sg d b' m).1 ∧ ((aS sg d b m).2 = (aS sg d b' m).2 ∨ ∀ j, m ≤ j → j < n → d j = 0) := by
    intro m
    induction m with
    | zero => intro _; exact ⟨rfl, .inl rfl⟩
    | succ m ih =>
      intro hm
      obtain ⟨i1, i2⟩ := ih (by omega)
      rw [aS_succ, aS_succ]
      rcases i2 with i2 | i2
      · rcases h m (by omega) with e | z
        · rw [e]
          split
          · exact ⟨by show _ + _ * _ = _ + _ * _; rw [i1, i2], .inl (by show -_ = -_; rw [i2])⟩
          · exact ⟨i1, .inl i2⟩
        · have z0 := z m (Nat.le_refl _) (by omega)
          refine ⟨?_, .inr fun j h1 h2 => z j (by omega) h2⟩
          rw [z0]
          split <;> split <;> simp [i1]
      · have z0 := i2 m (Nat.le_refl _) (by omega)
        refine ⟨?_, .inr fun j h1 h2 => i2 j (by omega) h2⟩
        rw [z0]
        split <;> split <;> simp [i1]
  exact (key n (Nat.le_refl _)).1
/-! the law's own greatest -/
theorem grS_snoc (ns : List Int) (n : Int) : grS (ns ++ [n]) = grNext (grS ns) n := by
  unfold grS
  rw [List.foldl_append]
  rfl
theorem gr_bt (cs : List Int) : ∀ i, i ≤ cs.length → (∀ p ∈ grS (cs.take i), (p.2 = 0 → p.1 = 0) ∧ (p.2 = 0 ∨ p.2 = 1 ∨ p.2 = -1) ∧ (p.2 = 1 → p.1 ≤ (btN cs i).2.1) ∧ (p.2 = -1 → p.1 ≤ (btN cs i).1.1)) ∧
    (∃ p ∈ grS (cs.take i), p.1 = (btN cs i).1.1 ∧ (p.2 = -1 ∨ p.2 = 0)) ∧ (∃ p ∈ grS (cs.take i), p.1 = (btN cs i).2.1 ∧ (p.2 = 1 ∨ p.2 = 0))
  | 0, _ => by
    rw [List.take_zero]
    refine ⟨fun p hp => ?_, ⟨(0, 0), List.mem_singleton.mpr rfl, rfl, .inr rfl⟩, ⟨(0, 0), List.mem_singleton.mpr rfl, rfl, .inr rfl⟩⟩
    rw [List.mem_singleton.mp hp]
    exact ⟨fun _ => rfl, .inl rfl, fun h => absurd h (by decide), fun h => absurd h (by decide)⟩
  | i + 1, hi => by
    obtain ⟨a, ⟨pu, hpu, eu, su⟩, ⟨pd, hpd, ed, sd⟩⟩ := gr_bt cs i (by omega)
    have nn := btN_nn cs i
    have u := btN_up cs i
    have hx : cs.getD i 0 = cs[i] := by rw [List.getD_eq_getElem?_getD, List.getElem?_eq_getElem (by omega)]; rfl
    have et : grS (cs.take (i + 1)) = grNext (grS (cs.take i)) (cs.getD i 0) := by
      rw [← grS_snoc, List.take_add_one, List.getElem?_eq_getElem (by omega), hx]
      rfl
    have eb : btN cs (i + 1) = btStep (btN cs i) i (cs.getD i 0) := rfl
    rw [et]
    refine ⟨fun p hp => ?_, ?_, ?_⟩
    · rcases List.mem_append.mp hp with hp | hp
      · have q := a p hp
        exact ⟨q.1, q.2.1, fun h => by have := q.2.2.1 h; omega, fun h => by have := q.2.2.2 h; omega⟩
      · obtain ⟨q, hq, hp⟩ := List.mem_flatMap.mp hp
        obtain ⟨q1, q2, q3, q4⟩ := a q hq
        unfold grOne at hp
        by_cases c : q.2 ≠ 0
        · rw [if_pos c] at hp
          rw [List.mem_singleton.mp hp]
          rcases q2 with z | z | z
          · exact absurd z c
          · have := q3 z
            simp only [z]
            exact ⟨fun h => absurd h (by decide), .inr (.inr (by decide)), fun h => absurd h (by decide), fun _ => by omega⟩
          · have := q4 z
            simp only [z]
            exact ⟨fun h => absurd h (by decide), .inr (.inl (by decide)), fun _ => by omega, fun h => absurd h (by decide)⟩
        · rw [if_neg c] at hp
          have z := q1 (Decidable.not_not.mp c)
          rcases List.mem_cons.mp hp with rfl | hp
          · simp only [z]
            exact ⟨fun h => absurd h (by decide), .inr (.inr (by decide)), fun h => absurd h (by decide), fun _ => by omega⟩
          · rw [List.mem_singleton.mp hp]
            simp only [z]
            exact ⟨fun h => absurd h (by decide), .inr (.inl (by decide)), fun _ => by omega, fun h => absurd h (by decide)⟩
    · show ∃ p : Int × Int, p ∈ _ ∧ p.1 = (moreOf (btN cs i).1 ((btN cs i).2.1 + cs.getD i 0, (btN cs i).2.2 ++ [i])).1 ∧ _
      unfold moreOf
      split
      · refine ⟨(pd.1 + 1 * cs.getD i 0, -1), List.mem_append.mpr (.inr (List.mem_flatMap.mpr ⟨pd, hpd, ?_⟩)), by show pd.1 + 1 * _ = _; rw [ed, Int.one_mul], .inl rfl⟩
        unfold grOne
        rcases sd with z | z
        · rw [if_pos (by rw [z]; decide), z]; exact List.mem_singleton.mpr rfl
        · rw [if_neg (by rw [z]; decide)]; exact List.mem_cons_self
      · exact ⟨pu, List.mem_append.mpr (.inl hpu), eu, su⟩
    · show ∃ p : Int × Int, p ∈ _ ∧ p.1 = (moreOf (btN cs i).2 ((btN cs i).1.1 + -cs.getD i 0, (btN cs i).1.2 ++ [i])).1 ∧ _
      unfold moreOf
      split
      · refine ⟨(pu.1 + -1 * cs.getD i 0, - -1), List.mem_append.mpr (.inr (List.mem_flatMap.mpr ⟨pu, hpu, ?_⟩)), by show pu.1 + -1 * _ = _; rw [eu]; omega, .inl rfl⟩
        unfold grOne
        rcases su with z | z
        · rw [if_pos (by rw [z]; decide), z]; exact List.mem_singleton.mpr rfl
        · rw [if_neg (by rw [z]; decide)]; exact List.mem_cons_of_mem _ (List.mem_singleton.mpr rfl)
      · exact ⟨pd, List.mem_append.mpr (.inl hpd), ed, sd⟩
theorem gr_max {cs : List Int} {m : Int} (h1 : m ∈ (grS cs).map (·.1)) (h2 : ∀ x ∈ (grS cs).map (·.1), x ≤ m) : m = (btEnd cs).1 := by
  have g := gr_bt cs cs.length (Nat.le_refl _)
  rw [List.take_length] at g
  obtain ⟨a, ⟨pu, hpu, eu, _⟩, ⟨pd, hpd, ed, _⟩⟩ := g
  have nn := btN_nn cs cs.length
  have ge := btEnd_ge cs
  refine Int.le_antisymm ?_ ?_
  · obtain ⟨p, hp, rfl⟩ := List.mem_map.mp h1
    obtain ⟨q1, q2, q3, q4⟩ := a p hp
    rcases q2 with z | z | z
    · have := q1 z; omega
    · have := q3 z; omega
    · have := q4 z; omega
  · have hu := h2 _ (List.mem_map.mpr ⟨pu, hpu, rfl⟩)
    have hd := h2 _ (List.mem_map.mpr ⟨pd, hpd, rfl⟩)
    unfold btEnd moreOf
    split <;> omega
end K86
end
section
set_option autoImplicit false
namespace K86
/-! sums over a row of spots -/
def sI (lo : Int) : Nat → (Int → Int) → Int
  | 0, _ => 0
  | n + 1, f => sI lo n f + f (lo + n)
theorem sI_congr {lo : Int} {f g : Int → Int} : ∀ {n : Nat}, (∀ y, lo ≤ y → y < lo + n → f y = g y) → sI lo n f = sI lo n g
  | 0, _ => rfl
  | n + 1, h => by
    show sI lo n f + _ = sI lo n g + _
    rw [sI_congr (n := n) fun y a b => h y a (by omega), h (lo + n) (by omega) (by omega)]
theorem sI_add {lo : Int} {f g : Int → Int} : ∀ n : Nat, sI lo n (fun y => f y + g y) = sI lo n f + sI lo n g
  | 0 => rfl
  | n + 1 => by
    show sI lo n (fun y => f y + g y) + (f _ + g _) = (sI lo n f + f _) + (sI lo n g + g _)
    rw [sI_add n]
    omega
theorem sI_sub {lo : Int} {f g : Int → Int} : ∀ n : Nat, sI lo n (fun y => f y - g y) = sI lo n f - sI lo n g
  | 0 => rfl
  | n + 1 => by
    show sI lo n (fun y => f y - g y) + (f _ - g _) = (sI lo n f + f _) - (sI lo n g + g _)
    rw [sI_sub n]
    omega
theorem sI_mul {lo : Int} (c : Int) {f : Int → Int} : ∀ n : Nat, sI lo n (fun y => c * f y) = c * sI lo n f
  | 0 => (Int.mul_zero c).symm
  | n + 1 => by
    show sI lo n (fun y => c * f y) + c * f _ = c * (sI lo n f + f _)
    rw [sI_mul c n, Int.mul_add]
theorem sI_zero {lo : Int} {f : Int → Int} {n : Nat} (h : ∀ y, lo ≤ y → y < lo + n → f y = 0) : sI lo n f = 0 := by
  rw [sI_congr (g := fun _ => 0) h]
  clear h
  induction n with
  | zero => rfl
  | succ n ih => show sI lo n _ + 0 = 0; rw [ih]; rfl
theorem sI_shift {lo : Int} {f : Int → Int} : ∀ n : Nat, sI lo n (fun y => f (y - 1)) + f (lo + n - 1) = sI lo n f + f (lo - 1)
  | 0 => by
    show 0 + f (lo + 0 - 1) = 0 + f (lo - 1)
    rw [Int.add_zero]
  | n + 1 => by
    show (sI lo n (fun y => f (y - 1)) + f (lo + n - 1)) + f (lo + ((n + 1 : Nat) : Int) - 1) = (sI lo n f + f (lo + n)) + f (lo - 1)
    rw [sI_shift n, show lo + ((n + 1 : Nat) : Int) - 1 = lo + n by omega]
    omega
theorem sI_split {lo : Int} {f : Int → Int} (a : Nat) : ∀ b : Nat, sI lo (a + b) f = sI lo a f + sI (lo + a) b f
  | 0 => by show sI lo a f = _ + 0; omega
  | b + 1 => by
    show sI lo (a + b) f + f (lo + ((a + b : Nat) : Int)) = sI lo a f + (sI (lo + a) b f + f (lo + a + b))
    rw [sI_split a b, show lo + ((a + b : Nat) : Int) = lo + a + b by omega]
    omega
theorem sI_list {lo : Int} {f : Int → Int} : ∀ n : Nat, sI lo n f = (((List.range n).map fun i : Nat => lo + (i : Int)).map f).sum
  | 0 => rfl
  | n + 1 => by
    show sI lo n f + _ = _
    rw [List.range_succ, List.map_append, List.map_append, sum_app, sI_list n]
    simp
/-- a window of 200 -/
abbrev wI (f : Int → Int) : Int := sI (-100) 200 f
theorem wI_wS {f : Int → Int} (h : ∀ y, y < -30 ∨ 30 ≤ y → f y = 0) : wI f = wS f := by
  have e1 : wI f = sI (-100) 70 f + sI (-30) 130 f := sI_split 70 130
  have e2 : sI (-30) 130 f = sI (-30) 60 f + sI 30 70 f := sI_split 60 70
  rw [e1, e2, sI_zero (lo := -100) (n := 70) fun y a b => h y (.inl (by omega)), sI_zero (lo := 30) (n := 70) fun y a b => h y (.inr (by omega)), sI_list]
  unfold wS win
  rw [show ((List.range 60).map fun i : Nat => (-30 : Int) + (i : Int)) = (List.range 60).map fun i : Nat => (i : Int) - 30 from List.map_congr_left fun i _ => by omega]
  omega
/-- a list's sum -/
theorem wI_of {f : Int → Int} {ys : List Int} (hn : ys.Nodup) (hs : ∀ y ∈ ys, -100 ≤ y ∧ y < 100) (h0 : ∀ y, y ∉ ys → f y = 0) : (ys.map f).sum = wI f := by
  have nd : ((List.range 200).map fun i : Nat => (-100 : Int) + (i : Int)).Nodup := by
    have h : (List.range 200).Nodup := List.nodup_range
    unfold List.Nodup at h ⊢
    exact List.Pairwise.map _ (fun a b hab => by omega) h
  have mw : ∀ y : Int, y ∈ ((List.range 200).map fun i : Nat => (-100 : Int) + (i : Int)) ↔ -100 ≤ y ∧ y < 100 := fun y => by
    constructor
    · intro h
      obtain ⟨i, hi, rfl⟩ := List.mem_map.mp h
      have := List.mem_range.mp hi
      omega
    · intro h
      exact List.mem_map.mpr ⟨(y + 100).toNat, List.mem_range.mpr (by omega), by omega⟩
  unfold wI
  rw [sI_list]
  generalize ((List.range 200).map fun i : Nat => (-100 : Int) + (i : Int)) = W at nd mw
  have p : W.Perm (ys ++ W.filter fun y => decide (y ∉ ys)) := by
    refine (List.perm_ext_iff_of_nodup nd ?_).mpr fun y => ?_
    · rw [List.nodup_append]
      refine ⟨hn, nd.filter _, fun a ha b hb e => ?_⟩
      rw [List.mem_filter] at hb
      exact absurd (e ▸ ha) (of_decide_eq_true hb.2)
    · rw [List.mem_append, List.mem_filter]
      constructor
      · intro h
        by_cases c : y ∈ ys
        · exact .inl c
        · exact .inr ⟨h, decide_eq_true c⟩
      · rintro (h | h)
        · exact (mw y).mpr (hs y h)
        · exact h.1
  rw [sum_perm p, List.map_append, sum_app, sum_zero (l := W.filter _) fun y hy => h0 y (of_decide_eq_true (List.mem_filter.mp hy).2)]
  omega
theorem sI_sum {α : Type} {lo : Int} {n : Nat} {f : α → Int → Int} : ∀ xs : List α, (xs.map fun x => sI lo n (f x)).sum = sI lo n fun y => (xs.map fun x => f x y).sum
  | [] => by
    exact (sI_zero fun y _ _ => rfl).symm
  | x :: xs => by
    rw [List.map_cons, List.sum_cons, sI_sum xs, ← sI_add]
    rfl
/-! the way of an odd heap -/
def wy (h : Int → Int) (L : Int → Bool) (j : Nat) (y : Int) : Int := rgt (runS h L j).1 (runS h L j).2 y - lft (runS h L j).1 (runS h L j).2 y
theorem wy_eq (h : Int → Int) (L : Int → Bool) (j : Nat) (y : Int) : wy h L j y = if (runS h L j).1 y % 2 = 1 then (if (runS h L j).2 y = true then -1 else 1) else 0 := by
  unfold wy rgt lft
  generalize (runS h L j).1 y = z
  split <;> split <;> omega
/-- heaps stay near -/
def Far (B : Int) (h : Int → Int) : Prop := ∀ y, y < -B ∨ B < y → h y = 0
theorem lft_zero {h : Int → Int} {L : Int → Bool} {y : Int} (e : h y = 0) : lft h L y = 0 := by
  unfold lft
  rw [e]
  split <;> rfl
theorem rgt_zero {h : Int → Int} {L : Int → Bool} {y : Int} (e : h y = 0) : rgt h L y = 0 := by
  unfold rgt
  rw [lft_zero e, e]
  rfl
theorem Far.run {B : Int} {h : Int → Int} {L : Int → Bool} (f : Far B h) : ∀ j : Nat, Far (B + j) (runS h L j).1
  | 0 => fun y c => f y (by omega)
  | j + 1 => fun y c => by
    have ih := Far.run (L := L) f j
    show rgt _ _ (y - 1) + lft _ _ (y + 1) = 0
    rw [rgt_zero (ih _ (by omega)), lft_zero (ih _ (by omega))]
    rfl
/-- one tick: the mean goes over into the worth -/
theorem tele {B : Int} {h : Int → Int} {L : Int → Bool} (f : Far B h) (hB : B < 99) (n : Nat) (x : Int) :
    2 * wI (fun y => stepH h L y * P n (x - y)) = wI (fun y => h y * P (n + 1) (x - y)) + wI (fun y => (rgt h L y - lft h L y) * G (n + 1) (x - y)) := by
  have e1 : wI (fun y => rgt h L (y - 1) * P n (x - y)) = wI fun y => rgt h L y * P n (x - y - 1) := by
    have s := sI_shift (lo := -100) (f := fun y => rgt h L y * P n (x - y - 1)) 200
    rw [rgt_zero (f (-100 + ((200 : Nat) : Int) - 1) (by omega)), rgt_zero (f (-100 - 1) (by omega)), Int.zero_mul, Int.zero_mul, Int.add_zero, Int.add_zero] at s
    refine Eq.trans (sI_congr fun y _ _ => ?_) s
    show _ = rgt h L (y - 1) * P n (x - (y - 1) - 1)
    rw [show x - (y - 1) - 1 = x - y by omega]
  have e2 : wI (fun y => lft h L (y + 1) * P n (x - y)) = wI fun y => lft h L y * P n (x - y + 1) := by
    have s := sI_shift (lo := -100) (f := fun y => lft h L (y + 1) * P n (x - y)) 200
    rw [show (-100 : Int) + ((200 : Nat) : Int) - 1 + 1 = 100 by decide, show (-100 : Int) - 1 + 1 = -100 by decide, lft_zero (f 100 (by omega)), lft_zero (f (-100) (by omega)), Int.zero_mul, Int.zero_mul, Int.add_zero, Int.add_zero] at s
    rw [show wI (fun y => lft h L (y + 1) * P n (x - y)) = sI (-100) 200 (fun y => lft h L (y + 1) * P n (x - y)) from rfl, ← s]
    refine sI_congr fun y _ _ => ?_
    show lft h L (y - 1 + 1) * P n (x - (y - 1)) = _
    rw [show y - 1 + 1 = y by omega, show x - (y - 1) = x - y + 1 by omega]
  have e0 : wI (fun y => stepH h L y * P n (x - y)) = wI (fun y => rgt h L y * P n (x - y - 1)) + wI fun y => lft h L y * P n (x - y + 1) := by
    rw [← e1, ← e2, ← sI_add]
    refine sI_congr fun y _ _ => ?_
    unfold stepH
    rw [Int.add_mul]
  rw [e0, ← sI_add, ← sI_add, ← sI_mul]
  refine sI_congr fun y _ _ => ?_
  have eP : P (n + 1) (x - y) = P n (x - y - 1) + P n (x - y + 1) := rfl
  have eG : G (n + 1) (x - y) = P n (x - y - 1) - P n (x - y + 1) := rfl
  have eh : h y = rgt h L y + lft h L y := by unfold rgt; omega
  rw [eP, eG, eh]
  generalize rgt h L y = a
  generalize lft h L y = b
  generalize P n (x - y - 1) = p
  generalize P n (x - y + 1) = q
  simp only [Int.add_mul, Int.mul_add, Int.sub_mul, Int.mul_sub]
  generalize a * p = u1
  generalize a * q = u2
  generalize b * p = u3
  generalize b * q = u4
  omega
theorem row_gap {B : Int} {h : Int → Int} {L : Int → Bool} (f : Far B h) (e : Nat) (hB : B + e < 99) (x : Int) : ∀ j : Nat, j ≤ e →
    2 ^ j * wI (fun y => (runS h L j).1 y * P (e - j) (x - y)) = wI (fun y => h y * P e (x - y)) + ((List.range j).map fun i : Nat => 2 ^ i * wI fun y => wy h L i y * G (e - i) (x - y)).sum
  | 0, _ => by
    rw [Int.pow_zero, Int.one_mul]
    show wI (fun y => h y * P (e - 0) (x - y)) = wI _ + 0
    rw [Nat.sub_zero, Int.add_zero]
  | j + 1, hj => by
    have ih := row_gap f (L := L) e hB x j (by omega)
    have t := tele (L := (runS h L j).2) (f.run (L := L) j) (by omega) (e - (j + 1)) x
    rw [show e - (j + 1) + 1 = e - j by omega] at t
    rw [List.range_succ, List.map_append, sum_app, Int.pow_succ, Int.mul_assoc]
    show 2 ^ j * (2 * wI fun y => stepH (runS h L j).1 (runS h L j).2 y * P (e - (j + 1)) (x - y)) = _
    rw [t, Int.mul_add, ih]
    simp only [List.map_cons, List.map_nil, List.sum_cons, List.sum_nil]
    show _ + 2 ^ j * wI (fun y => wy h L j y * G (e - j) (x - y)) = _
    omega
theorem wI_pick {q : Int → Int} {x : Int} (hx : -100 ≤ x ∧ x < 100) : wI (fun y => q y * P 0 (x - y)) = q x := by
  have h := wI_of (f := fun y => q y * P 0 (x - y)) (ys := [x]) (List.nodup_cons.mpr ⟨fun h => (nomatch h), List.nodup_nil⟩) (fun y hy => by rw [List.mem_singleton.mp hy]; exact hx) fun y hy => by
    show q y * (if x - y = 0 then 1 else 0) = 0
    rw [if_neg (fun z => hy (List.mem_singleton.mpr (by omega))), Int.mul_zero]
  rw [← h]
  show q x * (if x - x = 0 then 1 else 0) + 0 = q x
  rw [if_pos (by omega)]
  omega
theorem two_pw (last e i : Nat) (h1 : i ≤ e) (h2 : e ≤ last) : (2 : Int) ^ (last - e) * 2 ^ i = 2 ^ (last - (e - i)) := by
  rw [← Int.pow_add]
  congr 1
  omega
/-- what one spot adds -/
def addS (h : Int → Int) (L : Int → Bool) (g : Int → Int → Int) (n : Nat) (y : Int) : Int := ((List.range n).map fun j : Nat => wy h L j y * g y j).sum
theorem addS_succ (h : Int → Int) (L : Int → Bool) (g : Int → Int → Int) (n : Nat) (y : Int) : addS h L g (n + 1) y = addS h L g n y + wy h L n y * g y n := by
  unfold addS
  rw [List.range_succ, List.map_append, sum_app]
  simp
theorem map_sum_mul {α : Type} (c : Int) {f : α → Int} : ∀ xs : List α, c * (xs.map f).sum = (xs.map fun x => c * f x).sum
  | [] => Int.mul_zero c
  | x :: xs => by
    rw [List.map_cons, List.map_cons, List.sum_cons, List.sum_cons, Int.mul_add, map_sum_mul c xs]
theorem map_sum_add {α : Type} {f g : α → Int} : ∀ xs : List α, (xs.map fun x => f x + g x).sum = (xs.map f).sum + (xs.map g).sum
  | [] => rfl
  | x :: xs => by
    rw [List.map_cons, List.map_cons, List.map_cons, List.sum_cons, List.sum_cons, List.sum_cons, map_sum_add xs]
    omega
theorem sum_swap {α β : Type} {f : α → β → Int} (ys : List β) : ∀ xs : List α, (xs.map fun x => (ys.map fun y => f x y).sum).sum = (ys.map fun y => (xs.map fun x => f x y).sum).sum
  | [] => by
    rw [sum_zero (l := ys)]
    · rfl
    · intro y _; rfl
  | x :: xs => by
    rw [List.map_cons, List.sum_cons, sum_swap ys xs, ← map_sum_add]
    rfl
/-- a sum cut off behind e -/
theorem sum_cut {f : Nat → Int} {e n : Nat} (h : e ≤ n) : ((List.range n).map fun i => if i < e then f i else 0).sum = ((List.range e).map f).sum := by
  induction n with
  | zero =>
    have : e = 0 := by omega
    subst this
    rfl
  | succ n ih =>
    rw [List.range_succ, List.map_append, sum_app]
    by_cases c : e ≤ n
    · rw [ih c]
      show _ + ((if n < e then f n else 0) + 0) = _
      rw [if_neg (by omega)]
      omega
    · have : e = n + 1 := by omega
      subst this
      rw [List.range_succ, List.map_append, sum_app]
      congr 1
      · refine congrArg List.sum (List.map_congr_left fun i hi => ?_)
        have := List.mem_range.mp hi
        rw [if_pos (by omega)]
      · show (if n < n + 1 then f n else 0) + 0 = f n + 0
        rw [if_pos (by omega)]
/-- a row's part of the gap -/
theorem row_adds {B : Int} {h : Int → Int} {L : Int → Bool} (f : Far B h) {last e : Nat} (hel : e ≤ last) (hB : B + last < 99) {x w : Int} (hx : -100 ≤ x ∧ x < 100) :
    w * ((runS h L e).1 x * 2 ^ last - wI (fun y => h y * P e (x - y)) * 2 ^ (last - e)) =
      wI fun y => ((List.range last).map fun j : Nat => wy h L j y * (if (j : Int) < (e : Int) then w * G (e - j) (x - y) * 2 ^ (last - (e - j)) else 0)).sum := by
  have r := row_gap f (L := L) e (by omega) x e (Nat.le_refl _)
  rw [Nat.sub_self, wI_pick hx] at r
  have e1 : (runS h L e).1 x * 2 ^ last = 2 ^ (last - e) * (2 ^ e * (runS h L e).1 x) := by
    rw [← Int.mul_assoc, ← Int.pow_add, show last - e + e = last by omega, Int.mul_comm]
  rw [e1, r, Int.mul_add, Int.mul_comm (wI _) (2 ^ (last - e))]
  rw [show ∀ a b : Int, a + b - a = b by intros; omega, map_sum_mul, map_sum_mul, wI, ← sI_sum, ← sum_cut hel]
  refine congrArg List.sum (List.map_congr_left fun j hj => ?_)
  by_cases c : j < e
  · rw [if_pos c, ← Int.mul_assoc (2 ^ (last - e)), two_pw last e j (by omega) hel, ← Int.mul_assoc, ← sI_mul]
    refine sI_congr fun y _ _ => ?_
    rw [if_pos (by omega)]
    simp only [Int.mul_assoc, Int.mul_comm, Int.mul_left_comm]
  · rw [if_neg c]
    symm
    refine sI_zero fun y _ _ => ?_
    rw [if_neg (by omega), Int.mul_zero]
/-- all rows: the gap is what the spots add -/
theorem rows_add {B : Int} {h : Int → Int} {L : Int → Bool} (f : Far B h) {last : Nat} (hB : B + last < 99) {rs : List (Int × Int × Int)} (hr : ∀ r ∈ rs, -6 ≤ r.1 ∧ r.1 ≤ 7 ∧ 0 ≤ r.2.1 ∧ r.2.1 ≤ last) :
    (rs.map fun r => r.2.2 * ((runS h L r.2.1.toNat).1 r.1 * 2 ^ last - wI (fun y => h y * P r.2.1.toNat (r.1 - y)) * 2 ^ (last - r.2.1.toNat))).sum = wI (addS h L (fun y t => chgI rs last y t.toNat) last) := by
  have e1 : (rs.map fun r => r.2.2 * ((runS h L r.2.1.toNat).1 r.1 * 2 ^ last - wI (fun y => h y * P r.2.1.toNat (r.1 - y)) * 2 ^ (last - r.2.1.toNat))) =
      rs.map fun r => wI fun y => ((List.range last).map fun j : Nat => wy h L j y * (if (j : Int) < r.2.1 then r.2.2 * G (r.2.1.toNat - j) (r.1 - y) * 2 ^ (last - (r.2.1.toNat - j)) else 0)).sum := by
    refine List.map_congr_left fun r hr2 => ?_
    obtain ⟨a, b, c, d⟩ := hr r hr2
    rw [row_adds f (by omega) hB (by omega)]
    refine sI_congr fun y _ _ => ?_
    refine congrArg List.sum (List.map_congr_left fun j _ => ?_)
    rw [Int.toNat_of_nonneg c]
  rw [e1]
  unfold wI
  rw [sI_sum]
  refine sI_congr fun y _ _ => ?_
  rw [sum_swap]
  unfold addS chgI
  refine congrArg List.sum (List.map_congr_left fun j _ => ?_)
  rw [← map_sum_mul]
  simp only [Int.toNat_natCast]
end K86
end
section
set_option autoImplicit false
namespace K86
/-- heaps of one colour -/
def Col (c : Int) (h : Int → Int) : Prop := ∀ y, y % 2 ≠ c → h y = 0
theorem Col.run {c : Int} {h : Int → Int} {L : Int → Bool} (f : Col c h) (hc : c = 0 ∨ c = 1) : ∀ (j : Nat) (y : Int), (y + j) % 2 ≠ c → (runS h L j).1 y = 0
  | 0, y, e => f y (by omega)
  | j + 1, y, e => by
    have ih := Col.run (L := L) f hc j
    show rgt _ _ (y - 1) + lft _ _ (y + 1) = 0
    rw [rgt_zero (ih _ (by omega)), lft_zero (ih _ (by omega))]
    rfl
def sgB (b : Bool) : Int := if b = true then -1 else 1
theorem sgB_or (b : Bool) : sgB b = 1 ∨ sgB b = -1 := by cases b; exact .inl rfl; exact .inr rfl
theorem sgB_not (b : Bool) : sgB (!b) = -sgB b := by cases b <;> rfl
/-- one spot's tale, told by its turns -/
theorem spot_aS {c : Int} {h : Int → Int} {L : Int → Bool} (f : Col c h) (hc : c = 0 ∨ c = 1) (g : Int → Int → Int) (y : Int) : ∀ n : Nat,
    (addS h L g n y, sgB ((runS h L n).2 y)) = aS (sgB (L y)) (fun i : Nat => g y ((y + c) % 2 + (i : Int) * 2)) (fun i : Nat => decide ((runS h L (((y + c) % 2).toNat + 2 * i)).1 y % 2 = 1)) ((n + 1 - ((y + c) % 2).toNat) / 2)
  | 0 => by
    rw [show (0 + 1 - ((y + c) % 2).toNat) / 2 = 0 by omega]
    rfl
  | n + 1 => by
    have ih := spot_aS (L := L) f hc g y n
    have w := wy_eq h L n y
    rw [addS_succ]
    by_cases e : (y + n) % 2 = c
    · have m : (n + 1 + 1 - ((y + c) % 2).toNat) / 2 = (n + 1 - ((y + c) % 2).toNat) / 2 + 1 := by omega
      have t : ((y + c) % 2).toNat + 2 * ((n + 1 - ((y + c) % 2).toNat) / 2) = n := by omega
      have t2 : (y + c) % 2 + (((n + 1 - ((y + c) % 2).toNat) / 2 : Nat) : Int) * 2 = n := by omega
      rw [m, aS_succ, ← ih]
      simp only [t, t2]
      by_cases o : (runS h L n).1 y % 2 = 1
      · rw [if_pos (decide_eq_true o), w, if_pos o]
        congr 1
        show sgB (if (runS h L n).1 y % 2 = 1 then !(runS h L n).2 y else (runS h L n).2 y) = _
        rw [if_pos o, sgB_not]
      · rw [if_neg (by rw [decide_eq_false o]; decide), w, if_neg o, Int.zero_mul, Int.add_zero]
        congr 1
        show sgB (if (runS h L n).1 y % 2 = 1 then !(runS h L n).2 y else (runS h L n).2 y) = _
        rw [if_neg o]
    · have m : (n + 1 + 1 - ((y + c) % 2).toNat) / 2 = (n + 1 - ((y + c) % 2).toNat) / 2 := by omega
      have z := f.run (L := L) hc n y e
      rw [m, ← ih, w, z, if_neg (by decide), Int.zero_mul, Int.add_zero]
      congr 1
      show sgB (if (runS h L n).1 y % 2 = 1 then !(runS h L n).2 y else (runS h L n).2 y) = _
      rw [z, if_neg (by decide)]
/-- a spot's changes, in the order of ticks -/
def csP (g : Int → Int → Int) (last : Nat) (c y : Int) : List Int := (List.range ((last + 1 - ((y + c) % 2).toNat) / 2)).map fun i => g y ((y + c) % 2 + (i : Nat) * 2)
theorem csP_len (g : Int → Int → Int) (last : Nat) (c y : Int) : (csP g last c y).length = (last + 1 - ((y + c) % 2).toNat) / 2 := by
  unfold csP
  rw [List.length_map, List.length_range]
theorem csP_at {g : Int → Int → Int} {last : Nat} {c y : Int} {i : Nat} (h : i < (csP g last c y).length) : (csP g last c y).getD i 0 = g y ((y + c) % 2 + (i : Int) * 2) := by
  rw [csP_len] at h
  unfold csP
  rw [List.getD_eq_getElem?_getD, List.getElem?_map, List.getElem?_range h]
  rfl
theorem spot_cs {c : Int} {h : Int → Int} {L : Int → Bool} (f : Col c h) (hc : c = 0 ∨ c = 1) (g : Int → Int → Int) (y : Int) (last : Nat) :
    addS h L g last y = (aS (sgB (L y)) (fun i => (csP g last c y).getD i 0) (fun i : Nat => decide ((runS h L (((y + c) % 2).toNat + 2 * i)).1 y % 2 = 1)) (csP g last c y).length).1 := by
  have q := congrArg Prod.fst (spot_aS (L := L) f hc g y last)
  refine q.trans ?_
  rw [csP_len, aS_congr (d' := fun i => (csP g last c y).getD i 0) (fun i hi => (csP_at (by rw [csP_len]; exact hi)).symm) fun i _ => rfl]
theorem wS_le {f g : Int → Int} (h : ∀ y, f y ≤ g y) : wS f ≤ wS g := by
  unfold wS
  generalize win = l
  induction l with
  | nil => exact Int.le_refl _
  | cons x l ih =>
    rw [List.map_cons, List.map_cons, List.sum_cons, List.sum_cons]
    have := h x
    omega
theorem wS_neg {f : Int → Int} : wS (fun y => -f y) = -wS f := by
  unfold wS
  generalize win = l
  induction l with
  | nil => rfl
  | cons x l ih =>
    rw [List.map_cons, List.map_cons, List.sum_cons, List.sum_cons, ih]
    omega
theorem wS_congr {f g : Int → Int} (h : ∀ y, -30 ≤ y → y < 30 → f y = g y) : wS f = wS g := by
  unfold wS
  congr 1
  exact List.map_congr_left fun y hy => h y (mem_win.mp hy).1 (mem_win.mp hy).2
section
variable {c : Int} {h : Int → Int} {L : Int → Bool} (f : Col c h) (hc : c = 0 ∨ c = 1) (g : Int → Int → Int) (last : Nat)
include f hc
theorem add_le_bt : wS (addS h L g last) ≤ wS fun y => (btEnd (csP g last c y)).1 := wS_le fun y => by
  rw [spot_cs f hc g y last]
  exact aS_bt (sgB_or _) _ _
theorem add_ge_bt : -(wS fun y => (btEnd (csP g last c y)).1) ≤ wS (addS h L g last) := by
  rw [← wS_neg]
  refine wS_le fun y => ?_
  rw [spot_cs f hc g y last]
  exact aS_bt_low (sgB_or _) _ _
theorem add_le_gf : wS (addS h L g last) ≤ wS fun y => gf (sgB (L y)) (csP g last c y) := wS_le fun y => by
  rw [spot_cs f hc g y last]
  exact aS_gf (sgB_or _) _ _
theorem add_ge_gf : (wS fun y => -gf (-sgB (L y)) (csP g last c y)) ≤ wS (addS h L g last) := wS_le fun y => by
  rw [spot_cs f hc g y last]
  exact aS_low (sgB_or _) _ _
/-- a spot of a worst start adds its greatest -/
theorem add_worst {S : Int → Int → Bool} {lo hi : Int} (y : Int) (hS : ∀ i : Nat, i < (csP g last c y).length → S y ((y + c) % 2 + 2 * (i : Int)) = decide (i ∈ (btEnd (csP g last c y)).2)) (hL : sgB (L y) = btSign (csP g last c y))
    (hm : ∀ j, j < last → metW h L S c lo hi last j) (h0 : ∀ t : Nat, t < last → y < lo - ((last : Int) - t) ∨ hi + ((last : Int) - t) < y → g y t = 0) : addS h L g last y = (btEnd (csP g last c y)).1 := by
  rw [spot_cs f hc g y last, hL, ← bt_reached]
  refine aS_tail fun i hi2 => ?_
  have hl := csP_len g last c y
  by_cases w : lo - ((last : Int) - (((y + c) % 2).toNat + 2 * i : Nat)) ≤ y ∧ y ≤ hi + ((last : Int) - (((y + c) % 2).toNat + 2 * i : Nat))
  · refine .inl ?_
    have q := hm (((y + c) % 2).toNat + 2 * i) (by omega) y w.1 w.2 (by omega)
    have e : ((((y + c) % 2).toNat + 2 * i : Nat) : Int) = (y + c) % 2 + 2 * (i : Int) := by omega
    rw [e, hS i hi2] at q
    exact decide_eq_decide.mpr (q.trans ⟨fun z => of_decide_eq_true z, fun z => decide_eq_true z⟩)
  · refine .inr fun j h1 h2 => ?_
    rw [csP_at h2]
    have e : (y + c) % 2 + (j : Int) * 2 = ((((y + c) % 2).toNat + 2 * j : Nat) : Int) := by omega
    rw [e]
    exact h0 _ (by omega) (by omega)
end
/-! the changes -/
theorem chgI_perm {rs rs' : List (Int × Int × Int)} (p : rs'.Perm rs) (last : Nat) (y : Int) (t : Nat) : chgI rs' last y t = chgI rs last y t := sum_perm p
theorem G_out {n : Nat} {f : Int} (h : (n : Int) < f ∨ f < -(n : Int)) : G n f = 0 := by
  rcases h with h | h
  · exact G_far n f h
  · have e := G_anti n (-f)
    rw [Int.neg_neg, G_far n (-f) (by omega)] at e
    exact e
theorem chgI_out {rs : List (Int × Int × Int)} {last : Nat} {y lo hi : Int} {t : Nat} (hr : ∀ r ∈ rs, lo ≤ r.1 ∧ r.1 ≤ hi ∧ r.2.1 ≤ last) (h : y < lo - ((last : Int) - t) ∨ hi + ((last : Int) - t) < y) : chgI rs last y t = 0 := by
  refine sum_zero fun r hr2 => ?_
  have q := hr r hr2
  by_cases c : (t : Int) < r.2.1
  · rw [if_pos c, G_out (by omega), Int.mul_zero, Int.zero_mul]
  · rw [if_neg c]
theorem chgI_wide {rs : List (Int × Int × Int)} {last : Nat} {y : Int} {t : Nat} (hl : last ≤ 8) (hr : ∀ r ∈ rs, -6 ≤ r.1 ∧ r.1 ≤ 7 ∧ r.2.1 ≤ last) (h : y < -30 ∨ 30 ≤ y) : chgI rs last y t = 0 := chgI_out (lo := -6) (hi := 7) hr (by omega)
theorem sum_map_flat {α : Type} (f : α → List (Int × Int × Int)) (y t : Int) : ∀ xs : List α, sC (xs.flatMap f) y t = (xs.map fun x => sC (f x) y t).sum
  | [] => rfl
  | x :: xs => by
    rw [List.flatMap_cons, sC_app, List.map_cons, List.sum_cons, sum_map_flat f y t xs]
theorem far_nd (n k : Nat) : ((List.range k).map (farAt n)).Nodup := by
  have h : (List.range k).Nodup := List.nodup_range
  unfold List.Nodup at h ⊢
  exact List.Pairwise.map _ (fun a b hab => by unfold farAt; omega) h
theorem cL_pick {n : Nat} {v : Int} (f : Int → Int) (h : 0 < v ∧ v ≤ n ∧ (n + v) % 2 = 0 ∨ f v = 0) : ((cL n).map fun p => if p.1 = v then f p.1 else 0).sum = f v := by
  have e : ((cL n).map fun p => if p.1 = v then f p.1 else 0) = (((List.range ((n + 1) / 2)).map (farAt n)).map fun z => if z = v then f z else 0) := by
    unfold cL cLk
    rw [List.map_map, List.map_map]
    rfl
  rw [e]
  refine sum_pick (far_nd n _) fun q => ?_
  rcases h with ⟨h1, h2, h3⟩ | h
  · refine absurd (List.mem_map.mpr ⟨((v - (2 - (n : Int) % 2)) / 2).toNat, List.mem_range.mpr ?_, ?_⟩) q
    · omega
    · unfold farAt
      omega
  · exact h
theorem sC_tick (place w : Int) (last e t : Nat) (y : Int) : sC (rcTick place w last e t) y t = w * G (e - t) (place - y) * 2 ^ (last - (e - t)) := by
  unfold rcTick
  rw [sum_map_flat]
  have e1 : ((cL (e - t)).map fun x => sC (rcOne place w last t (e - t) x) y t) = (cL (e - t)).map fun p => (if p.1 = place - y then w * G (e - t) p.1 * 2 ^ (last - (e - t)) else 0) + (if p.1 = y - place then -(w * G (e - t) p.1 * 2 ^ (last - (e - t))) else 0) := by
    refine List.map_congr_left fun p hp => ?_
    have g := (cL_mem hp).1
    unfold rcOne sC
    simp only [List.map_cons, List.map_nil, List.sum_cons, List.sum_nil, and_true, g]
    by_cases c1 : p.1 = place - y
    · rw [if_pos c1, if_pos (show place - p.1 = y by omega)]
      by_cases c2 : p.1 = y - place
      · rw [if_pos c2, if_pos (show place + p.1 = y by omega)]
        omega
      · rw [if_neg c2, if_neg (show ¬ place + p.1 = y by omega)]
        omega
    · rw [if_neg c1, if_neg (show ¬ place - p.1 = y by omega)]
      by_cases c2 : p.1 = y - place
      · rw [if_pos c2, if_pos (show place + p.1 = y by omega)]
        omega
      · rw [if_neg c2, if_neg (show ¬ place + p.1 = y by omega)]
        omega
  rw [e1, map_sum_add]
  have ev : y - place = -(place - y) := by omega
  rw [ev]
  generalize place - y = v
  have hz : ∀ u : Int, ¬ (0 < u ∧ u ≤ ((e - t : Nat) : Int) ∧ (((e - t : Nat) : Int) + u) % 2 = 0) → 0 < u → G (e - t) u = 0 := fun u q hu => by
    by_cases c : ((e - t : Nat) : Int) < u
    · exact G_far _ _ c
    · exact G_par _ _ (by omega)
  by_cases c0 : 0 < v
  · rw [cL_pick (fun z => w * G (e - t) z * 2 ^ (last - (e - t))), show ((cL (e - t)).map fun p => if p.1 = -v then -(w * G (e - t) p.1 * 2 ^ (last - (e - t))) else 0).sum = 0 from sum_zero fun p hp => if_neg (by have := cL_mem hp; omega)]
    · omega
    · by_cases q : 0 < v ∧ v ≤ ((e - t : Nat) : Int) ∧ (((e - t : Nat) : Int) + v) % 2 = 0
      · exact .inl q
      · exact .inr (by rw [hz v q c0, Int.mul_zero, Int.zero_mul])
  · by_cases c1 : v = 0
    · subst c1
      rw [show ((cL (e - t)).map fun p => if p.1 = -0 then -(w * G (e - t) p.1 * 2 ^ (last - (e - t))) else 0).sum = 0 from sum_zero fun p hp => if_neg (by have := cL_mem hp; omega), show ((cL (e - t)).map fun p => if p.1 = 0 then w * G (e - t) p.1 * 2 ^ (last - (e - t)) else 0).sum = 0 from sum_zero fun p hp => if_neg (by have := cL_mem hp; omega), G_zero, Int.mul_zero, Int.zero_mul]
      rfl
    · rw [cL_pick (fun z => -(w * G (e - t) z * 2 ^ (last - (e - t)))), show ((cL (e - t)).map fun p => if p.1 = v then w * G (e - t) p.1 * 2 ^ (last - (e - t)) else 0).sum = 0 from sum_zero fun p hp => if_neg (by have := cL_mem hp; omega)]
      · rw [G_anti, Int.mul_neg, Int.neg_mul, Int.neg_neg, Int.zero_add]
      · by_cases q : 0 < -v ∧ -v ≤ ((e - t : Nat) : Int) ∧ (((e - t : Nat) : Int) + -v) % 2 = 0
        · exact .inl q
        · exact .inr (by rw [hz (-v) q (by omega), Int.mul_zero, Int.zero_mul]; rfl)
theorem sC_off (place w : Int) (last e s : Nat) (y t : Int) (h : (s : Int) ≠ t) : sC (rcTick place w last e s) y t = 0 := by
  unfold rcTick
  rw [sum_map_flat]
  refine sum_zero fun p _ => ?_
  unfold rcOne sC
  simp only [List.map_cons, List.map_nil, List.sum_cons, List.sum_nil]
  rw [if_neg fun z => h z.2, if_neg fun z => h z.2]
  rfl
theorem sC_rcN (place w : Int) (last e : Nat) (y : Int) (t : Nat) : ∀ n : Nat, sC (rcN place w last e n) y t = if t < n then w * G (e - t) (place - y) * 2 ^ (last - (e - t)) else 0
  | 0 => by
    rw [if_neg (by omega)]
    rfl
  | n + 1 => by
    rw [rcN_succ, sC_app, sC_rcN place w last e y t n]
    by_cases c : n = t
    · subst c
      rw [sC_tick, if_neg (by omega), if_pos (by omega)]
      omega
    · rw [sC_off _ _ _ _ _ _ _ (by omega)]
      by_cases c2 : t < n
      · rw [if_pos c2, if_pos (by omega)]; omega
      · rw [if_neg c2, if_neg (by omega)]; rfl
theorem sC_chg {rs : List (Int × Int × Int)} (hr : ∀ r ∈ rs, 0 ≤ r.2.1) (last : Nat) (y : Int) (t : Nat) : sC (rcAll last rs) y t = chgI rs last y t := by
  unfold rcAll chgI
  rw [sum_map_flat]
  refine congrArg List.sum (List.map_congr_left fun r hr2 => ?_)
  unfold rcRow
  rw [sC_rcN]
  have := hr r hr2
  by_cases c : t < r.2.1.toNat
  · rw [if_pos c, if_pos (by omega)]
  · rw [if_neg c, if_neg (by omega)]
theorem csP_congr {g g' : Int → Int → Int} {last : Nat} {c y : Int} (h : ∀ t : Nat, g y t = g' y t) : csP g last c y = csP g' last c y := by
  unfold csP
  refine List.map_congr_left fun i _ => ?_
  have e : (y + c) % 2 + (i : Nat) * 2 = ((((y + c) % 2).toNat + 2 * i : Nat) : Int) := by omega
  rw [e]
  exact h _
theorem addS_congr {h : Int → Int} {L : Int → Bool} {g g' : Int → Int → Int} {last : Nat} {y : Int} (e : ∀ t : Nat, g y t = g' y t) : addS h L g last y = addS h L g' last y := by
  unfold addS
  refine congrArg List.sum (List.map_congr_left fun j _ => ?_)
  rw [e]
/-- by ticks -/
theorem sum_ticks {f : Int × Int × Int → Int} (n : Nat) : ∀ rs : List (Int × Int × Int), (∀ r ∈ rs, 0 ≤ r.2.1 ∧ r.2.1 < n) → ((List.range n).map fun t : Nat => ((rs.filter fun r => decide (r.2.1 = (t : Int))).map f).sum).sum = (rs.map f).sum
  | [], _ => sum_zero fun t _ => rfl
  | r :: rs, h => by
    have ih := sum_ticks (f := f) n rs fun q hq => h q (List.mem_cons_of_mem _ hq)
    have hr := h r List.mem_cons_self
    rw [List.map_cons, List.sum_cons, ← ih]
    have e : ((List.range n).map fun t : Nat => (((r :: rs).filter fun r => decide (r.2.1 = (t : Int))).map f).sum) = (List.range n).map fun t : Nat => (if (t : Int) = r.2.1 then f r else 0) + ((rs.filter fun r => decide (r.2.1 = (t : Int))).map f).sum := by
      refine List.map_congr_left fun t _ => ?_
      rw [List.filter_cons]
      by_cases c : r.2.1 = (t : Int)
      · rw [if_pos (decide_eq_true c), if_pos c.symm, List.map_cons, List.sum_cons]
      · rw [if_neg (by rw [decide_eq_false c]; decide), if_neg (fun z => c z.symm), Int.zero_add]
    rw [e, map_sum_add]
    congr 1
    have nd : ((List.range n).map fun t : Nat => (t : Int)).Nodup := by
      have h : (List.range n).Nodup := List.nodup_range
      unfold List.Nodup at h ⊢
      exact List.Pairwise.map _ (fun a b hab => by omega) h
    have q := sum_pick (f := fun _ => f r) (k := r.2.1) nd fun q => absurd (List.mem_map.mpr ⟨r.2.1.toNat, List.mem_range.mpr (by omega), by omega⟩) q
    rw [List.map_map] at q
    exact q
theorem tick_tab : ∀ last : Nat, last < 9 → ∀ p : Nat, p < 2 → ((List.range last).filter fun t => decide ((t + p) % 2 = 0)) = (List.range ((last + 1 - p) / 2)).map fun i => p + 2 * i := by decide
/-- the law's ticks are the program's -/
theorem tick_eq {last : Nat} (hl : last ≤ 8) (c y : Int) (g : Int → Int → Int) : ((List.range last).filter fun t : Nat => decide ((y + (t : Int) + c) % 2 = 0)).map (fun t : Nat => g y t) = csP g last c y := by
  have e : ((List.range last).filter fun t : Nat => decide ((y + (t : Int) + c) % 2 = 0)) = (List.range last).filter fun t => decide ((t + ((y + c) % 2).toNat) % 2 = 0) := by
    refine List.filter_congr fun t _ => decide_eq_decide.mpr ?_
    omega
  rw [e, tick_tab last (by omega) _ (by omega)]
  unfold csP
  rw [List.map_map]
  refine List.map_congr_left fun i _ => ?_
  show g y ((((y + c) % 2).toNat + 2 * i : Nat) : Int) = _
  rw [show ((((y + c) % 2).toNat + 2 * i : Nat) : Int) = (y + c) % 2 + (i : Int) * 2 by omega]
end K86
end
section
set_option Elab.async false
set_option linter.all false
set_option maxRecDepth 100000
namespace K86
open PySem PySem.Spec PyProof.Rows L2
open C8 (Cal Met Mak pe_c pe_mk pe_mt pe_mt0)
/-! what is handed back: a value that P speaks of, all that stood standing -/
def RetV (H : Hp) (Q : VK) (P : V → Hp → Prop) : Prop := ∀ v H', Same H H' → P v H' → Q v H'
/-- a pair of ints -/
def P2 (K : PySem.W.Frag) (H : Hp) (v : V) (x y : Int) : Prop := ∃ a, v = .ref a ∧ SqT K H a [.int x, .int y]
/-- the fraction n / 2 ^ k -/
def FrV (K : PySem.W.Frag) (k : Nat) (n : Int) (v : V) (H : Hp) : Prop := P2 K H v (frac k n).1 (frac k n).2
section
variable {K : PySem.W.Frag} {H H' : Hp} {v : V} {x y : Int} {k : Nat} {n : Int}
theorem same_new {p : Addr} {o : HO} (h : H p = none) : Same H (upd H p o) := fun b u e => by
  rw [upd_ne (ne_of_none e h)]
  exact e
theorem Same.sqt {a : Addr} {xs : List V} (e : Same H H') (h : SqT K H a xs) : SqT K H' a xs := by
  rcases h with (h | ⟨o, h⟩) | h
  · exact .inl (.inl (e _ _ h))
  · exact .inl (.inr ⟨o, e _ _ h⟩)
  · exact .inr h
theorem P2.mono (e : Same H H') (h : P2 K H v x y) : P2 K H' v x y := by
  obtain ⟨a, rfl, h⟩ := h
  exact ⟨a, rfl, Same.sqt e h⟩
theorem FrV.mono (e : Same H H') (h : FrV K k n v H) : FrV K k n v H' := P2.mono e h
theorem P2.new {p : Addr} (h : H p = some (.tup [.int x, .int y])) : P2 K H (.ref p) x y := ⟨p, rfl, .inl (.inl h)⟩
end
section
variable {X : Cx}
/-- a constant of the module that is an int; one that is an object -/
theorem pe_gi {x : Str} {i : Int} {pos : Pos} (hg : Gl X x) (h : ∃ t, X.mg x = some (.int i t)) (hd : (x == ("__debug__" : Str)) = false := by decide) : PE X (.Name x pos) (tC (.int i)) := by
  obtain ⟨t, h⟩ := h
  exact pe_glob hg h ⟨t, rfl⟩ hd
theorem pe_gr {x : Str} {a : Addr} {pos : Pos} (hg : Gl X x) (h : X.mg x = some (.ref a)) (hd : (x == ("__debug__" : Str)) = false := by decide) : PE X (.Name x pos) (tC (.ref a)) := pe_glob hg h rfl hd
end
/-- e.f within a comprehension's block -/
theorem pe_fldK {X : Cx} {K : PySem.W.Frag} {e : Expr} {f : Str} {pos : Pos} {te : TE} (hk : X.K = K) (he : PE X e te) (hb : attributeBase e f X.env (eval e X.env) = eval e X.env) : PE X (.Attribute e f pos) (tFld K te f) := by
  rw [← hk]
  exact pe_fld he hb
/-- what is walked: one of two kinds -/
theorem pi_or {X : Cx} {tg it : Expr} {w1 w2 : TI} (h1 : PI X tg it w1) (h2 : PI X tg it w2) : PI X tg it (fun σ H R => w1 σ H R ∨ w2 σ H R) := ⟨fun pins s σ H R I h => h.elim (fun z => h1.run pins s σ H R I z) fun z => h2.run pins s σ H R I z⟩
/-- a list or a tuple -/
def SqB (K : PySem.W.Frag) (b : Bool) (H : Hp) (a : Addr) (xs : List V) : Prop := match b with
  | true => SqL K H a xs
  | false => SqT K H a xs
theorem SqB.or {K : PySem.W.Frag} {b : Bool} {H : Hp} {a : Addr} {xs : List V} (h : SqB K b H a xs) : SqL K H a xs ∨ SqT K H a xs := match b, h with
  | true, h => .inl h
  | false, h => .inr h
theorem SqB.mono {K : PySem.W.Frag} {b : Bool} {H H' : Hp} {a : Addr} {xs : List V} (e : Same H H') (h : SqB K b H a xs) : SqB K b H' a xs := match b, h with
  | true, h => e.seq h
  | false, h => Same.sqt e h
/-- for x in l, l a name that holds either -/
theorem sq_or {K : PySem.W.Frag} {b : Bool} {H : Hp} {a : Addr} {xs : List V} {i : Nat} {σ : L2.St} {R : It → Hp → Prop} (hv : σ[i]? = some (some (.ref a))) (h : SqB K b H a xs) (k : ∀ J : It, Walk J xs.length (fun H => SqB K b H a xs) (YAt xs) → R J H) :
    iList K (tVar i) σ H R ∨ iTup K (tVar i) σ H R := by
  cases b with
  | true => exact .inl ⟨_, hv, a, rfl, ⟨_, h⟩, k _ walk_list⟩
  | false => exact .inr ⟨_, hv, a, rfl, ⟨_, h⟩, k _ walk_tup⟩
theorem ty_list {K : PySem.W.Frag} {H : Hp} {a : Addr} {xs : List V} (h : SqL K H a xs) : TyX K H (.ref a) (.type "list") := by
  rcases h with (h | ⟨o, h⟩) | ⟨o, its, n, h1, h2, _⟩
  · exact .base (.lst h)
  · exact .base (.frz h)
  · exact .kList h1 h2
theorem ty_tup {K : PySem.W.Frag} {H : Hp} {a : Addr} {xs : List V} (h : SqT K H a xs) : TyX K H (.ref a) (.type "tuple") := by
  rcases h with (h | ⟨o, h⟩) | ⟨o, its, n, h1, h2, _⟩
  · exact .base (.tup h)
  · exact .fTuple h
  · exact .kTuple h1 h2
/-- isinstance(x, (list, tuple)) of a list or a tuple -/
theorem kit_lt {K : PySem.W.Frag} {H : Hp} {a : Addr} {xs : List V} {b : Bool} (h : SqB K b H a xs) : ∃ t, TyX K H (.ref a) t ∧ PySem.W.kitAny K t [.type "list", .type "tuple"] = some true := by
  cases b with
  | true => exact ⟨_, ty_list h, kitAny_cons (b := true) (kit_ty (by decide +kernel)) (fun z => nomatch z) (fun _ => rfl)⟩
  | false => exact ⟨_, ty_tup h, kitAny_cons (b := false) (kit_ty (by decide +kernel)) (fun _ => kitAny_cons (b := true) (kit_ty (by decide +kernel)) (fun z => nomatch z) fun _ => rfl) fun z => nomatch z⟩
theorem cls_lt : Paired ClsV [.ty "list", .ty "tuple"] [.type "list", .type "tuple"] := .cons (.ty _) (.cons (.ty _) .nil)
/-- an int or None -/
def oV : Option Int → V
  | some i => .int i
  | none => .non
/-! what never changes: tuples -/
def Im (H H' : Hp) : Prop := (∀ b xs, H b = some (.tup xs) → H' b = some (.tup xs)) ∧ ∀ b o xs, H b = some (.frz o (.tup xs)) → H' b = some (.frz o (.tup xs))
section
variable {K : PySem.W.Frag} {H H1 H' : Hp}
theorem Im.of (e : Same H H') : Im H H' := ⟨fun b xs h => e b _ h, fun b o xs h => e b _ h⟩
theorem Im.refl (H : Hp) : Im H H := Im.of (Same.refl H)
theorem Im.trans (a : Im H H1) (b : Im H1 H') : Im H H' := ⟨fun c xs h => b.1 c xs (a.1 c xs h), fun c o xs h => b.2 c o xs (a.2 c o xs h)⟩
theorem Im.mut {D : Addr} {o : HO} (h : Mut (H D)) : Im H (upd H D o) := by
  refine ⟨fun b xs e => ?_, fun b u xs e => ?_⟩
  · have n : b ≠ D := fun z => by rw [← z, e] at h; exact h
    rw [upd_ne n]
    exact e
  · have n : b ≠ D := fun z => by rw [← z, e] at h; exact h
    rw [upd_ne n]
    exact e
theorem Im.unl {D : Addr} {u : Obj} {kvs : List (Key × V)} {o : HO} (h : H D = some (.frz u (.dK kvs))) : Im H (upd H D o) := by
  refine ⟨fun b xs e => ?_, fun b u xs e => ?_⟩
  · have n : b ≠ D := fun z => by rw [← z, e] at h; nomatch h
    rw [upd_ne n]
    exact e
  · have n : b ≠ D := fun z => by rw [← z, e] at h; nomatch h
    rw [upd_ne n]
    exact e
theorem Im.new {D : Addr} {o : HO} (h : H D = none) : Im H (upd H D o) := Im.of (same_new h)
theorem Im.sqt {a : Addr} {xs : List V} (e : Im H H') (h : SqT K H a xs) : SqT K H' a xs := by
  rcases h with (h | ⟨o, h⟩) | h
  · exact .inl (.inl (e.1 _ _ h))
  · exact .inl (.inr ⟨o, e.2 _ _ _ h⟩)
  · exact .inr h
theorem P2.im {v : V} {x y : Int} (e : Im H H') (h : P2 K H v x y) : P2 K H' v x y := by
  obtain ⟨a, rfl, h⟩ := h
  exact ⟨a, rfl, e.sqt h⟩
theorem FrV.im {k : Nat} {n : Int} {v : V} (e : Im H H') (h : FrV K k n v H) : FrV K k n v H' := P2.im e h
/-- an object that H does not know has changed -/
theorem same_mut {D : Addr} {o : HO} (e : Same H H') (h : H D = none) : Same H (upd H' D o) := fun b u q => by
  rw [upd_ne (ne_of_none q h)]
  exact e b u q
end
/-- a comprehension without a test: the i-th item is as f says -/
theorem lc_map {J : It} {n : Nat} {G : Hp → Prop} {Y : Nat → Hp → V → Hp → Prop} (w : Walk J n G Y) {g : TG} {tt : TT} {te : TE} {vs : List Nat} {σ : L2.St} {H1 : Hp} {D : Addr} {Qd : Hp → Prop} (f : Nat → V → Hp → Prop) (hD : H1 D = none)
    (hf : ∀ i y H H', Im H H' → f i y H → f i y H') (hn : n ≤ 100000) (hG : ∀ H, Same H1 H → G H)
    (hs : ∀ i x H H' (N : Hp → Prop) (Q : VK), i < n → Same H1 H → Y i H x H' → (∀ y H4, Same H H4 → f i y H4 → Q y H4) → g x (wipe σ vs) H' fun σ2 H2 => wipe σ2 vs = wipe σ vs ∧ tt σ2 H2 fun b H3 => if b = true then te σ2 H3 Q else N H3)
    (hd : ∀ H acc, Same H1 H → H D = some (.lst acc) → acc.length = n → (∀ (i : Nat) y, acc[i]? = some y → f i y H) → Qd H) :
    ∃ W : Nat → Nat → Hp → Prop, (∃ m, W 0 m (upd H1 D (.lst []))) ∧ ∀ i m H, W i m H →
      (J.stop i H ∧ Qd H) ∨ (J.go i H ∧ ∃ Nx : Hp → Prop, (∀ H', Nx H' → ∃ m', m' < m ∧ W (i + 1) m' H') ∧ ∀ x H', J.yld i H x H' → g x (wipe σ vs) H' fun σ2 H2 => wipe σ2 vs = wipe σ vs ∧ tt σ2 H2 fun b H3 =>
        if b = true then te σ2 H3 fun y H4 => ∃ acc, H4 D = some (.lst acc) ∧ acc.length < sizeLine ∧ Nx (upd H4 D (.lst (acc ++ [y]))) else Nx H3) := by
  refine lc_it w (fun i H => Same H1 H ∧ ∃ acc, H D = some (.lst acc) ∧ acc.length = i ∧ ∀ (j : Nat) y, acc[j]? = some y → f j y H) ⟨same_new hD, [], upd_same, rfl, fun j y e => by simp at e⟩ (fun i H _ p => hG H p.1) ?_ fun H p => ?_
  · rintro i x H H' hi ⟨sm, acc, hacc, hl, hal⟩ y
    refine hs i x H H' _ _ hi sm y fun v H4 sm4 hv => ?_
    have hD4 : H4 D = some (.lst acc) := sm4 D _ hacc
    have im : Im H4 (upd H4 D (.lst (acc ++ [v]))) := Im.mut (by rw [hD4]; trivial)
    refine ⟨acc, hD4, Nat.lt_of_lt_of_le (Nat.lt_of_le_of_lt (Nat.le_of_eq hl) (Nat.lt_of_lt_of_le hi hn)) (by decide), same_mut (sm.trans sm4) hD, acc ++ [v], upd_same, by rw [List.length_append, hl]; rfl, fun j y e => ?_⟩
    by_cases hj : j < acc.length
    · rw [List.getElem?_append_left hj] at e
      exact hf j y _ _ ((Im.of sm4).trans im) (hal j y e)
    · rw [List.getElem?_append_right (by omega)] at e
      have e2 : j - acc.length = 0 := by
        cases q : j - acc.length with
        | zero => rfl
        | succ z => rw [q] at e; simp at e
      rw [e2] at e
      have e3 : v = y := by simpa using e
      have ej : j = i := by omega
      rw [← e3, ej]
      exact hf i v _ _ im hv
  · obtain ⟨sm, acc, h1, h2, h3⟩ := p
    exact hd H acc sm h1 h2 h3
theorem tyes {σ : L2.St} {H : Hp} {A B : Hp → Prop} (h : A H) : tYes σ H fun b H3 => if b = true then A H3 else B H3 := by
  show (if true = true then A H else B H)
  rw [if_pos rfl]
  exact h
/-- a list of True alone -/
theorem all_bs {K : PySem.W.Frag} {H : Hp} {D : Addr} {acc : List V} (hD : H D = some (.lst acc)) (hf : ∀ (i : Nat) y, acc[i]? = some y → y = .bl true) : ∃ bs : List Bool, SqL K H D (bs.map V.bl) ∧ bs.all id = true := by
  have e : acc = (List.replicate acc.length true).map V.bl := by
    rw [List.map_replicate]
    refine List.eq_replicate_iff.mpr ⟨rfl, fun y hy => ?_⟩
    obtain ⟨i, hi⟩ := List.getElem?_of_mem hy
    exact hf i y hi
  refine ⟨List.replicate acc.length true, .inl (.inl (by rw [← e]; exact hD)), ?_⟩
  rw [List.all_eq_true]
  intro x hx
  rw [(List.mem_replicate.mp hx).2] <;> rfl
theorem at_map {α : Type} {f : α → V} {xs : List α} {i : Nat} {y : V} (h : (xs.map f)[i]? = some y) : ∃ x, xs[i]? = some x ∧ y = f x := by
  rw [List.getElem?_map] at h
  obtain ⟨x, h1, h2⟩ := Option.map_eq_some_iff.mp h
  exact ⟨x, h1, h2.symm⟩
/-! lists of things -/
theorem paired_at {α : Type} {F : V → α → Prop} : ∀ {xs : List V} {as : List α}, Paired F xs as → ∀ {i : Nat} {x : V}, xs[i]? = some x → ∃ a, as[i]? = some a ∧ F x a
  | _, _, .nil, i, x, h => by simp at h
  | _, _, .cons r t, 0, x, h => by
    have e := Option.some.inj h
    exact ⟨_, rfl, by rw [← e]; exact r⟩
  | _, _, .cons r t, i + 1, x, h => paired_at t (i := i) h
theorem paired_of {α : Type} {F : V → α → Prop} : ∀ {xs : List V} {as : List α}, xs.length = as.length → (∀ (i : Nat) x a, xs[i]? = some x → as[i]? = some a → F x a) → Paired F xs as
  | [], [], _, _ => .nil
  | x :: xs, a :: as, hl, h => .cons (h 0 x a rfl rfl) (paired_of (Nat.succ.inj hl) fun i y b e1 e2 => h (i + 1) y b e1 e2)
  | [], _ :: _, hl, _ => by cases hl
  | _ :: _, [], hl, _ => by cases hl
theorem paired_app {α : Type} {F : V → α → Prop} {xs ys : List V} {as bs : List α} (h : Paired F xs as) (g : Paired F ys bs) : Paired F (xs ++ ys) (as ++ bs) := by
  induction h with
  | nil => exact g
  | cons r _ ih => exact .cons r ih
theorem paired_mem {α : Type} {F : V → α → Prop} {xs : List V} {as : List α} (h : Paired F xs as) {x : V} (hx : x ∈ xs) : ∃ a, a ∈ as ∧ F x a := by
  obtain ⟨i, hi⟩ := List.getElem?_of_mem hx
  obtain ⟨a, h1, h2⟩ := paired_at h hi
  exact ⟨a, List.mem_of_getElem? h1, h2⟩
theorem paired_perm {α : Type} {F : V → α → Prop} {xs ys : List V} (p : ys.Perm xs) : ∀ {as : List α}, Paired F xs as → ∃ bs, Paired F ys bs ∧ bs.Perm as := by
  induction p with
  | nil => intro as h; exact ⟨as, h, .refl _⟩
  | cons x _ ih =>
    intro as h
    cases h with
    | cons r t =>
      obtain ⟨bs, h1, h2⟩ := ih t
      exact ⟨_ :: bs, .cons r h1, .cons _ h2⟩
  | swap x y l =>
    intro as h
    cases h with
    | cons r t =>
      cases t with
      | cons r2 t2 => exact ⟨_, .cons r2 (.cons r t2), .swap _ _ _⟩
  | trans _ _ ih1 ih2 =>
    intro as h
    obtain ⟨bs, h1, h2⟩ := ih2 h
    obtain ⟨cs, h3, h4⟩ := ih1 h1
    exact ⟨cs, h3, h4.trans h2⟩
theorem paired_im {α : Type} {F : V → α → Hp → Prop} {H H' : Hp} (hf : ∀ x a, F x a H → F x a H') {xs : List V} {as : List α} (h : Paired (fun x a => F x a H) xs as) : Paired (fun x a => F x a H') xs as := Paired.mapP h hf
/-- pairs of ints; triples of ints -/
def PrL (K : PySem.W.Frag) (H : Hp) (xs : List V) (ps : List (Int × Int)) : Prop := Paired (fun v p => P2 K H v p.1 p.2) xs ps
theorem PrL.im {K : PySem.W.Frag} {H H' : Hp} {xs : List V} {ps : List (Int × Int)} (e : Im H H') (h : PrL K H xs ps) : PrL K H' xs ps := Paired.mapP h fun _ _ z => z.im e
def P3 (K : PySem.W.Frag) (H : Hp) (v : V) (r : Int × Int × Int) : Prop := ∃ a, v = .ref a ∧ SqT K H a [.int r.1, .int r.2.1, .int r.2.2]
theorem P3.im {K : PySem.W.Frag} {H H' : Hp} {v : V} {r : Int × Int × Int} (e : Im H H') (h : P3 K H v r) : P3 K H' v r := by
  obtain ⟨a, rfl, h⟩ := h
  exact ⟨a, rfl, e.sqt h⟩
def RwL (K : PySem.W.Frag) (H : Hp) (xs : List V) (rs : List (Int × Int × Int)) : Prop := Paired (fun v r => P3 K H v r) xs rs
theorem RwL.im {K : PySem.W.Frag} {H H' : Hp} {xs : List V} {rs : List (Int × Int × Int)} (e : Im H H') (h : RwL K H xs rs) : RwL K H' xs rs := Paired.mapP h fun _ _ z => z.im e
theorem Qdec {p : Prop} [Decidable p] {Q : VK} {H : Hp} (hp : p) (h : Q (.bl true) H) : Q (.bl (decide p)) H := by
  rw [decide_eq_true hp]
  exact h
/-- a new object is handed back -/
def RetN (H : Hp) (Q : VK) (o : HO) : Prop := ∀ p H', H p = none → Same H H' → H' p = some o → Q (.ref p) H'

/-- a tuple that is known to have no attributes of its own -/
def TupX (H : Hp) (a : Addr) (xs : List V) : Prop := ∃ ob : Obj, H a = some (.frz ob (.tup xs)) ∧ ob.dict = none
theorem TupX.sq {K : PySem.W.Frag} {H : Hp} {a : Addr} {xs : List V} (h : TupX H a xs) : SqT K H a xs := let ⟨ob, h1, _⟩ := h; .inl (.inr ⟨ob, h1⟩)
theorem TupX.im {H H' : Hp} {a : Addr} {xs : List V} (e : Im H H') (h : TupX H a xs) : TupX H' a xs := let ⟨ob, h1, h2⟩ := h; ⟨ob, e.2 _ _ _ h1, h2⟩
theorem TupX.mono {H H' : Hp} {a : Addr} {xs : List V} (e : Same H H') (h : TupX H a xs) : TupX H' a xs := h.im (Im.of e)
theorem TupX.new {H : Hp} {a : Addr} {xs : List V} {ob : Obj} (h : ob.dict = none) : TupX (upd H a (.frz ob (.tup xs))) a xs := ⟨ob, upd_same, h⟩
section
variable {X : Cx}
theorem cr_tupX : CallR X (.type "tuple") (fun xs H Q => ∃ p ys, xs = [.ref p] ∧ ((SqL X.K H p ys ∧ ∀ l ob, ob.dict = none → H l = none → Q (.ref l) (upd H l (.frz ob (.tup ys)))) ∨ (SqT X.K H p ys ∧ Q (.ref p) H))) := by
  intro pins s σ H xs us Q I r h
  obtain ⟨p, ys, rfl, h⟩ := h
  obtain ⟨u, rfl, rx⟩ := vals1 r
  cases rx
  rcases h with ⟨hq, q⟩ | ⟨hq, q⟩
  · obtain ⟨its, r', pl, hz⟩ := I.list hq
    have hlen := r'.length
    refine call_tuple_list pl.isList (fun h' kp => ?_) (by simp only [List.size_toArray] <;> omega)
    have I1 : Inv X pins σ H { s with heap := h' } := I.kept (t' := s.toks) kp
    have I2 : Inv X pins σ (upd H h'.objs.size (.frz { cls := .type "tuple", data := .seq its.toArray } (.tup ys))) { s with heap := h'.push { cls := .type "tuple", data := .seq its.toArray } } :=
      I1.laid (t' := s.toks) (fun b o e => Heap.get?_push_of_some _ e) (Nat.le_refl _) ⟨Heap.get?_push_size _ rfl, hz, its, r', IsTup.new _ _⟩
    exact ⟨.ref h'.objs.size, _, I2, rfl, q _ _ rfl (I1.hok.fresh (Nat.le_refl _))⟩
  · obtain ⟨its, r', pl, hz⟩ := I.tuple hq
    exact call_tuple_same pl ⟨.ref p, H, I, rfl, q⟩
def tTupX (t : TA) : TE := fun σ H Q => t σ H fun xs H1 => xs.length ≤ sizeLine ∧ ∀ p ob, ob.dict = none → H1 p = none → Q (.ref p) (upd H1 p (.frz ob (.tup xs)))
theorem pe_tupX {es : List Expr} {t : TA} {pos : Pos} {x1} (h : PA X es t) : PE X (.Tuple es x1 pos) (tTupX t) := by
  refine ⟨fun pins s σ H Q I hq => ?_⟩
  refine wpAny_Tuple_spliced (thn (h.run pos pins s σ H _ I hq) fun us s1 ⟨xs, H1, I1, r, z, q⟩ => ⟨by rw [← r.length]; exact z, ?_⟩)
  have hf : H1 s1.heap.objs.size = none := I1.hok.fresh (Nat.le_refl _)
  refine ⟨.ref s1.heap.objs.size, upd H1 s1.heap.objs.size (.frz { cls := .type "tuple", data := .seq us.toArray } (.tup xs)), I1.laid (t' := s1.toks) (fun b u e => Heap.get?_push_of_some _ e) (Nat.le_refl _) ?_, rfl, q _ _ rfl hf⟩
  exact ⟨Heap.get?_push_size _ rfl, z, us, r, ⟨_, Heap.get?_push_size _ rfl, rfl, _, rfl⟩⟩
end
def HpV (K : PySem.W.Frag) (H : Hp) (v : V) (ps : List (Int × Int)) : Prop := ∃ t ys, v = .ref t ∧ TupX H t ys ∧ PrL K H ys ps
def InT (K : PySem.W.Frag) (H : Hp) (v : V) (ns : List Int) : Prop := ∃ t, v = .ref t ∧ SqT K H t (ns.map V.int)
theorem HpV.im {K : PySem.W.Frag} {H H' : Hp} {v : V} {ps : List (Int × Int)} (e : Im H H') (h : HpV K H v ps) : HpV K H' v ps := by
  obtain ⟨t, ys, rfl, h1, h2⟩ := h
  exact ⟨t, ys, rfl, h1.im e, h2.im e⟩
theorem InT.im {K : PySem.W.Frag} {H H' : Hp} {v : V} {ns : List Int} (e : Im H H') (h : InT K H v ns) : InT K H' v ns := by
  obtain ⟨t, rfl, h1⟩ := h
  exact ⟨t, rfl, e.sqt h1⟩
theorem P2.of {K : PySem.W.Frag} {H : Hp} {t : Addr} {x y : Int} (h : H t = some (.tup [.int x, .int y])) : P2 K H (.ref t) x y := ⟨t, rfl, .inl (.inl h)⟩
/-- a comprehension's items that are new pairs -/
theorem prL_of {K : PySem.W.Frag} {H : Hp} {acc : List V} {ps : List (Int × Int)} (hl : acc.length = ps.length) (hf : ∀ (i : Nat) y, acc[i]? = some y → ∃ p t, ps[i]? = some p ∧ y = .ref t ∧ H t = some (.tup [.int p.1, .int p.2])) : PrL K H acc ps ∧ ∀ x ∈ acc, ∃ t i j, x = V.ref t ∧ H t = some (.tup [.int i, .int j]) := by
  refine ⟨paired_of hl fun i x a e1 e2 => ?_, fun x hx => ?_⟩
  · obtain ⟨p, t, h1, rfl, h2⟩ := hf i x e1
    rw [e2] at h1
    cases h1
    exact P2.of h2
  · obtain ⟨i, hi⟩ := List.getElem?_of_mem hx
    obtain ⟨p, t, h1, rfl, h2⟩ := hf i x hi
    exact ⟨t, p.1, p.2, rfl, h2⟩
/-- an instance's attribute -/
def Fld (fs : List (Str × V)) (f : Str) (v : V) : Prop := fs.lookup f = some v
theorem Fld.same {fs : List (Str × V)} {f : Str} {v : V} : Fld (putF f v fs) f v := by
  unfold Fld
  rw [lookup_putF, if_pos rfl]
theorem Fld.put {fs : List (Str × V)} {f g : Str} {u v : V} (h : ¬ g = f) (e : Fld fs g u) : Fld (putF f v fs) g u := by
  unfold Fld
  rw [lookup_putF, if_neg h]
  exact e
theorem len_put {f : Str} {v : V} {fs : List (Str × V)} {n : Nat} (h : fs.length ≤ n) : (putF f v fs).length ≤ n + 1 := Nat.le_trans (length_putF f v fs) (Nat.succ_le_succ h)
/-! data compared -/
theorem clay_ints : ∀ ns : List Int, PyData.canLayAll0 (ns.map .int) = true
  | [] => by simp only [List.map_nil, PyData.canLayAll0]
  | n :: ns => by
    simp only [List.map_cons, PyData.canLayAll0, PyData.canLay0, Bool.true_and]
    exact clay_ints ns
theorem deep_ints : ∀ ns : List Int, PyData.depthAll (ns.map .int) = 0
  | [] => by simp only [List.map_nil, PyData.depthAll]
  | n :: ns => by
    simp only [List.map_cons, PyData.depthAll, PyData.depth, deep_ints ns]
    rfl
theorem shaped_tup (ns : List Int) : SeqAt.shaped (.tuple (ns.map .int)) = true := by
  unfold SeqAt.shaped
  simp only [PyData.canLay0, PyData.depth, clay_ints ns, deep_ints ns]
  rfl
theorem shaped_lst (ns : List Int) : SeqAt.shaped (.list (ns.map .int)) = true := by
  unfold SeqAt.shaped
  simp only [PyData.canLay0, PyData.depth, clay_ints ns, deep_ints ns]
  rfl
theorem eqv_ints : ∀ ns ms : List Int, PyData.eqvAll (ns.map .int) (ms.map .int) = decide (ns = ms)
  | [], [] => by simp only [List.map_nil, PyData.eqvAll, decide_true]
  | [], m :: ms => by simp only [List.map_nil, List.map_cons, PyData.eqvAll]; rfl
  | n :: ns, [] => by simp only [List.map_nil, List.map_cons, PyData.eqvAll]; rfl
  | n :: ns, m :: ms => by
    simp only [List.map_cons, PyData.eqvAll, PyData.eqv, eqv_ints ns ms]
    by_cases e : n = m
    · by_cases e2 : ns = ms
      · rw [e, e2]
        simp
      · rw [e, decide_eq_false e2, decide_eq_false (fun z => e2 (List.cons.inj z).2)]
        simp
    · rw [decide_eq_false (fun z => e (List.cons.inj z).1)]
      simp [e]
theorem dpa_ints {K : PySem.W.Frag} {H : Hp} : ∀ ns : List Int, DpAll K H (ns.map V.int) (ns.map .int)
  | [] => .nil
  | n :: ns => .cons (.int n) (dpa_ints ns)
theorem dp_tup {K : PySem.W.Frag} {H : Hp} {a : Addr} {ns : List Int} (h : SqT K H a (ns.map V.int)) : Dp K H (.ref a) (.tuple (ns.map .int)) := .tup h (dpa_ints ns)
theorem dp_lst {K : PySem.W.Frag} {H : Hp} {a : Addr} {ns : List Int} (h : SqL K H a (ns.map V.int)) : Dp K H (.ref a) (.list (ns.map .int)) := .lst h (dpa_ints ns)
theorem eqv_tup (ns ms : List Int) : PyData.eqv (.tuple (ns.map .int)) (.tuple (ms.map .int)) = decide (ns = ms) := by
  rw [← eqv_ints]
  simp only [PyData.eqv]
theorem eqv_lst (ns ms : List Int) : PyData.eqv (.list (ns.map .int)) (.list (ms.map .int)) = decide (ns = ms) := by
  rw [← eqv_ints]
  simp only [PyData.eqv]
theorem inV_ints {y : Int} : ∀ {ns : List Int}, inV (.int y) (ns.map V.int) = decide (y ∈ ns)
  | [] => by simp [inV]
  | n :: ns => by
    have ih := inV_ints (y := y) (ns := ns)
    unfold inV at ih ⊢
    rw [List.map_cons, List.any_cons, ih]
    have e : eqV (.int n) (.int y) = decide (y = n) := by
      show (n == y) = _
      by_cases h : y = n
      · simp [h]
      · have h2 : ¬ n = y := fun z => h z.symm
        simp [h, h2]
    rw [e]
    by_cases h1 : y = n
    · simp [h1]
    · simp [h1]
theorem flat_ints : ∀ {ns : List Int}, (ns.map V.int).all flatV = true
  | [] => rfl
  | n :: ns => by
    rw [List.map_cons, List.all_cons, flat_ints]
    rfl
theorem atI2_0 {a b : V} : atI [a, b] 0 = some a := rfl
theorem atI2_1 {a b : V} : atI [a, b] 1 = some b := rfl
end K86
end
section
set_option Elab.async false
set_option linter.all false
set_option maxRecDepth 100000
namespace K86
open PySem PySem.Spec PyProof.Rows L2
open C8 (Cal Met Mak pe_c pe_mk pe_mt pe_mt0)
section
variable {P : Program} {w : World} {K : PySem.W.Frag} {mg : Str → Option Value} {base : Heap}
def spIsInt : Sp := fun vs H Q _ => ∃ i : Int, vs = [.int i] ∧ Q (.bl true) H
theorem ok_is_integer (T : Txt P K mg) : Cal P w K mg base 1 "is_integer" spIsInt [] := by
  refine c_is_integer T (fun vs H Q E h => ?_) fun cdv A outer s H vs Q E hr h => ?_
  · obtain ⟨i, rfl, _⟩ := h
    rfl
  obtain ⟨i, rfl, hQ⟩ := h
  refine ⟨_, (pss_one (ps_ret (pe_and (pe_callB call_isi (by rfl) (z_isinstance T) (by decide +kernel) (pa_cons (pv 0) (pa_cons (pe_bltn (v := .ty "int") (by rfl) (z_int T) (by decide +kernel) rfl) pa_nil))) (pe_one (pe_not (pe_callB call_isi (by rfl) (z_isinstance T) (by decide +kernel) (pa_cons (pv 0) (pa_cons (pe_bltn (v := .ty "bool") (by rfl) (z_bool T) (by decide +kernel) rfl) pa_nil)))))))), ?_⟩
  refine ⟨_, rfl, _, _, _, _, true, rfl, .ty _, .base (.int i), kit_ty (by decide +kernel), true, rfl, iteT ?_⟩
  exact ⟨_, rfl, _, _, _, _, false, rfl, .ty _, .base (.int i), kit_ty (by decide +kernel), false, rfl, hQ⟩
/-- within two bounds, None being none -/
def inB (i : Int) (lo hi : Option Int) : Bool := (match lo with | some l => decide (l ≤ i) | none => true) && (match hi with | some h => decide (i ≤ h) | none => true)
def spIsWithin : Sp := fun vs H Q _ => ∃ (i : Int) (lo hi : Option Int), vs = [.int i, oV lo, oV hi] ∧ Q (.bl (inB i lo hi)) H
theorem ok_is_within (T : Txt P K mg) : Cal P w K mg base 2 "is_within" spIsWithin [] := by
  have h_is_integer := ok_is_integer (P := P) (w := w) (base := base) T
  refine c_is_within T (fun vs H Q E h => ?_) fun cdv A outer s H vs Q E hr h => ?_
  · obtain ⟨i, lo, hi, rfl, _⟩ := h
    rfl
  obtain ⟨i, lo, hi, rfl, hQ⟩ := h
  refine ⟨_, (pss_cons (ps_if (pt_not (pt_val (pe_c h_is_integer hr (by decide) (by rfl) (pa_cons (pv 0) pa_nil)))) (pss_one (ps_ret pe_bl)) pss_nil)
      (pss_one (ps_ret (pe_and (pe_or (pe_cmpR op_isN (pv 1) pe_non (nomark _)) (pe_one (pe_cmpR op_le (pv 1) (pv 0) (nomark _)))) (pe_one (pe_or (pe_cmpR op_isN (pv 2) pe_non (nomark _)) (pe_one (pe_cmpR op_le (pv 0) (pv 2) (nomark _))))))))), ?_⟩
  refine ⟨_, rfl, i, rfl, true, rfl, iteF ?_⟩
  cases lo with
  | none =>
    cases hi with
    | none => exact ⟨_, rfl, rfl, true, rfl, iteT ⟨true, rfl, iteT ⟨_, rfl, rfl, true, rfl, iteT hQ⟩⟩⟩
    | some h => exact ⟨_, rfl, rfl, true, rfl, iteT ⟨true, rfl, iteT ⟨_, rfl, rfl, false, rfl, iteF ⟨_, rfl, _, rfl, _, _, rfl, rfl, hQ⟩⟩⟩⟩
  | some l =>
    refine ⟨_, rfl, rfl, false, rfl, iteF ⟨_, rfl, _, rfl, _, _, rfl, rfl, _, rfl, ?_⟩⟩
    unfold inB at hQ
    dsimp only at hQ
    by_cases c : l ≤ i
    · rw [decide_eq_true c] at hQ ⊢
      refine iteT ?_
      cases hi with
      | none => exact ⟨_, rfl, rfl, true, rfl, iteT hQ⟩
      | some h => exact ⟨_, rfl, rfl, false, rfl, iteF ⟨_, rfl, _, rfl, _, _, rfl, rfl, hQ⟩⟩
    · rw [decide_eq_false c] at hQ ⊢
      exact iteF hQ
def spAreInts (K : PySem.W.Frag) : Sp := fun vs H Q _ => ∃ (a : Addr) (b : Bool) (ns : List Int), vs = [.ref a, .int (ns.length : Nat)] ∧ SqB K b H a (ns.map V.int) ∧ ns.length ≤ 1000 ∧ RetV H Q fun v _ => v = .bl true
theorem ok_are_integers (T : Txt P K mg) : Cal P w K mg base 2 "are_integers" (spAreInts K) [] := by
  have h_is_integer := ok_is_integer (P := P) (w := w) (base := base) T
  refine c_are_integers T (fun vs H Q E h => ?_) fun cdv A outer s H vs Q E hr h => ?_
  · obtain ⟨a, b, ns, rfl, _⟩ := h
    rfl
  obtain ⟨a, b, ns, rfl, ha, hl, hQ⟩ := h
  refine ⟨_, (pss_cons (ps_if (PW.pt (pw_or (pt_not (pt_val (pe_callB call_isiT (by rfl) (z_isinstance T) (by decide +kernel) (pa_cons (pv 0) (pa_cons (pe_tup (pa_cons (pe_bltn (v := .ty "list") (by rfl) (z_list T) (by decide +kernel) rfl) (pa_cons (pe_bltn (v := .ty "tuple") (by rfl) (z_tuple T) (by decide +kernel) rfl) pa_nil))) pa_nil))))) (pw_or1 (pt_cmpR op_ne (pe_callB call_len_seq (by rfl) (z_len T) (by decide +kernel) (pa_cons (pv 0) pa_nil)) (pv 1) (nomark _))))) (pss_one (ps_ret pe_bl)) pss_nil)
      (pss_one (ps_ret (pe_callB (cr_all rfl) (by rfl) (z_all T) (by decide +kernel) (pa_cons (pe_lc (own := [("each", 2)]) (g := (gName 2)) (tt := tYes) rfl sc_are_integers.nd (pi_or (pi_list (pv 0)) (pi_tup (pv 0))) (blkOk_by (own := [("each", 2)]) (N := n_are_integers) (sc := defScope s_are_integers) (by decide +kernel)) (fun _ _ _ _ _ => (pg_name (i := 2) sc_are_integers.nd rfl (by first | exact Or.inl rfl | exact Or.inr rfl))) (fun _ _ _ _ _ => pts_nil) (fun _ _ _ _ _ => (pe_c h_is_integer hr (by decide) (by rfl) (pa_cons (pv 2) pa_nil)))) pa_nil))))), ?_⟩
  refine ⟨_, rfl, by show 2 ≤ sizeLine; decide, fun p hp => ?_⟩
  have s1 : Same H (upd H p (.tup [.ty "list", .ty "tuple"])) := same_new hp
  obtain ⟨t, ht, hk⟩ := kit_lt (ha.mono s1)
  refine ⟨_, p, _, t, _, true, rfl, upd_same, cls_lt, ht, hk, true, rfl, iteF ?_⟩
  refine ⟨_, rfl, a, _, rfl, (ha.mono s1).or, _, rfl, rfl, _, rfl, ?_⟩
  rw [List.length_map, decide_eq_true rfl]
  refine iteF ?_
  refine sq_or rfl (ha.mono s1) fun J wk D hD => lc_map wk (fun _ y _ => y = .bl true) hD (fun _ _ _ _ _ z => z) (by rw [List.length_map]; omega) (fun H e => ha.mono (s1.trans e)) (fun i x H1 H2 N Q1 hi sm ⟨e, hx⟩ hq => ?_) fun H2 acc sm hacc hal hf => ?_
  · obtain ⟨n, _, rfl⟩ := at_map hx
    subst e
    exact ⟨rfl, tyes ⟨_, rfl, n, rfl, hq _ _ (Same.refl _) rfl⟩⟩
  · obtain ⟨bs, h1, h2⟩ := all_bs (K := K) hacc hf
    refine ⟨D, bs, rfl, h1, ?_⟩
    rw [h2]
    exact hQ _ _ (s1.trans sm) rfl
def spNeedNumber : Sp := fun vs H Q _ => ∃ (i : Int) (p : Str) (lo hi : Option Int), vs = [.int i, .str p, oV lo, oV hi] ∧ inB i lo hi = true ∧ Q .non H
theorem ok_need_number (T : Txt P K mg) : Cal P w K mg base 3 "need_number" spNeedNumber [] := by
  have h_is_within := ok_is_within (P := P) (w := w) (base := base) T
  refine c_need_number T (fun vs H Q E h => ?_) fun cdv A outer s H vs Q E hr h => ?_
  · obtain ⟨i, p, lo, hi, rfl, _⟩ := h
    rfl
  obtain ⟨i, p, lo, hi, rfl, hb, hQ⟩ := h
  refine ⟨_, (pss_one (ps_if (pt_not (pt_val (pe_c h_is_within hr (by decide) (by rfl) (pa_cons (pv 0) (pa_cons (pv 2) (pa_cons (pv 3) pa_nil)))))) (pss_one ps_never) pss_nil)), ?_⟩
  refine ⟨_, rfl, _, rfl, _, rfl, i, lo, hi, rfl, ?_⟩
  rw [hb]
  exact ⟨true, rfl, iteF hQ⟩
end
end K86
end
section
set_option Elab.async false
set_option linter.all false
set_option maxRecDepth 100000
set_option maxHeartbeats 2000000
namespace K86
open PySem PySem.Spec PyProof.Rows L2
/-! rules that the layer lacks -/
/-- len(set(l)), l a list or a tuple of unlike ints -/
def tLenSetB (K : PySem.W.Frag) (ta : TE) : TE := fun σ H Q => ta σ H fun x H1 => ∃ (l : Addr) (b : Bool) (ns : List Int), x = .ref l ∧ SqB K b H1 l (ns.map V.int) ∧ ns.Nodup ∧ ns.length ≤ 1000 ∧ Q (.int (ns.length : Nat)) H1
theorem pe_lenSetB {X : Cx} {a : Expr} {ta : TE} {p p2 q pos : Pos} (hg : Gl X "len") (hm : X.mg "len" = none) (hg2 : Gl X "set") (hm2 : X.mg "set" = none) (ha : PE X a ta) (hc : X.calm = true := by rfl)
    (na : starEach [a] X.env = (false, eval a X.env) :: starEach [] X.env := by rfl) : PE X (.Call (.Name "len" p) [.Call (.Name "set" p2) [a] [] q] [] pos) (tLenSetB X.K ta) := by
  refine ⟨fun pins s σ H Q I h => ?_⟩
  refine Call_ (ld_blt I hg hm boot_len ?_)
  refine PyProof.Rows.callWith_builtin1 (PyProof.Rows.args_cons ?_ rfl) rfl rfl
  refine Call_ (ld_blt I hg2 hm2 boot_set ?_)
  refine PyProof.Rows.callWith_type1 (PyProof.Rows.args_cons (thn (ha.run pins s σ H _ I h) fun v s1 ⟨x, H1, I1, r1, q1⟩ => PyProof.Rows.args_nil ?_) na) na rfl
  obtain ⟨l, b, ns, rfl, hq, hnd, hl, q1⟩ := q1
  cases r1
  cases b with
  | true =>
    obtain ⟨its, r, pl, hz⟩ := I1.list hq
    have hlen : its.toArray.size = ns.length := by rw [List.size_toArray, ← r.length, List.length_map]
    refine call_set_list (I1.ok.hd hc) pl.isList (by simpa using RZ.intsAre_vals r) (by rw [hlen]; unfold scanBound; omega) fun h' tk hS hk => ?_
    refine PyProof.Rows.args_nil ?_
    rw [hlen, RZ.firstMet_nodup hnd ns.length (Nat.le_refl _), List.take_length] at hS
    obtain ⟨o, es, ep, t, ho, hex, hd, _, _, _, hf, hn⟩ := hS
    have I2 : Inv X pins σ H1 { s1 with heap := h', toks := tk } := I1.kept fun b o e => hk b o (Heap.lt_size e) e
    exact call_len_set ho hex hd hf (by rw [hn] <;> omega) ⟨.int ns.length, H1, I2.tok _, ⟨_, by rw [hn]⟩, q1⟩
  | false =>
    obtain ⟨its, r, pl, hz⟩ := I1.tuple hq
    refine call_set_tupI ns (I1.ok.hd hc) pl (by simpa using RZ.intsAre_vals r) (by unfold scanBound; omega) fun h' tk c hS hc2 hk => ?_
    refine PyProof.Rows.args_nil ?_
    obtain ⟨o, es, ep, t, ho, hex, hd, _, hnd2, hmem, _, hf, hn, _⟩ := hS
    have hn2 : es.size = ns.length := by
      have p : (es.toList.map keyOf).Perm ns := (List.perm_ext_iff_of_nodup hnd2 hnd).mpr fun k => (hmem k).symm.trans ⟨fun z => of_decide_eq_true z, fun z => decide_eq_true z⟩
      have e := p.length_eq
      rw [List.length_map, Array.length_toList] at e
      exact e
    have I2 : Inv X pins σ H1 { s1 with heap := h', toks := tk } := I1.kept hk
    exact call_len_set ho hex hd hf (by rw [hn2] <;> omega) ⟨.int ns.length, H1, I2.tok _, ⟨_, by rw [hn2]⟩, q1⟩
/-- sorted(l), l a list or a tuple of ints -/
def rSortedB (K : PySem.W.Frag) : List V → Hp → VK → Prop := fun vs H Q => ∃ (a : Addr) (b : Bool) (ns : List Int), vs = [.ref a] ∧ SqB K b H a (ns.map V.int) ∧ ∀ (ns' : List Int) (p : Addr), ns'.Perm ns → ns'.Pairwise (· ≤ ·) → H p = none → Q (.ref p) (upd H p (.lst (ns'.map V.int)))
section
variable {prog : Program} {w : World} {A : Around} {E : Value → Shared → Prop} {s : Shared}
/-- sorted(x): by what x's items are once they are laid out -/
theorem sorted_collect {a : Addr} {Q : Value → Shared → Prop}
    (hc : wpAny (model prog w) A.in1 (collect (.ref a)) (fun vs s1 => ∃ ltv : Value → Value → Bool, SrtO.Swo ltv ∧ vs.length ≤ sizeLine ∧ (2 ≤ vs.length → ∀ (h2 : Heap) (b : Addr), h2.get? b = some (seqObj "list" vs.toArray 0) → (∀ c o, s1.heap.get? c = some o → c ≠ b ∧ h2.get? c = some o) → SrtO.SortableO prog w A.in1.in1 { s1 with heap := h2 } b vs ltv) ∧
      ∀ (out : List Value) (h' : Heap) (d : Addr), SrtO.Srtd ltv out → SrtO.Stb ltv out vs → (∀ b o, s1.heap.get? b = some o → h'.get? b = some o) → s1.heap.objs.size ≤ d → (∃ n, h'.get? d = some (seqObj "list" out.toArray n)) → Q (.ref d) { s1 with heap := h' }) E s) :
    wpAny (model prog w) A (call (.builtin "sorted") [.ref a]) Q E s := by
  refine Calls.call_function_entry PyProof.Rows.kind_sorted PyProof.Rows.plain_sorted PyProof.Rows.entry_sorted (PyProof.Rows.args_sorted1 _) ?_
  unfold Builtin.«sorted»
  refine wpAny_bind (m := checkCount "sorted" 1 1 _) (wpAny_pure ?_)
  refine wpAny_bind (wpAny_mono hc (fun vs s1 ⟨ltv, O, hz, hS, h⟩ => ?_) fun _ _ z => z)
  refine wpAny_bind (wpAny_newList ?_ hz)
  have hoL : (s1.heap.push (seqObj "list" vs.toArray 0)).get? s1.heap.objs.size = some (seqObj "list" vs.toArray 0) := Heap.get?_push_size _ rfl
  have keep : ∀ b o, s1.heap.get? b = some o → b ≠ s1.heap.objs.size ∧ (s1.heap.push (seqObj "list" vs.toArray 0)).get? b = some o := fun b o q => ⟨Nat.ne_of_lt (Heap.lt_size q), Heap.get?_push_of_some _ q⟩
  show wpAny _ _ _ _ _ { s1 with heap := s1.heap.push (seqObj "list" vs.toArray 0) }
  refine wpAny_bind (wpAny_holding (wpAny_call_entry slot_list_sort ⟨_, hoL, rfl⟩ entry_list_sort (SrtO.list_sort_ord O hoL hz (fun h2 => hS h2 _ _ hoL keep) fun out hs hb => ⟨_, rfl, ?_⟩) (args_list_sort _)))
  refine wpAny_pure ⟨_, rfl, h out _ _ hs hb (fun b o q => ?_) (Nat.le_refl _) (PyProof.Rows.sortedHeap_at hoL)⟩
  rw [PyProof.Rows.sortedHeap_old (keep b o q).1 (Heap.lt_size (keep b o q).2)]
  exact (keep b o q).2
end
section
variable {X : Cx}
theorem cr_sortedB : CallR X (.builtin "sorted") (rSortedB X.K) := by
  intro pins s σ H vs us Q I r h
  obtain ⟨a, b, ns, rfl, hs, q⟩ := h
  cases b with
  | true => exact cr_sortedI pins s σ H _ us Q I r ⟨a, ns, rfl, hs, q⟩
  | false =>
    obtain ⟨its, rv, ⟨o, ho, hc, n, hd⟩, hz⟩ := I.tuple hs
    rw [Vals.ref1 r]
    have hi := rv.ints
    have hl : its.length ≤ sizeLine := by rw [← rv.length]; exact hz
    refine sorted_collect (wpAny_collect_seq a (.inr rfl) ho hc hd (fun h1 k1 => ⟨_, SrtO.swo_int, by rw [List.toList_toArray]; exact hl, fun h2 h2' b hb kk => ?_, fun out h' d k2 k3 k4 hle hn => ?_⟩) (by rw [List.size_toArray]; exact hl))
    · rw [List.toList_toArray] at h2 ⊢
      exact SrtO.ints_sortable hi h2
    · rw [List.toList_toArray] at k3
      obtain ⟨e1, e2, e3⟩ := SrtO.ints_out hi k2 k3
      obtain ⟨n, hn⟩ := hn
      have hlen : ((out.map SrtO.iv).map V.int).length ≤ sizeLine := by
        rw [List.length_map, e2.length_eq]
        rw [List.length_map] at hz
        exact hz
      have I1 : Inv X pins σ H { s with heap := h1, toks := s.toks } := I.kept (t' := s.toks) k1
      have hf : H d = none := I1.hok.fresh hle
      exact ⟨.ref d, upd H d (.lst ((out.map SrtO.iv).map V.int)), I1.laid (t' := s.toks) k4 hle ⟨hlen, out, n, vals_of_ints e1, hn⟩, rfl, q _ _ e2 e3 hf⟩
end
/-- what a pair of ints at v is -/
def pairAt (h : Heap) (v : Value) : Int × Int := match v with
  | .ref a => (match h.get? a with
    | some ⟨_, _, .seq xs _, _⟩ => (match xs.toList with
      | [.int x _, .int y _] => (x, y)
      | _ => (0, 0))
    | _ => (0, 0))
  | _ => (0, 0)
theorem pairAt_of {h : Heap} {v : Value} {x y : Int} (p : Srt.IsPair h v x y) : pairAt h v = (x, y) := by
  obtain ⟨a, ⟨c, d, dt, sl⟩, t, u, n, rfl, ho, hc, hd⟩ := p
  have hd2 : dt = .seq #[.int x t, .int y u] n := hd
  subst hd2
  unfold pairAt
  simp only [ho]
theorem pairAt_is {h : Heap} {v : Value} {x y : Int} (p : Srt.IsPair h v x y) : Srt.IsPair h v (pairAt h v).1 (pairAt h v).2 := by
  rw [pairAt_of p]
  exact p
theorem lex_srt {k : Value → Int × Int} : ∀ {l : List Value}, SrtO.Srtd (fun v u => SrtO.lexB (k v) (k u)) l → (l.map k).Pairwise (fun a b => a.1 < b.1 ∨ (a.1 = b.1 ∧ a.2 ≤ b.2)) := by
  intro l h
  rw [List.pairwise_map]
  refine h.imp fun {x y} e => ?_
  have := SrtO.lexB_no.mp e
  omega
section
variable {X : Cx}
/-- a comprehension's store, keys tuples -/
theorem d_dictSetT {pins : List (Addr × Obj)} {σ : L2.St} {H H' : Hp} {s : Shared} {E : Value → Shared → Prop} {D : Addr} {y v : V} {u r : Value} {Q : Unit → Shared → Prop} (hu : X.A.units + 64 < cLine) (I : Inv X pins σ H s) (g : DPut H D y v H')
    (ry : RelV y u) (rv : RelV v r) (h : ∀ s', Inv X pins σ H' s' → Q () s') : wpAny (model X.prog X.w) X.A (dictSet D u r) Q E s := by
  rcases g with ⟨kvs, k, e, rfl, l, rfl⟩ | ⟨kvs, k, b, e, rfl, eb, l, rfl⟩
  · exact d_dictSet I e l ry rv h
  · cases (show u = Value.ref b from ry)
    obtain ⟨z, hd, xs, rel, dd⟩ := dt_of I.hok e
    have hz : xs.length ≤ sizeLine := by rw [← Paired.length rel]; exact z
    have hl : (putK kvs k v).length ≤ sizeLine := by have := length_putK kvs k v; omega
    refine wpAny_dictSet_heap (hsz := hz) (show X.A.units < cLine by omega) (key_of I.hok eb) dd fun h' dd' hs => h _ ?_
    obtain ⟨q, es, ep, hq, h2, h3, h4, _, h5⟩ := dd'
    refine d_write I (by rw [e]; exact True.intro) hs ⟨q, hq⟩ ⟨hl, hd, _, (rel.put k eb rv).keeps fun c ys ec => ?_, q, es, ep, hq, h2, h3, h4, h5⟩
    rw [upd_ne (ne_of ec e (fun z => nomatch z))]
    exact ec
/-- {k: v for target in iter if ..}, keys tuples: D the new dict -/
def tDcT (wi : TI) (g : TG) (tt : TT) (tk tv : TE) (vs : List Nat) : TE := fun σ H Q => wi σ H fun J H1 => ∀ D, H1 D = none → ∃ W : Nat → Nat → Hp → Prop, (∃ m, W 0 m (upd H1 D (.dT []))) ∧ ∀ i m H, W i m H →
  (J.stop i H ∧ Q (.ref D) H) ∨ (J.go i H ∧ ∃ Nx : Hp → Prop, (∀ H', Nx H' → ∃ m', m' < m ∧ W (i + 1) m' H') ∧ ∀ x H', J.yld i H x H' → g x (wipe σ vs) H' fun σ2 H2 => wipe σ2 vs = wipe σ vs ∧ tt σ2 H2 fun b H3 =>
    if b = true then tk σ2 H3 fun y H4 => tv σ2 H4 fun z H5 => ∃ H6, DPut H5 D y z H6 ∧ Nx H6 else Nx H3)
theorem pe_dcT {kx vx tg iter : Expr} {ifs : List Expr} {scope : Scope} {own : List (Str × Nat)} {pos : Pos} {wi : TI} {g : TG} {tt : TT} {tk tv : TE} (hu : X.A.units + 64 < cLine) (hc : X.calm = true) (hN : X.N.Nodup) (hi : PI X tg iter wi) (ok : BlkOk X.N X.env.scope scope own)
    (hg : ∀ (s : Shared) (H : Hp) (C : Addr) (cl : List (Str × Addr)) (fp : List Addr), PG (X.blk s H scope (compEnvC scope cl C X.env) fp) tg g) (ht : ∀ (s : Shared) (H : Hp) (C : Addr) (cl : List (Str × Addr)) (fp : List Addr), PTs (X.blk s H scope (compEnvC scope cl C X.env) fp) ifs tt)
    (hk : ∀ (s : Shared) (H : Hp) (C : Addr) (cl : List (Str × Addr)) (fp : List Addr), PE (X.blk s H scope (compEnvC scope cl C X.env) fp) kx tk)
    (he : ∀ (s : Shared) (H : Hp) (C : Addr) (cl : List (Str × Addr)) (fp : List Addr), PE (X.blk s H scope (compEnvC scope cl C X.env) fp) vx tv) (hs : ∀ x, foldedSetIterable iter X.env x = pure x := by intro _; rfl) :
    PE X (.DictComp kx vx [⟨tg, iter, ifs, 0⟩] scope pos) (tDcT wi g tt tk tv (own.map (·.2))) := by
  refine ⟨fun pins s σ H Q I h => ?_⟩
  rw [arm_eval_DictComp]
  have hfree : ∀ y ∈ scope.names, y.2 = .free → ∃ c, X.env.cells.lookup y.1 = some c := fun y hy e => (ok.free y hy e).elim (fun k => I.ok.has _ (.inl k)) fun k => I.ok.has _ (.inr k)
  refine wpAny_comprehension_free rfl hs (closure_ok hfree) ok.kind (fun y hy e => by rw [ok.uniq y hy, e]) (thn (hi.run pins s σ H _ I h) fun xv s1 hx => thn hx fun itv s2 h2 => ?_)
  obtain ⟨it, fp, tn, J, H2, rfl, I2, T, st2, f2, q⟩ := h2
  refine wpAny_newObj_type (newEnv_comp ?_)
  generalize hD : s2.heap.objs.size = D
  obtain ⟨W, ⟨m0, w0⟩, turn⟩ := q D (I2.hok.fresh (Nat.le_of_eq hD))
  generalize hs3 : ({ s2 with heap := s2.heap.push { cls := .type "dict", data := .dict #[] } } : Shared) = s3
  have I3 : Inv X pins σ (upd H2 D (.dT [])) s3 := by
    rw [← hs3]
    refine I2.laid (t' := s2.toks) (fun b o e => Heap.get?_push_of_some _ e) (Nat.le_of_eq hD) ?_
    rw [← hD]
    exact dt_empty s2.heap I2.big
  have h3 : s3.heap = s2.heap.push { cls := .type "dict", data := .dict #[] } := by rw [← hs3]
  have f3 : ∀ b ∈ fp, FpOk X pins (upd H2 D (.dT [])) b ∧ b < s3.heap.objs.size := fun b hb => by
    obtain ⟨o, e, _⟩ := T.obj _ _ st2 b hb
    have hlt := Heap.lt_size e
    exact ⟨⟨by rw [upd_ne (by rw [← hD]; exact Nat.ne_of_lt hlt)]; exact (f2 b hb).1, (f2 b hb).2⟩, by rw [h3, Heap.size_push]; exact Nat.lt_succ_of_lt hlt⟩
  have st3 : tn 0 s3.heap := T.keep _ _ _ st2 fun b _ o e => by rw [h3]; exact Heap.get?_push_of_some _ e
  have I4 := block_start I3 ok hN f3
  generalize hH3 : upd H2 D (.dT []) = H3 at I3 I4 w0 f3
  generalize hcl : cellsFrom (s3.heap.objs.size + 1) scope.names (cloFrom X.env.cells scope.names []) = cl at I4
  have pg := hg s3 H3 s3.heap.objs.size cl fp
  have pt := ht s3 H3 s3.heap.objs.size cl fp
  have pk := hk s3 H3 s3.heap.objs.size cl fp
  have pv := he s3 H3 s3.heap.objs.size cl fp
  show codeAny _ _ (.compStart (.DictComp kx vx [⟨tg, iter, ifs, 0⟩] scope pos) 0 (.ref it) (.ref D) (compEnvC scope cl s3.heap.objs.size X.env)) _ { s3 with heap := pushCells (s3.heap.push { cls := .type "dict", data := .dict #[] }) scope.names }
  generalize hce : compEnvC scope cl s3.heap.objs.size X.env = ce at I4 pg pt pk pv ⊢
  have cL : ce.locals = s3.heap.objs.size := by subst hce; rfl
  generalize hs4 : ({ s3 with heap := pushCells (s3.heap.push { cls := .type "dict", data := .dict #[] }) scope.names } : Shared) = s4 at I4 ⊢
  have st4 : tn 0 s4.heap := T.keep _ _ _ st3 fun b _ o e => by rw [← hs4]; exact pushCells_keeps _ _ _ _ (Heap.get?_push_of_some _ e)
  have nL : (newEnv scope s3.heap.objs.size X.env.globals cl X.env.qual none Value.none (some X.env) builtinsNs).locals = s3.heap.objs.size := rfl
  rw [nL]
  -- what is walked stands in the block, too
  have stat : ∀ {σ' : L2.St} {H' : Hp} {s' : Shared}, Inv (X.blk s3 H3 scope ce fp) [] σ' H' s' → (∀ b ∈ fp, H' b = none) → ∀ b ∈ fp, FpOk (X.blk s3 H3 scope ce fp) [] H' b := fun I' n b hb =>
    ⟨n b hb, (I'.ok.exf b hb).1, I'.ok.exfs b hb, .inl hb, (I'.ok.exf b hb).2, fun p hp => nomatch (show p ∈ ([] : List (Addr × Obj)) from hp)⟩
  have loop : codeAny (model X.prog X.w) X.A (.compLoop (.DictComp kx vx [⟨tg, iter, ifs, 0⟩] scope pos) 0 (.ref it) (.ref D) ce) (compPost (model X.prog X.w) X.A X.xe none (EP X pins σ Q) (.ref D) s3.heap.objs.size) s4 := by
    refine compLoop_anyD (fun n s' => ∃ i H', Inv (X.blk s3 H3 scope ce fp) [] (wipe σ (own.map (·.2))) H' s' ∧ tn i s'.heap ∧ (∀ b ∈ fp, H' b = none) ∧ W i n H') ?_ m0 ⟨0, H3, I4, st4, fun b hb => (f3 b hb).1.1, w0⟩
    rintro n s5 ⟨i, H5, I5, st5, n5, w5⟩
    rcases turn i n H5 w5 with ⟨stop, qq⟩ | ⟨go, Nx, hNx, step⟩
    · -- no item is left
      refine thnF (T.done (X.blk s3 H3 scope ce fp) rfl rfl rfl hc i [] s5 _ H5 (fun _ _ => False) I5 (stat I5 n5) st5 stop) fun r s6 ⟨hr, I6⟩ => ?_
      subst hr
      have I7 : Inv X pins σ H5 s6 := I3.call' (ch := fp) I6.os I6.base I6.hok I6.bare fun b hb => let z := (f3 b hb).1.2; ⟨z.2.2.1, z.1, z.2.2.2.1, z.2.2.2.2⟩
      have nC : H5 s3.heap.objs.size = none := by rw [← cL]; exact I6.free
      obtain ⟨m, hn, _⟩ := I6.loc
      have hn2 : s6.heap.Ns s3.heap.objs.size m := by rw [← cL]; exact hn
      obtain ⟨g0, g1, g2, g3, g4, g5⟩ := I3.fpOk (H' := H5) (Nat.le_refl _) nC
      exact ⟨m, hn2, fun h'' sb => ⟨.ref D, H5, I7.turned (t' := s6.toks) (fun b o hb e => (sb.2 b hb).trans e) g0 g1 g3 g4 g5, rfl, qq⟩⟩
    · -- one more
      refine thnF (T.item (X.blk s3 H3 scope ce fp) rfl rfl rfl hc i [] s5 _ H5 (fun _ _ => False) I5 (stat I5 n5) st5 go) fun r s6 ⟨u, hr, h6⟩ => ?_
      subst hr
      refine thnF h6 fun _ s7 ⟨x, H7, I7, r7, y7, st7, n7⟩ => ?_
      have I7' := I7.pinned (stat I7 n7) (T.obj _ _ st7)
      refine thnF (pg.run _ s7 _ H7 x u _ I7' r7 (step x H7 y7)) fun _ s8 ⟨σ8, H8, I8, hw8, q8⟩ => ?_
      refine thnF (pt.run _ s8 σ8 H8 _ I8 q8) fun b s9 ⟨H9, I9, q9⟩ => ?_
      have fin : ∀ {s' : Shared} {H' : Hp}, Inv (X.blk s3 H3 scope ce fp) ([] ++ pinsAt fp s7.heap) σ8 H' s' → Nx H' → ∃ m, m < n ∧ ∃ i H', Inv (X.blk s3 H3 scope ce fp) [] (wipe σ (own.map (·.2))) H' s' ∧ tn i s'.heap ∧ (∀ b ∈ fp, H' b = none) ∧ W i m H' := by
        intro s' H' I' nx
        obtain ⟨m', hm, w'⟩ := hNx H' nx
        have pin' : ∀ b ∈ fp, ∀ o, s7.heap.get? b = some o → s'.heap.get? b = some o ∧ H' b = none := fun b hb o e =>
          let z := I'.pin (b, o) (List.mem_append_right _ (List.mem_append_right _ (mem_pinsAt hb e))); ⟨z.1, z.2.1⟩
        refine ⟨m', hm, i + 1, H', (I'.unpinned (pins := [])).weak (by rw [← hw8, wipe_length]) (fun j v e => ?_), T.keep _ _ _ st7 fun b hb o e => (pin' b hb o e).1, fun b hb => ?_, w'⟩
        · rw [← hw8] at e
          exact (wipe_some e).1
        · obtain ⟨o, e, _⟩ := T.obj _ _ st7 b hb
          exact (pin' b hb o e).2
      cases b with
      | false => exact fin I9 q9
      | true =>
        refine thnF (pk.run _ s9 σ8 H9 _ I9 q9) fun z s10 ⟨yk, H10, I10, r10, q10⟩ => ?_
        refine thnF (pv.run _ s10 σ8 H10 _ I10 q10) fun z2 s11 ⟨yv, H11, I11, r11, H12, dp, nx⟩ => ?_
        exact d_dictSetT (X := X.blk s3 H3 scope ce fp) hu I11 dp r10 r11 fun s12 I12 => fin I12 nx
  exact codeAny_compStart_dict loop (T.self X.A 0 _ _ _ st4 loop)
end
theorem dcT_it {J : It} {n : Nat} {G : Hp → Prop} {Y : Nat → Hp → V → Hp → Prop} (w : Walk J n G Y) {g : TG} {tt : TT} {tk tv : TE} {vs : List Nat} {σ : L2.St} {H1 : Hp} {D : Addr} {Qd : Hp → Prop} (Pv : Nat → Hp → Prop) (h0 : Pv 0 (upd H1 D (.dT []))) (hG : ∀ i H, i ≤ n → Pv i H → G H)
    (hs : ∀ i x H H', i < n → Pv i H → Y i H x H' → g x (wipe σ vs) H' fun σ2 H2 => wipe σ2 vs = wipe σ vs ∧ tt σ2 H2 fun b H3 => if b = true then tk σ2 H3 fun y H4 => tv σ2 H4 fun z H5 => ∃ H6, DPut H5 D y z H6 ∧ Pv (i + 1) H6 else Pv (i + 1) H3) (hd : ∀ H, Pv n H → Qd H) :
    ∃ W : Nat → Nat → Hp → Prop, (∃ m, W 0 m (upd H1 D (.dT []))) ∧ ∀ i m H, W i m H → (J.stop i H ∧ Qd H) ∨ (J.go i H ∧ ∃ Nx : Hp → Prop, (∀ H', Nx H' → ∃ m', m' < m ∧ W (i + 1) m' H') ∧ ∀ x H', J.yld i H x H' → g x (wipe σ vs) H' fun σ2 H2 => wipe σ2 vs = wipe σ vs ∧ tt σ2 H2 fun b H3 =>
      if b = true then tk σ2 H3 fun y H4 => tv σ2 H4 fun z H5 => ∃ H6, DPut H5 D y z H6 ∧ Nx H6 else Nx H3) := by
  refine ⟨fun i m H => m + i = n ∧ Pv i H, ⟨n, rfl, h0⟩, fun i m H hw => ?_⟩
  obtain ⟨em, p⟩ := hw
  cases m with
  | zero =>
    have ei : i = n := by omega
    subst ei
    exact .inl ⟨w.stops H (hG i H (Nat.le_refl _) p), hd H p⟩
  | succ m =>
    have hi : i < n := by omega
    have q := hG i H (by omega) p
    exact .inr ⟨w.goes i H hi q, Pv (i + 1), fun H' p' => ⟨m, by omega, by omega, p'⟩, fun x H' y => hs i x H H' hi p (w.yields i H x H' hi q y)⟩
theorem dcK_it {J : It} {n : Nat} {G : Hp → Prop} {Y : Nat → Hp → V → Hp → Prop} (w : Walk J n G Y) {g : TG} {tt : TT} {tk tv : TE} {vs : List Nat} {σ : L2.St} {H1 : Hp} {D : Addr} {Qd : Hp → Prop} (Pv : Nat → Hp → Prop) (h0 : Pv 0 (upd H1 D (.dK []))) (hG : ∀ i H, i ≤ n → Pv i H → G H)
    (hs : ∀ i x H H', i < n → Pv i H → Y i H x H' → g x (wipe σ vs) H' fun σ2 H2 => wipe σ2 vs = wipe σ vs ∧ tt σ2 H2 fun b H3 => if b = true then tk σ2 H3 fun y H4 => tv σ2 H4 fun z H5 => ∃ kvs k, y = kV k ∧ H5 D = some (.dK kvs) ∧ kvs.length < sizeLine ∧ Pv (i + 1) (upd H5 D (.dK (putK kvs k z))) else Pv (i + 1) H3) (hd : ∀ H, Pv n H → Qd H) :
    ∃ W : Nat → Nat → Hp → Prop, (∃ m, W 0 m (upd H1 D (.dK []))) ∧ ∀ i m H, W i m H → (J.stop i H ∧ Qd H) ∨ (J.go i H ∧ ∃ Nx : Hp → Prop, (∀ H', Nx H' → ∃ m', m' < m ∧ W (i + 1) m' H') ∧ ∀ x H', J.yld i H x H' → g x (wipe σ vs) H' fun σ2 H2 => wipe σ2 vs = wipe σ vs ∧ tt σ2 H2 fun b H3 =>
      if b = true then tk σ2 H3 fun y H4 => tv σ2 H4 fun z H5 => ∃ kvs k, y = kV k ∧ H5 D = some (.dK kvs) ∧ kvs.length < sizeLine ∧ Nx (upd H5 D (.dK (putK kvs k z))) else Nx H3) := by
  refine ⟨fun i m H => m + i = n ∧ Pv i H, ⟨n, rfl, h0⟩, fun i m H hw => ?_⟩
  obtain ⟨em, p⟩ := hw
  cases m with
  | zero =>
    have ei : i = n := by omega
    subst ei
    exact .inl ⟨w.stops H (hG i H (Nat.le_refl _) p), hd H p⟩
  | succ m =>
    have hi : i < n := by omega
    have q := hG i H (by omega) p
    exact .inr ⟨w.goes i H hi q, Pv (i + 1), fun H' p' => ⟨m, by omega, by omega, p'⟩, fun x H' y => hs i x H H' hi p (w.yields i H x H' hi q y)⟩
theorem valV_no {κ : Type} [DecidableEq κ] {kvs : List (κ × V)} {k : κ} (h : k ∉ kvs.map (·.1)) : valV kvs k = none := by
  cases e : valV kvs k with
  | none => rfl
  | some v =>
    have q := valV_any k kvs
    rw [e] at q
    obtain ⟨p, hp, hk⟩ := List.any_eq_true.mp q
    exact absurd (List.mem_map.mpr ⟨p, hp, of_decide_eq_true hk⟩) h
theorem take_succ_at {α : Type} {xs : List α} {i : Nat} {x : α} (h : xs[i]? = some x) : xs.take (i + 1) = xs.take i ++ [x] := by
  rw [List.take_add_one, h]
  rfl
/-- of unlike things the next one is not among those ahead -/
theorem nodup_next {α β : Type} {f : α → β} {xs : List α} (hn : (xs.map f).Nodup) {i : Nat} {x : α} (h : xs[i]? = some x) : f x ∉ (xs.take i).map f := by
  intro hm
  obtain ⟨y, hy, e⟩ := List.mem_map.mp hm
  obtain ⟨j, hj⟩ := List.getElem?_of_mem hy
  rw [List.getElem?_take] at hj
  by_cases hji : j < i
  · rw [if_pos hji] at hj
    have h1 : (xs.map f)[j]? = some (f y) := by rw [List.getElem?_map, hj]; rfl
    have h2 : (xs.map f)[i]? = some (f x) := by rw [List.getElem?_map, h]; rfl
    obtain ⟨l1, e1⟩ := List.getElem?_eq_some_iff.mp h1
    obtain ⟨l2, e2⟩ := List.getElem?_eq_some_iff.mp h2
    exact absurd (e1.trans (e.trans e2.symm)) (List.pairwise_iff_getElem.mp hn j i l1 l2 hji)
  · rw [if_neg hji] at hj
    cases hj
/-- a row's place, by tick, then by spot -/
def rwLe (r r' : Int × Int × Int) : Prop := r.2.1 < r'.2.1 ∨ (r.2.1 = r'.2.1 ∧ r.1 ≤ r'.1)
/-- sorted(rows, key=place_of) -/
def rSortedRw (K : PySem.W.Frag) (f : Addr) : List V → List V → Hp → VK → Prop := fun vs zs H Q => ∃ (a : Addr) (xs : List V) (rs : List (Int × Int × Int)), vs = [.ref a] ∧ zs = [.ref f] ∧ SqL K H a xs ∧ RwL K H xs rs ∧ xs.length < 64 ∧
  ∀ (rs' : List (Int × Int × Int)) (ys : List V) (p : Addr) (H' : Hp), rs'.Perm rs → rs'.Pairwise rwLe → H p = none → Same H H' → H' p = some (.lst ys) → RwL K H' ys rs' → Q (.ref p) H'
def spPlace (K : PySem.W.Frag) : Sp := fun vs H Q _ => ∃ (v : V) (r : Int × Int × Int), vs = [v] ∧ P3 K H v r ∧ RetN H Q (.tup [.int r.2.1, .int r.1])
def placeD (r : Int × Int × Int) : PyData := .tuple [.int r.2.1, .int r.1]
def KeyTup (H : Hp) (u : Value) (r : Int × Int × Int) : Prop := ∃ q, u = .ref q ∧ H q = some (.tup [.int r.2.1, .int r.1])
theorem each_paired {α β : Type} {R : α → β → Prop} : ∀ {xs : List α} {ys : List β}, Paired R xs ys → PySem.W.EachIs R xs ys
  | _, _, .nil => .nil
  | _, _, .cons h t => .cons h (each_paired t)
theorem paired_each {α β : Type} {R : α → β → Prop} : ∀ {xs : List α} {ys : List β}, PySem.W.EachIs R xs ys → Paired R xs ys
  | _, _, .nil => .nil
  | _, _, .cons h t => .cons h (paired_each t)
def RowAt (K : PySem.W.Frag) (H : Hp) (u : Value) (r : Int × Int × Int) : Prop := ∃ b, u = .ref b ∧ SqT K H b [.int r.1, .int r.2.1, .int r.2.2]
theorem rowAt_of {K : PySem.W.Frag} {H : Hp} : ∀ {xs : List V} {its : List Value} {rs : List (Int × Int × Int)}, Vals xs its → RwL K H xs rs → PySem.W.EachIs (RowAt K H) its rs
  | _, _, _, .nil, .nil => .nil
  | _, _, _, .cons r rr, .cons h t => by
    obtain ⟨b, rfl, hb⟩ := h
    exact .cons ⟨b, r, hb⟩ (rowAt_of rr t)
theorem rowAt_to {K : PySem.W.Frag} {H : Hp} : ∀ {its : List Value} {rs : List (Int × Int × Int)}, PySem.W.EachIs (RowAt K H) its rs → ∃ ys, Vals ys its ∧ RwL K H ys rs
  | _, _, .nil => ⟨[], .nil, .nil⟩
  | _, _, .cons h t => by
    obtain ⟨b, rfl, hb⟩ := h
    obtain ⟨ys, h1, h2⟩ := rowAt_to t
    exact ⟨.ref b :: ys, .cons rfl h1, .cons ⟨b, rfl, hb⟩ h2⟩
theorem keyTup_reads {P : Program} {w : World} {H : Hp} {h : Heap} (hok : HOk P w H h) {u : Value} {r : Int × Int × Int} (k : KeyTup H u r) : ∃ as, Reads h u (placeD r) as := by
  obtain ⟨q, rfl, hq⟩ := k
  obtain ⟨_, its, rv, o, ho, hc, n, hd⟩ := hok q _ hq
  obtain ⟨u1, u2, rfl, ⟨t1, rfl⟩, ⟨t2, rfl⟩⟩ := vals2 rv
  exact ⟨_, .tuple ho hc hd (.cons (.int _ _) (.cons (.int _ _) .nil))⟩
section
variable {X : Cx} {pins : List (Addr × Obj)} {σ : L2.St} {H : Hp}
theorem srw_rest {k : Nat} {f : Addr} {fd : FuncData} {ps : List Str} {ds : List Value} {s : Shared} {a kS : Addr} {e1 : Nat} {xs : List V} {its : List Value} {rs : List (Int × Int × Int)} {Q : VK} {E' : Value → Shared → Prop}
    (F : FnOk X.prog X.w X.K X.mg X.base C8.CX0 k f fd ps (spPlace X.K)) (hb : Binds X.K fd ps ds) (hd : Vals [] ds) (hr : Room k X.A.in1.in1)
    (I : Inv X pins σ H s) (fa : FpOk X pins H a) (fk : FpOk X pins H kS) (hka : kS ≠ a) (na : s.heap.get? a = some (seqObj "list" #[] e1)) (nk : s.heap.get? kS = some (seqObj "list" #[] 0))
    (rv : Vals xs its) (hrw : RwL X.K H xs rs) (hlen : xs.length < 64)
    (q : ∀ (rs' : List (Int × Int × Int)) (ys : List V) (p : Addr) (H' : Hp), rs'.Perm rs → rs'.Pairwise rwLe → H p = none → Same H H' → H' p = some (.lst ys) → RwL X.K H' ys rs' → Q (.ref p) H') :
    wpAny (model X.prog X.w) X.A.in1.in1 (PyProof.Rows.ksk_rest a (.ref f) false its.toArray e1 (.ref kS)) (fun g s' => g = .done (.ret .none) ∧ EP X pins σ Q (.ref a) s') E' s := by
  have hil : its.length = xs.length := rv.length.symm
  have hrl : rs.length = xs.length := (Paired.length hrw).symm
  have hZ : its.length ≤ sizeLine := by rw [hil, sizeLine_eq]; omega
  unfold PyProof.Rows.ksk_rest
  refine wpAny_bind (wpAny_rule ?_)
  first
    | rw [List.forIn_toArray]
    | (rw [← Array.forIn_toList]; simp only [List.toList_toArray])
    | rw [← Array.forIn_toList]
  refine wpAny_bind (PyProof.Rows.ksk_fold (fun i s' => ∃ H' kA e, Inv X pins σ H' s' ∧ Same H H' ∧ H' a = none ∧ H' kS = none ∧ s'.heap.get? kS = some (seqObj "list" kA e) ∧ s'.heap.get? a = some (seqObj "list" #[] e1) ∧ Paired (KeyTup H') kA.toList (rs.take i)) its 0 s
    ⟨H, #[], 0, I, Same.refl H, fa.1, fk.1, nk, na, by rw [List.take_zero]; exact .nil⟩ ?step ?done)
  case step =>
    rintro j x s' hx ⟨H', kA, e, I', sm, ha0, hk0, nk', na', hk⟩
    simp only [Nat.zero_add] at hk ⊢
    have hj : j < its.length := (List.getElem?_eq_some_iff.mp hx).1
    obtain ⟨r, hrj⟩ : ∃ r, rs[j]? = some r := ⟨_, List.getElem?_eq_getElem (by omega)⟩
    obtain ⟨v, hvj⟩ : ∃ v, xs[j]? = some v := ⟨_, List.getElem?_eq_getElem (by omega)⟩
    obtain ⟨x', hx', rx⟩ := rv.get hvj
    rw [hx] at hx'
    cases hx'
    obtain ⟨r', hr', p3⟩ := paired_at hrw hvj
    rw [hrj] at hr'
    cases hr'
    have hz : kA.size ≤ its.length := by
      have h1 := Paired.length hk
      rw [Array.length_toList, List.length_take] at h1
      omega
    have fpa : FpOk X pins H' a := ⟨ha0, fa.2⟩
    have fpk : FpOk X pins H' kS := ⟨hk0, fk.2⟩
    have I2 := I'.pinned (fp := [a, kS]) (fun b hb => by
      rcases List.mem_cons.mp hb with rfl | hb
      · exact fpa
      · rw [List.mem_singleton] at hb; subst hb; exact fpk) (fun b hb => by
      rcases List.mem_cons.mp hb with rfl | hb
      · exact ⟨_, na', fun v z => nomatch z⟩
      · rw [List.mem_singleton] at hb; subst hb; exact ⟨_, nk', fun v z => nomatch z⟩)
    have hsp : spPlace X.K ([v] ++ []) H' (fun u H'' => ∃ p, u = .ref p ∧ Same H' H'' ∧ H'' p = some (.tup [.int r.2.1, .int r.1])) C8.E0 :=
      ⟨v, r, rfl, p3.im (Im.of sm), fun p H'' _ s2 hp => ⟨p, rfl, s2, hp⟩⟩
    have r2 : Vals ([v] ++ []) ([x] ++ ds) := Vals.append (.cons rx .nil) hd
    have hl : ([x] ++ ds).length = ps.length := by rw [← r2.length]; exact F.len _ _ _ _ hsp
    refine wpAny_bind (wpAny_attempt (wpAny_call (codeAny_mono (F.run X.A.in1.in1 X.stack s' H' ⟨[x], []⟩ ([x] ++ ds) ([v] ++ []) _ C8.E0 hr I2.env0.in1.in1 (hb s' [x] I2.kIn hl) r2 hsp) fun rr s'' hq => ?_)))
    cases rr with
    | error e => exact absurd hq id
    | ok fl =>
      cases fl with
      | next => exact False.elim hq
      | brk => exact False.elim hq
      | cont => exact False.elim hq
      | ret u =>
        obtain ⟨v2, H2, I3, rv2, p, rfl, s2, hp⟩ := I2.after hq
        obtain rfl : u = .ref p := rv2
        have pa := I3.pin (a, _) (List.mem_append_right _ (List.mem_append_right _ (mem_pinsAt (fp := [a, kS]) (by simp) na')))
        have pk := I3.pin (kS, _) (List.mem_append_right _ (List.mem_append_right _ (mem_pinsAt (fp := [a, kS]) (by simp) nk')))
        have nk2 : s''.heap.get? kS = some (seqObj "list" kA e) := pk.1
        have na2 : s''.heap.get? a = some (seqObj "list" #[] e1) := pa.1
        have hk2 : H2 kS = none := pk.2.1
        have ha2 : H2 a = none := pa.2.1
        have I4 := I3.unpinned
        have s1 := Heap.SameBut.update s''.heap kS (Obj.mapSeq (·.push (.ref p)))
        obtain ⟨c2, hc2⟩ : ∃ c2, (s''.heap.update kS (Obj.mapSeq (·.push (.ref p)))).get? kS = some (seqObj "list" (kA.push (.ref p)) c2) := ⟨_, get?_update_seq nk2 (·.push (.ref p))⟩
        have ek : rs.take (j + 1) = rs.take j ++ [r] := take_succ_at hrj
        have ea : (kA.push (.ref p)).toList = kA.toList ++ [.ref p] := by simp
        try dsimp only
        refine wpAny_bind (listUpdate_at nk2 rfl ?_ (Nat.le_trans hz hZ) (Nat.le_trans (Nat.le_of_eq (Array.size_push ..)) (Nat.succ_le_succ (Nat.le_trans hz hZ))))
        refine wpAny_pure ⟨rfl, H2, kA.push (.ref p), c2, I4.turned (t' := s''.toks) (fun b o hb e => (s1.2 b hb).trans e) hk2 fk.2.1 fk.2.2.2.1 fk.2.2.2.2.1 fk.2.2.2.2.2, sm.trans s2, ha2, hk2, hc2, (s1.2 a hka.symm).trans na2, ?_⟩
        rw [ea, ek]
        exact Paired.snoc (Paired.mapP hk fun u r ⟨q, e, h⟩ => ⟨q, e, s2 _ _ h⟩) ⟨p, rfl, hp⟩
  case done =>
    rintro s' ⟨H', kA, e, I', sm, ha0, hk0, nk', na', hk⟩
    have e3 : rs.take (0 + its.length) = rs := List.take_of_length_le (by omega)
    rw [e3] at hk
    have hsz : kA.size = its.length := by
      have h1 := Paired.length hk
      rw [Array.length_toList] at h1
      omega
    have hal : PySem.W.AllAlike (rs.map placeD) := PySem.W.AllAlike.of fun _ _ => by simp [placeD, PySem.W.alike, PySem.W.alikeAll]
    have hk' : PySem.W.EachIs (fun v d => ∃ as, Reads s'.heap v d as) kA.toList (rs.map placeD) := PySem.W.each_map placeD ((each_paired hk).mono fun u r z => keyTup_reads I'.hok z)
    have hu : ∀ d, d ∈ rs.map placeD → X.A.in1.in1.units + d.depth < cLine := PySem.W.bound_map fun r _ => by
      have hd : (placeD r).depth = 1 := by simp [placeD, PyData.depth, PyData.depthAll]
      have := hr.units
      omega
    try dsimp only
    refine wpAny_bind (listItems_at nk' rfl ?_)
    refine PySem.W.keyH_end (κ := PySem.W.dataKind s'.heap (rs.map placeD)) (h₁ := PySem.W.hideAll s'.heap [kS]) (fun b o _ z => PySem.W.of_hideAll _ z) (PySem.W.hideAll_none _ (by simp)) nk' na' hka (PySem.W.SortsAt.data (s := s') hk' hal (PySem.W.Sortable.tuples fun _ => ⟨_, _, rfl⟩) hu) hsz hZ fun h3 tk3 c k3 n3 => ⟨rfl, ?_⟩
    have eo := PySem.W.keyedOut_each (rev := false) (bs := rs) placeD (R := RowAt X.K H') ⟨s'.heap, kA.toList, hal, rfl, hk'⟩ ((rowAt_of rv (hrw.im (Im.of sm))))
    have ed : PySem.W.dataLe false placeD = fun p q : Int × Int × Int => decide (p.2.1 < q.2.1 ∨ (p.2.1 = q.2.1 ∧ p.1 ≤ q.1)) := PySem.W.dataLe_ii (β := Int × Int × Int) (fun p => p.2.1) (fun p => p.1)
    rw [ed] at eo
    have hp := List.mergeSort_perm rs (fun p q : Int × Int × Int => decide (p.2.1 < q.2.1 ∨ (p.2.1 = q.2.1 ∧ p.1 ≤ q.1)))
    have hs := List.pairwise_mergeSort (le := fun p q : Int × Int × Int => decide (p.2.1 < q.2.1 ∨ (p.2.1 = q.2.1 ∧ p.1 ≤ q.1))) (by intro x y z h1 h2; simp only [decide_eq_true_eq] at *; omega) (by intro x y; simp only [Bool.or_eq_true, decide_eq_true_eq]; omega) rs
    obtain ⟨ys, rys, hys⟩ := rowAt_to eo
    have hyl : ys.length ≤ sizeLine := by
      have h1 := Paired.length hys
      have h2 := hp.length_eq
      rw [sizeLine_eq]
      omega
    have keep : ∀ b o, b ≠ a → b ≠ kS → s'.heap.get? b = some o → h3.get? b = some o := fun b o h1 h2 z => k3 b o h1 (PySem.W.hideAll_get _ z (by simpa using h2))
    have nat : ∀ b u, H' b = some u → b ≠ a := fun b u z h => by rw [h, ha0] at z; cases z
    have nkt : ∀ b u, H' b = some u → b ≠ kS := fun b u z h => by rw [h, hk0] at z; cases z
    have sU : Same H' (upd H' a (.lst ys)) := same_new ha0
    refine ⟨.ref a, upd H' a (.lst ys), ?_, rfl, q _ ys a _ hp (hs.imp fun z => of_decide_eq_true z) fa.1 (sm.trans sU) upd_same (hys.im (Im.of sU))⟩
    refine I'.step (g' := s'.gens) (d' := s'.drawn) (ch := [a, kS]) (fun b hb => ?_) (fun b o _ _ hc z _ => keep b o (fun h => hc (by simp [h])) (fun h => hc (by simp [h])) z) (fun b o _ _ hc z _ => ⟨o.slots, keep b o (fun h => hc (by simp [h])) (fun h => hc (by simp [h])) z⟩)
      (fun b o hc _ n => by rw [upd_ne (fun h => hc (by simp [h]))]; exact n) (fun b o hc z => ⟨o, keep b o (fun h => hc (by simp [h])) (fun h => hc (by simp [h])) z⟩) (fun b xs z => sU _ _ z) (fun b o u z => sU _ _ z) (fun b ps z => ⟨#[], by rw [sU _ _ z]; simp⟩) (fun m hm => ?_) (fun b u z => ?_) I'.bare
    · rcases List.mem_cons.mp hb with rfl | hb
      · exact ⟨fa.2.2.2.1, fa.2.1, fa.2.2.2.2.1, fa.2.2.2.2.2⟩
      · rw [List.mem_singleton] at hb; subst hb; exact ⟨fk.2.2.2.1, fk.2.1, fk.2.2.2.2.1, fk.2.2.2.2.2⟩
    · obtain ⟨o, es, ep, ho, rr⟩ := hm
      exact ⟨o, es, ep, keep _ o (Ne.symm fa.2.1) (Ne.symm fk.2.1) ho, rr⟩
    · by_cases hba : b = a
      · subst hba
        rw [upd_same] at z
        cases z
        exact ⟨hyl, _, c, rys, n3⟩
      · rw [upd_ne hba] at z
        refine (I'.hok b u z).stay (fun d v hd' z2 => ?_) (fun d z2 => sU _ _ z2) (fun d xs z2 => sU _ _ z2)
        rcases hd' with rfl | hd'
        · exact keep _ _ hba (nkt _ _ z) z2
        · exact keep _ _ (nat _ _ hd') (nkt _ _ hd') z2
theorem ck_sortedRw {k j : Nat} (c : C8.Cal X.prog X.w X.K X.mg X.base k "place_of" (spPlace X.K) []) (hm : X.mg "place_of" = some (.ref (He.ga X.K "place_of"))) (hr : Room j X.A) (hk : k + 2 ≤ j := by decide) : CallRK X (.builtin "sorted") ["key"] (rSortedRw X.K (He.ga X.K "place_of")) := by
  intro pins s σ H vs zs us ws Q I r rz h
  obtain ⟨l, xs, rs, rfl, rfl, hs, hrw, hlen, q⟩ := h
  obtain rfl := Vals.ref1 r
  obtain ⟨w1, rfl, e1⟩ := vals1 rz
  obtain rfl : w1 = Value.ref _ := e1
  obtain ⟨f, fd, ps, ds, F, hm2, _, hb, hd⟩ := c.ex
  rw [hm] at hm2
  have hf : He.ga X.K "place_of" = f := by injection (Option.some.inj hm2)
  rw [hf]
  obtain ⟨its, rv, pl, hz⟩ := I.list hs
  have hZ : its.length ≤ sizeLine := by rw [← rv.length]; exact hz
  have hrk : Room k X.A.in1.in1 := Room.in1 (Room.in1 (hr.mono hk))
  refine PySem.W.sorted_of_sort pl.isList hZ (PyProof.Rows.ksk_s1 _ _) (fun _ => PyProof.Rows.ksk_l1 _ _) fun E' => ?_
  show wpAny _ _ (Builtin.«list.sort» ⟨[.ref (s.heap.objs.size + 1)], [(Str.ofString "key", .ref f)]⟩) _ _ _
  rw [PyProof.Rows.ksk_t1]
  have ho := PySem.W.copyHeap_at s.heap its
  have hf1 : H (s.heap.objs.size + 1) = none := I.hok.fresh (Nat.le_succ _)
  have fa0 : FpOk X pins H (s.heap.objs.size + 1) := I.fpOk (Nat.le_succ _) hf1
  obtain ⟨e1, ho1⟩ : ∃ e1, ((PySem.W.copyHeap s.heap its).update (s.heap.objs.size + 1) (Obj.mapSeq fun _ => (#[] : Array Value))).get? (s.heap.objs.size + 1) = some (seqObj "list" #[] e1) := ⟨_, get?_update_seq ho fun _ => #[]⟩
  have hsz : s.heap.objs.size + 1 < (PySem.W.copyHeap s.heap its).objs.size := Heap.lt_size ho
  have hkS : (((PySem.W.copyHeap s.heap its).update (s.heap.objs.size + 1) (Obj.mapSeq fun _ => (#[] : Array Value))).push (seqObj "tuple" its.toArray 0)).objs.size = (PySem.W.copyHeap s.heap its).objs.size + 1 := by rw [size_push', Heap.size_update]
  unfold PyProof.Rows.ksk_tree
  refine wpAny_bind (listItems_at ho rfl ?_)
  refine wpAny_bind (listUpdate_at ho rfl ?_ (by rw [List.size_toArray]; exact hZ) (Nat.zero_le _))
  refine wpAny_bind (seqEpoch_at ho1 rfl ?_)
  refine wpAny_bind (wpAny_newTuple ?_ (by show its.length ≤ _; exact hZ))
  refine wpAny_bind (wpAny_newList ?_ (Nat.zero_le _))
  refine wpAny_holding ?_
  have kp : ∀ b o, s.heap.get? b = some o → (PySem.W.sortingHeap (PySem.W.copyHeap s.heap its) (s.heap.objs.size + 1) its).get? b = some o := fun b o z => PySem.W.sortingHeap_old (Nat.ne_of_lt (Nat.lt_succ_of_lt (Heap.lt_size z))) (PySem.W.copyHeap_old z)
  have hk0 : s.heap.objs.size ≤ (((PySem.W.copyHeap s.heap its).update (s.heap.objs.size + 1) (Obj.mapSeq fun _ => (#[] : Array Value))).push (seqObj "tuple" its.toArray 0)).objs.size := by rw [hkS]; omega
  exact srw_rest F hb hd hrk (I.kept (t' := s.toks) kp) fa0 (I.fpOk hk0 (I.hok.fresh hk0)) (by rw [hkS]; exact Nat.ne_of_gt (Nat.lt_succ_of_lt hsz)) (Heap.get?_push_of_some _ (Heap.get?_push_of_some _ ho1)) (Heap.get?_push_size _ rfl) rv hrw hlen q
end
end K86
end
section
set_option Elab.async false
set_option linter.all false
set_option maxRecDepth 100000
namespace K86
open PySem PySem.Spec PyProof.Rows L2
/-! tables with int keys, as lists -/
section
variable {β : Type}
def getL (L : List (Int × β)) (k : Int) : Option β := (L.find? fun p => decide (p.1 = k)).map (·.2)
def putL (L : List (Int × β)) (k : Int) (v : β) : List (Int × β) := if (L.any fun p => decide (p.1 = k)) = true then L.map (fun p => if p.1 = k then (p.1, v) else p) else L ++ [(k, v)]
def dropL (L : List (Int × β)) (k : Int) : List (Int × β) := L.filter fun p => decide (p.1 ≠ k)
def keysL (L : List (Int × β)) : List Int := L.map (·.1)
def enc (f : β → V) (L : List (Int × β)) : List (Key × V) := L.map fun p => (Sum.inl p.1, f p.2)
theorem enc_len {f : β → V} {L : List (Int × β)} : (enc f L).length = L.length := List.length_map ..
theorem enc_keys {f : β → V} {L : List (Int × β)} : (enc f L).map (·.1) = (keysL L).map Sum.inl := by
  unfold enc keysL
  rw [List.map_map, List.map_map]
  rfl
theorem key_dec {a b : Int} : decide ((Sum.inl a : Key) = Sum.inl b) = decide (a = b) := by
  by_cases h : a = b
  · rw [h, decide_eq_true rfl, decide_eq_true rfl]
  · rw [decide_eq_false h, decide_eq_false (fun z => h (Sum.inl.inj z))]
theorem valV_enc {f : β → V} {k : Int} : ∀ {L : List (Int × β)}, valV (enc f L) (Sum.inl k) = (getL L k).map f
  | [] => rfl
  | p :: r => by
    by_cases e : p.1 = k
    · have h1 : valV (enc f (p :: r)) (Sum.inl k) = some (f p.2) := valV_pos (p := ((Sum.inl p.1 : Key), f p.2)) (by rw [e])
      have h2 : getL (p :: r) k = some p.2 := by
        unfold getL
        rw [List.find?_cons, decide_eq_true e]
        rfl
      rw [h1, h2]
      rfl
    · have h1 : valV (enc f (p :: r)) (Sum.inl k) = valV (enc f r) (Sum.inl k) := valV_neg (p := ((Sum.inl p.1 : Key), f p.2)) (fun z => e (Sum.inl.inj z))
      have h2 : getL (p :: r) k = getL r k := by
        unfold getL
        rw [List.find?_cons, decide_eq_false e]
      rw [h1, h2]
      exact valV_enc
theorem any_enc {f : β → V} {k : Int} {L : List (Int × β)} : ((enc f L).any fun kv => decide (kv.1 = Sum.inl k)) = L.any fun p => decide (p.1 = k) := by
  unfold enc
  rw [List.any_map]
  congr 1
  funext p
  exact key_dec
theorem putK_enc {f : β → V} {k : Int} {v : β} {L : List (Int × β)} : putK (enc f L) (Sum.inl k) (f v) = enc f (putL L k v) := by
  unfold putK putL
  rw [any_enc]
  by_cases h : (L.any fun p => decide (p.1 = k)) = true
  · rw [if_pos h, if_pos h]
    unfold enc
    rw [List.map_map, List.map_map]
    refine List.map_congr_left fun p _ => ?_
    show (if (Sum.inl p.1 : Key) = Sum.inl k then _ else _) = ((Sum.inl (if p.1 = k then (p.1, v) else p).1 : Key), f (if p.1 = k then (p.1, v) else p).2)
    by_cases e : p.1 = k
    · rw [if_pos e, if_pos (by rw [e])]
    · rw [if_neg e, if_neg (fun z => e (Sum.inl.inj z))]
  · rw [if_neg h, if_neg h]
    unfold enc
    rw [List.map_append]
    rfl
theorem dropK_enc {f : β → V} {k : Int} {L : List (Int × β)} : dropK (enc f L) (Sum.inl k) = enc f (dropL L k) := by
  unfold dropK dropL enc
  rw [List.filter_map]
  congr 1
  refine List.filter_congr fun p _ => ?_
  by_cases e : p.1 = k
  · simp [e]
  · simp [e]
theorem getL_none {k : Int} : ∀ {L : List (Int × β)}, getL L k = none ↔ k ∉ keysL L
  | [] => ⟨fun _ h => (nomatch h), fun _ => rfl⟩
  | p :: r => by
    unfold getL keysL
    rw [List.find?_cons, List.map_cons]
    by_cases e : p.1 = k
    · rw [decide_eq_true e]
      exact ⟨fun h => (nomatch h), fun h => absurd (List.mem_cons.mpr (.inl e.symm)) h⟩
    · rw [decide_eq_false e]
      refine (getL_none (L := r)).trans ⟨fun h z => ?_, fun h z => h (List.mem_cons_of_mem _ z)⟩
      rcases List.mem_cons.mp z with z | z
      · exact e z.symm
      · exact h z
theorem getL_cons {k : Int} {p : Int × β} {r : List (Int × β)} : getL (p :: r) k = if p.1 = k then some p.2 else getL r k := by
  unfold getL
  rw [List.find?_cons]
  by_cases e : p.1 = k
  · rw [decide_eq_true e, if_pos e]
    rfl
  · rw [decide_eq_false e, if_neg e]
theorem getL_mem {k : Int} {v : β} : ∀ {L : List (Int × β)}, getL L k = some v → (k, v) ∈ L
  | [], h => nomatch h
  | p :: r, h => by
    rw [getL_cons] at h
    by_cases e : p.1 = k
    · rw [if_pos e] at h
      have e2 : p = (k, v) := by rw [← e, ← Option.some.inj h]
      rw [e2]
      exact List.mem_cons_self
    · rw [if_neg e] at h
      exact List.mem_cons_of_mem _ (getL_mem h)
theorem getL_of {k : Int} {v : β} : ∀ {L : List (Int × β)}, (keysL L).Nodup → (k, v) ∈ L → getL L k = some v
  | [], _, h => nomatch h
  | p :: r, n, h => by
    rw [getL_cons]
    have n2 := List.nodup_cons.mp (show (p.1 :: keysL r).Nodup from n)
    rcases List.mem_cons.mp h with h | h
    · rw [← h, if_pos rfl]
    · have hk : k ∈ keysL r := List.mem_map.mpr ⟨_, h, rfl⟩
      rw [if_neg (fun z => n2.1 (by rw [z]; exact hk))]
      exact getL_of n2.2 h
theorem any_key {k : Int} {L : List (Int × β)} : (L.any fun p => decide (p.1 = k)) = true ↔ k ∈ keysL L := by
  rw [List.any_eq_true]
  constructor
  · rintro ⟨p, hp, e⟩
    exact List.mem_map.mpr ⟨p, hp, of_decide_eq_true e⟩
  · intro h
    obtain ⟨p, hp, e⟩ := List.mem_map.mp h
    exact ⟨p, hp, decide_eq_true e⟩
theorem keys_put {k : Int} {v : β} {L : List (Int × β)} : keysL (putL L k v) = if k ∈ keysL L then keysL L else keysL L ++ [k] := by
  unfold putL
  by_cases h : (L.any fun p => decide (p.1 = k)) = true
  · rw [if_pos h, if_pos (any_key.mp h)]
    unfold keysL
    rw [List.map_map]
    refine List.map_congr_left fun p _ => ?_
    show (if p.1 = k then (p.1, v) else p).1 = p.1
    split <;> rfl
  · rw [if_neg h, if_neg (fun z => h (any_key.mpr z))]
    unfold keysL
    rw [List.map_append]
    rfl
theorem nd_put {k : Int} {v : β} {L : List (Int × β)} (h : (keysL L).Nodup) : (keysL (putL L k v)).Nodup := by
  rw [keys_put]
  split
  · exact h
  · rename_i hk
    rw [List.nodup_append]
    refine ⟨h, List.nodup_cons.mpr ⟨fun z => (nomatch z), List.nodup_nil⟩, fun a ha b hb e => ?_⟩
    rw [List.mem_singleton.mp hb] at e
    exact hk (e ▸ ha)
theorem mem_put {j k : Int} {v : β} {L : List (Int × β)} : j ∈ keysL (putL L k v) ↔ j = k ∨ j ∈ keysL L := by
  rw [keys_put]
  split
  · rename_i hk
    exact ⟨.inr, fun h => h.elim (fun z => z ▸ hk) id⟩
  · rw [List.mem_append, List.mem_singleton]
    exact Or.comm
theorem getL_map {j k : Int} {v : β} : ∀ {L : List (Int × β)}, getL (L.map fun p => if p.1 = k then (p.1, v) else p) j = (getL L j).map fun x => if j = k then v else x
  | [] => rfl
  | p :: r => by
    rw [List.map_cons, getL_cons, getL_cons]
    by_cases e : p.1 = j
    · by_cases e2 : p.1 = k
      · rw [if_pos e2, if_pos e, if_pos e]
        show some v = some (if j = k then v else p.2)
        rw [if_pos (e.symm.trans e2)]
      · rw [if_neg e2, if_pos e, if_pos e]
        show some p.2 = some (if j = k then v else p.2)
        rw [if_neg (fun z => e2 (e.trans z))]
    · rw [if_neg e]
      have e3 : ¬ (if p.1 = k then (p.1, v) else p).1 = j := by
        split <;> exact e
      rw [if_neg e3]
      exact getL_map
theorem getL_snoc {j k : Int} {v : β} : ∀ {L : List (Int × β)}, k ∉ keysL L → getL (L ++ [(k, v)]) j = if j = k then some v else getL L j
  | [], _ => by
    show getL [(k, v)] j = _
    rw [getL_cons]
    by_cases e : j = k
    · rw [if_pos e, if_pos e.symm]
    · rw [if_neg e, if_neg (fun z => e z.symm)]
  | p :: r, h => by
    rw [List.cons_append, getL_cons, getL_cons]
    have hp : ¬ p.1 = k := fun z => h (List.mem_cons.mpr (.inl z.symm))
    rw [getL_snoc (L := r) fun z => h (List.mem_cons_of_mem _ z)]
    by_cases e : p.1 = j
    · rw [if_pos e, if_pos e, if_neg (fun z => hp (e.trans z))]
    · rw [if_neg e, if_neg e]
theorem get_put {j k : Int} {v : β} {L : List (Int × β)} : getL (putL L k v) j = if j = k then some v else getL L j := by
  unfold putL
  by_cases h : (L.any fun p => decide (p.1 = k)) = true
  · rw [if_pos h, getL_map]
    by_cases e : j = k
    · rw [if_pos e]
      cases q : getL L j with
      | none => exact absurd (any_key.mp h) (e ▸ getL_none.mp q)
      | some x => show some (if j = k then v else x) = _; rw [if_pos e]
    · rw [if_neg e]
      cases q : getL L j with
      | none => rfl
      | some x => show some (if j = k then v else x) = _; rw [if_neg e]
  · rw [if_neg h, getL_snoc (fun z => h (any_key.mpr z))]
theorem len_putL {k : Int} {v : β} {L : List (Int × β)} : (putL L k v).length ≤ L.length + 1 := by
  unfold putL
  split
  · rw [List.length_map]; omega
  · rw [List.length_append]; exact Nat.le_refl _
theorem putL_new {k : Int} {v : β} {L : List (Int × β)} (h : k ∉ keysL L) : putL L k v = L ++ [(k, v)] := by
  unfold putL
  rw [if_neg (fun z => h (any_key.mp z))]
theorem nd_drop {k : Int} {L : List (Int × β)} (h : (keysL L).Nodup) : (keysL (dropL L k)).Nodup := h.sublist (List.Sublist.map _ List.filter_sublist)
theorem get_drop {j k : Int} : ∀ {L : List (Int × β)}, getL (dropL L k) j = if j = k then none else getL L j
  | [] => by
    show none = _
    split <;> rfl
  | p :: r => by
    have ih := get_drop (j := j) (k := k) (L := r)
    unfold dropL at ih ⊢
    rw [List.filter_cons]
    by_cases e : p.1 = k
    · rw [decide_eq_false (fun z => z e), if_neg (by decide), ih, getL_cons]
      by_cases e2 : j = k
      · rw [if_pos e2, if_pos e2]
      · rw [if_neg e2, if_neg e2, if_neg (fun z => e2 (z.symm.trans e))]
    · rw [decide_eq_true e, if_pos rfl, getL_cons, getL_cons, ih]
      by_cases e2 : p.1 = j
      · rw [if_pos e2, if_pos e2, if_neg (fun z => e (e2.trans z))]
      · rw [if_neg e2, if_neg e2]
end
/-- the int at k, or 0 -/
def at0 (L : List (Int × Int)) (k : Int) : Int := (getL L k).getD 0
theorem at0_put {L : List (Int × Int)} {j k v : Int} : at0 (putL L k v) j = if j = k then v else at0 L j := by
  unfold at0
  rw [get_put]
  split <;> rfl
theorem getD_int {L : List (Int × Int)} {k : Int} : (((getL L k).map V.int).getD (.int 0)) = .int (at0 L k) := by
  unfold at0
  cases getL L k <;> rfl
/-- unlike ints within a span are few -/
theorem len_sub : ∀ (l m : List Int), l.Nodup → (∀ x ∈ l, x ∈ m) → l.length ≤ m.length
  | [], m, _, _ => Nat.zero_le _
  | x :: l, m, hn, hs => by
    have n2 := List.nodup_cons.mp hn
    have hx : x ∈ m := hs x List.mem_cons_self
    have h := len_sub l (m.erase x) n2.2 fun y hy => (List.mem_erase_of_ne (fun z : y = x => n2.1 (by rw [← z]; exact hy))).mpr (hs y (List.mem_cons_of_mem _ hy))
    rw [List.length_erase_of_mem hx] at h
    have : 0 < m.length := List.length_pos_of_mem hx
    show l.length + 1 ≤ m.length
    omega
theorem len_span {l : List Int} {lo : Int} {n : Nat} (hn : l.Nodup) (h : ∀ x ∈ l, lo ≤ x ∧ x < lo + n) : l.length ≤ n := by
  have := len_sub l ((List.range n).map fun i : Nat => lo + i) hn fun x hx => by
    have h2 := h x hx
    exact List.mem_map.mpr ⟨(x - lo).toNat, List.mem_range.mpr (by omega), by omega⟩
  rw [List.length_map, List.length_range] at this
  exact this
theorem Same.at {H H' : Hp} {b : Addr} {u : HO} (e : Same H H') (h : H b = some u) : H' b = some u := e b u h
theorem Same.back {H H' : Hp} {b : Addr} (e : Same H H') (h : H' b = none) : H b = none := by
  cases q : H b with
  | none => rfl
  | some u => rw [e b u q] at h; nomatch h
/-! what stands, but for some -/
def Ex (l : List Addr) (H H' : Hp) : Prop := ∀ b u, b ∉ l → H b = some u → H' b = some u
theorem Ex.of {l : List Addr} {H H' : Hp} (e : Same H H') : Ex l H H' := fun b u _ h => e b u h
theorem Ex.refl (l : List Addr) (H : Hp) : Ex l H H := fun b u _ h => h
theorem Ex.trans {l : List Addr} {H H1 H' : Hp} (a : Ex l H H1) (b : Ex l H1 H') : Ex l H H' := fun c u n h => b c u n (a c u n h)
theorem Ex.mut {l : List Addr} {H : Hp} {d : Addr} {o : HO} (h : d ∈ l) : Ex l H (upd H d o) := fun b u n e => by
  rw [upd_ne (fun z => n (by rw [z]; exact h))]
  exact e
theorem Ex.more {l : List Addr} {H H' : Hp} {d : Addr} (e : Ex l H H') : Ex (d :: l) H H' := fun b u n h => e b u (fun z => n (List.mem_cons_of_mem _ z)) h
theorem Ex.unlock {l : List Addr} {H H' : Hp} {d : Addr} {u : HO} (h : H d = some u) (e : Ex (d :: l) H H') : Ex l H (upd H' d u) := fun b v n q => by
  by_cases c : b = d
  · rw [c] at q ⊢
    rw [upd_same, ← q, h]
  · rw [upd_ne c]
    exact e b v (fun z => (List.mem_cons.mp z).elim c n) q
theorem Ex.same {H0 H H' : Hp} {l : List Addr} (s : Same H0 H) (hl : ∀ d ∈ l, H0 d = none) (e : Ex l H H') : Same H0 H' := fun b u h => e b u (fun z => by rw [hl b z] at h; nomatch h) (s b u h)
/-! dicts read -/
/-- d holds the ints of L -/
def DI (H : Hp) (d : Addr) (L : List (Int × Int)) : Prop := H d = some (.dK (enc V.int L))
theorem sz_of {n : Nat} (h : n ≤ 100000) : n < sizeLine := Nat.lt_of_le_of_lt h (by decide)
theorem DGet.i {β : Type} {f : β → V} {H : Hp} {d : Addr} {L : List (Int × β)} (e : H d = some (.dK (enc f L))) (k : Int) : DGet H d (.int k) ((getL L k).map f) := by
  rw [← valV_enc]
  exact DGet.k (k := Sum.inl k) e
theorem DGet.fi {β : Type} {f : β → V} {H : Hp} {o : Obj} {d : Addr} {L : List (Int × β)} (e : H d = some (.frz o (.dK (enc f L)))) (k : Int) : DGet H d (.int k) ((getL L k).map f) := by
  rw [← valV_enc]
  exact .inl ⟨_, Sum.inl k, .inr ⟨o, e⟩, rfl, rfl⟩
theorem DPut.i {β : Type} {f : β → V} {H : Hp} {d : Addr} {L : List (Int × β)} {v : V} (e : H d = some (.dK (enc f L))) (k : Int) (b : β) (hv : v = f b) (hl : L.length ≤ 100000) : DPut H d (.int k) v (upd H d (.dK (enc f (putL L k b)))) := by
  subst hv
  rw [← putK_enc]
  exact DPut.k (k := Sum.inl k) e (by rw [enc_len]; exact sz_of hl)
theorem enc_at {β : Type} {f : β → V} {L : List (Int × β)} {i : Nat} {x y : V} (hx : (enc f L)[i]?.map (fun kv => kV kv.1) = some x) (hy : (enc f L)[i]?.map Prod.snd = some y) : ∃ p, L[i]? = some p ∧ x = .int p.1 ∧ y = f p.2 := by
  unfold enc at hx hy
  rw [List.getElem?_map] at hx hy
  cases e : L[i]? with
  | none => rw [e] at hx; nomatch hx
  | some p =>
    rw [e] at hx hy
    exact ⟨p, rfl, (Option.some.inj hx).symm, (Option.some.inj hy).symm⟩
/-! sorted(d), d != {} -/
section
variable {X : Cx}
def rSortedDK : List V → Hp → VK → Prop := fun vs H Q => ∃ (β : Type) (a : Addr) (f : β → V) (L : List (Int × β)), vs = [.ref a] ∧ H a = some (.dK (enc f L)) ∧ L.length < 64 ∧ ∀ (ks : List Int) (p : Addr), ks.Perm (keysL L) → H p = none → Q (.ref p) (upd H p (.lst (ks.map V.int)))
theorem cr_sDK (hc : X.calm = true) : CallR X (.builtin "sorted") rSortedDK := fun pins s σ H xs us Q I r h => by
  obtain ⟨β, a, f, L, e, hd, hl, q⟩ := h
  exact call_sortedDI hc pins s σ H xs us Q I r ⟨a, enc f L, keysL L, e, .inl hd, enc_keys, by unfold keysL; rw [List.length_map]; exact hl, fun ys p h1 _ h2 => q ys p h1 h2⟩
def rNeD0 : R2 := fun x y H Q => ∃ (a b : Addr) (m : List (Key × V)), x = .ref a ∧ y = .ref b ∧ H a = some (.dK m) ∧ H b = some (.dK []) ∧ Q (.bl (!m.isEmpty)) H
theorem op_neD0 (hu : X.A.units < cLine) : OpR X (compareOp .NotEq) rNeD0 := by
  intro pins s σ H x y v u Q I rx ry h
  obtain ⟨a, b, m, e1, e2, ha, hb, q⟩ := h
  rw [e1] at rx
  rw [e2] at ry
  cases (show v = Value.ref a from rx)
  cases (show u = Value.ref b from ry)
  obtain ⟨_, na, va, ra, da⟩ := (show ObjOk X.prog X.w H s.heap a (.dK m) from I.hok a _ ha)
  obtain ⟨_, nb, vb, rb, db⟩ := (show ObjOk X.prog X.w H s.heap b (.dK []) from I.hok b _ hb)
  have hla : va.length = m.length := ra.length.symm
  have hlb : vb.length = 0 := rb.length.symm
  cases m with
  | nil =>
    refine PySem.W.keq_ne (knd := mixKind X.prog X.w) (r := true) na nb da db hu (fun _ => ?_) (fin_bl I q ?_)
    · cases va with
      | nil => exact .nil
      | cons _ _ => nomatch hla
    · rw [hla, hlb]; rfl
  | cons p m =>
    refine PySem.W.keq_ne (knd := mixKind X.prog X.w) (r := true) na nb da db hu (fun z => ?_) (fin_bl I q ?_)
    · rw [hla, hlb] at z; nomatch z
    · rw [hla, hlb]; rfl
/-- name = {k: v for ..} on one line, the name a local -/
theorem swd_true {kx vx : Expr} {gs : List Comprehension} {sc : Scope} {p1 p2 : Pos} {nm : Str} {l : Nat} {env : Env} (h1 : env.scope.kind = .function) (h2 : env.scope.names.lookup nm = some .local) (h3 : (p2.line == p1.line) = true)
    (h4 : (sc.names.any fun (n, k) => n == nm && (k == .local || k == .cell)) = false) : swapsWith (.DictComp kx vx gs sc p1) (some (.Name nm p2)) l env = pure true := by
  have hk : env.kindOf nm = some .local := h2
  have hf : env.blockKind = .function := by
    unfold Env.blockKind
    rw [h1]
    rfl
  unfold swapsWith
  simp only [hf, hk, h4, Expr.pos, h3]
  rfl
theorem ps_setDc {i : Nat} {nm : Str} {p2 : Pos} {kx vx tg iter : Expr} {ifs : List Expr} {sc : Scope} {own : List (Str × Nat)} {p1 p3 : Pos} {wi : TI} {g : TG} {tt : TT} {tk tv : TE} (calm : X.calm = true) (nd : X.N.Nodup) (hy : X.N[i]? = some nm) (hl : X.env.scope.names.lookup nm = some .local)
    (hsw : swapsWith (.DictComp kx vx [⟨tg, iter, ifs, 0⟩] sc p1) (some (.Name nm p2)) p3.line X.env = pure true) (hi : PI X tg iter wi) (ok : BlkOk X.N X.env.scope sc own)
    (hg : ∀ (z : Shared) (G : Hp) (C : Addr) (cl : List (Str × Addr)) (fp : List Addr), PG (X.blk z G sc (compEnvC sc cl C X.env) fp) tg g) (ht : ∀ (z : Shared) (G : Hp) (C : Addr) (cl : List (Str × Addr)) (fp : List Addr), PTs (X.blk z G sc (compEnvC sc cl C X.env) fp) ifs tt)
    (hk : ∀ (z : Shared) (G : Hp) (C : Addr) (cl : List (Str × Addr)) (fp : List Addr), PE (X.blk z G sc (compEnvC sc cl C X.env) fp) kx tk) (hv : ∀ (z : Shared) (G : Hp) (C : Addr) (cl : List (Str × Addr)) (fp : List Addr), PE (X.blk z G sc (compEnvC sc cl C X.env) fp) vx tv)
    (hs : ∀ v, foldedSetIterable iter X.env v = pure v := by intro _; rfl) :
    PS X (.Assign [.Name nm p2] (.DictComp kx vx [⟨tg, iter, ifs, 0⟩] sc p1) p3) (tAsg (tDc wi g tt tk tv (own.map (·.2))) (gName i)) := by
  refine ⟨fun pn z σ G D I h => ?_⟩
  have h' : tDc wi g tt tk tv (own.map (·.2)) σ G (fun x G1 => gName i x σ G1 D.nx) := h
  rw [exec_Assign_Name_used _ _ _ _ hsw]
  refine wpAny_bind (wpAny_standAt (wpAny_bind ?_))
  show wpAny _ X.A (do
    let _ ← comprehension (.DictComp kx vx [⟨tg, iter, ifs, 0⟩] sc p1) sc X.env (firstIterPos [⟨tg, iter, ifs, 0⟩] p1) newDict false (eval iter X.env) (some (assign (.Name nm p2) X.env))) _ _ z
  refine wpAny_bind (thn (dc_core (Qf := fun _ z' => SP X pn D .next z') calm nd I hi ok hg ht hk hv hs h' fun L C z' m G' I' q hn fo => ?_) fun _ _ hq => wpAny_pure (wpAny_pure hq))
  show wpAny _ _ (assign (.Name nm p2) X.env (.ref L)) _ _ _
  refine wpAny_assign_Name (store_ok2 (v := V.ref L) I' nd hy (.inl hl) rfl (fun z2 I2 ⟨a, sb, ha⟩ => ?_) (.inr hl))
  obtain ⟨f0, f1, f2, f3, f4, f5⟩ := fo
  have ne : C ≠ a := ha.elim (fun e => by rw [e]; exact f1) fun e w => f4 nm a e w.symm
  exact ⟨m, hn.sameBut sb ne, fun _ sb3 => ⟨_, G', I2.turned (t' := z2.toks) (fun b o hb e => (sb3.2 b hb).trans e) f0 f1 f3 f4 f5, q⟩⟩
/-! a range with a step, kept -/
def RngO (a : Addr) (i j c : Int) : HO := .ext fun h => ∃ t u v, IsRange h a i j c t u v
def rRng3 : List V → Hp → VK → Prop := fun vs H Q => ∃ (i j c : Int) (n : Nat), vs = [.int i, .int j, .int c] ∧ RgC i j c n ∧ ∀ p, H p = none → Q (.ref p) (upd H p (RngO p i j c))
theorem cr_rng3 : CallR X (.type "range") rRng3 := by
  intro pins s σ H vs us Q I r h
  obtain ⟨i, j, k, n, e, ⟨c0, c1, c2, c3⟩, q⟩ := h
  subst e
  cases r with
  | cons r1 rr =>
    cases rr with
    | cons r2 rr =>
      cases rr with
      | cons r3 rr =>
        cases rr
        obtain ⟨t1, rfl⟩ := r1
        obtain ⟨t2, rfl⟩ := r2
        obtain ⟨t3, rfl⟩ := r3
        refine call_range_3 c0 ?_ (.inl (PyProof.noPylong_small c1))
        have hn := I.hok.fresh (Nat.le_refl s.heap.objs.size)
        refine ⟨.ref s.heap.objs.size, upd H s.heap.objs.size (RngO s.heap.objs.size i j k), ?_, rfl, q _ hn⟩
        refine I.laid (t' := s.toks) (fun b o e => Heap.get?_push_of_some _ e) (Nat.le_refl _) ?_
        refine ⟨⟨t1, t2, t3, IsRange.new ..⟩, ⟨_, Heap.get?_push_size _ rfl⟩, fun h1 h2 ⟨y1, y2, y3, z⟩ keep => ⟨y1, y2, y3, keep _ z⟩⟩
theorem pi_rng {tg e : Expr} {te : TE} (he : PE X e te) : PI X tg e (fun σ H R => te σ H fun x H1 => ∃ (a : Addr) (i j c : Int) (n : Nat), x = .ref a ∧ H1 a = some (RngO a i j c) ∧ RgC i j c n ∧ R (Itc i c n) H1) := by
  refine ⟨fun pins s σ H R I h => ?_⟩
  refine thn (he.run pins s σ H _ I h) fun u s1 ⟨x, H1, I1, rx, a, i, j, k, n, ex, ha, ⟨c0, c1, c2, c3⟩, q⟩ => ?_
  subst ex
  cases (show u = Value.ref a from rx)
  obtain ⟨⟨t1, t2, t3, hr⟩, _⟩ := I1.hok a _ ha
  refine wpAny_pyIter_range hr c2 ?_
  refine pi_one (tk := s1.toks) I1 _ (turn_rangeC _ i k n) ?_ q
  have e1 : i + ((0 : Nat) : Int) * k = i := by simp
  have e2 : (n : Int) - ((0 : Nat) : Int) = Builtin.Range.rangeSize i j k := by rw [c3]; simp
  show IsRangeIter _ _ (i + ((0 : Nat) : Int) * k) ((n : Int) - ((0 : Nat) : Int)) k
  rw [e1, e2]
  exact Heap.get?_push_size _ rfl
/-- a thing that nobody writes to from here on -/
def tFreeze (td : TE) : TE := fun σ H Q => td σ H fun x H1 => ∃ (d : Addr) (u : HO), x = .ref d ∧ H1 d = some u ∧ Mut (some u) ∧ ∀ od, Q x (upd H1 d (.frz od u))
theorem pe_freeze {e : Expr} {td : TE} (he : PE X e td) : PE X e (tFreeze td) := ⟨fun pins s σ H Q I h => by
  refine thn (he.run pins s σ H _ I h) fun u s1 ⟨x, H1, I1, rx, d, o, ex, hd, mu, q⟩ => ?_
  obtain ⟨od, I2⟩ := I1.lock hd mu
  exact ⟨x, _, I2, rx, q od⟩⟩
end
theorem choose_list {α : Type} {R : Nat → α → Prop} : ∀ n : Nat, (∀ i, i < n → ∃ p, R i p) → ∃ l : List α, l.length = n ∧ ∀ (i : Nat) p, l[i]? = some p → R i p
  | 0, _ => ⟨[], rfl, fun i p h => by simp at h⟩
  | n + 1, h => by
    obtain ⟨l, h1, h2⟩ := choose_list n fun i hi => h i (by omega)
    obtain ⟨p, hp⟩ := h n (by omega)
    refine ⟨l ++ [p], by rw [List.length_append, h1]; rfl, fun i q hq => ?_⟩
    by_cases c : i < l.length
    · rw [List.getElem?_append_left c] at hq
      exact h2 i q hq
    · rw [List.getElem?_append_right (by omega)] at hq
      have e2 : i - l.length = 0 := by
        cases z : i - l.length with
        | zero => rfl
        | succ z' => rw [z] at hq; simp at hq
      rw [e2] at hq
      have e3 : p = q := by simpa using hq
      have e4 : i = n := by omega
      rw [← e3, e4]
      exact hp
theorem refs_list {K : PySem.W.Frag} {H : Hp} {β : Type} {f : β → V} : ∀ {xs : List V} {L : List (Int × β)}, Paired (fun x (p : Int × β) => ∃ t, x = V.ref t ∧ SqT K H t [.int p.1, f p.2]) xs L → ∃ ts : List Addr, xs = ts.map V.ref ∧ Paired (fun p (kv : Key × V) => SqT K H p [kV kv.1, kv.2]) ts (enc f L)
  | _, _, .nil => ⟨[], rfl, .nil⟩
  | _, _, .cons h t => by
    obtain ⟨a, rfl, q⟩ := h
    obtain ⟨ts, rfl, r⟩ := refs_list t
    exact ⟨a :: ts, rfl, .cons q r⟩
theorem merge_nd {β : Type} {f : β → V} : ∀ {M L : List (Int × β)}, (keysL (L ++ M)).Nodup → mergeK (enc f L) (enc f M) = enc f (L ++ M)
  | [], L, _ => by rw [List.append_nil]; rfl
  | m :: M, L, h => by
    have e : putK (enc f L) (Sum.inl m.1) (f m.2) = enc f (L ++ [m]) := by
      rw [putK_enc, putL_new]
      intro z
      unfold keysL at h z
      rw [List.map_append, List.nodup_append] at h
      exact h.2.2 _ z _ List.mem_cons_self rfl
    show mergeK (putK (enc f L) (Sum.inl m.1) (f m.2)) (enc f M) = _
    rw [e, merge_nd (by rw [List.append_assoc]; exact h), List.append_assoc]
    rfl
theorem merged_same {k : List (Key × V)} {prs : List (Key × Value)} (r : KV k prs) (hm : mergeK [] k = k) : KV k (merged [] prs) := by
  have z := KV.merge r (kvs := []) (vs := []) .nil
  rw [hm] at z
  exact z
section
variable {X : Cx}
/-- dict(l) of a list, or of a tuple that is known to have no attributes of its own -/
def rDictX (K : PySem.W.Frag) : List V → Hp → VK → Prop := fun vs H Q => ∃ (β : Type) (f : β → V) (a : Addr) (xs : List V) (L : List (Int × β)), vs = [.ref a] ∧ (SqL K H a xs ∨ TupX H a xs) ∧ Paired (fun x (p : Int × β) => ∃ t, x = V.ref t ∧ SqT K H t [.int p.1, f p.2]) xs L ∧ (keysL L).Nodup ∧ L.length ≤ 10000 ∧ ∀ p, H p = none → Q (.ref p) (upd H p (.dK (enc f L)))
theorem cr_dictX (hc : X.calm = true) : CallR X (.type "dict") (rDictX X.K) := by
  intro pins s σ H vs us Q I r h
  obtain ⟨β, f, a, xs, L, e, ha, hp, hn, hl, q⟩ := h
  subst e
  obtain ⟨ts, rfl, hq⟩ := refs_list hp
  have hm : mergeK [] (enc f L) = enc f L := merge_nd (L := []) hn
  rcases ha with ha | ⟨ob, ha, hd⟩
  · exact L2.call_dictP hc pins s σ H _ us Q I r ⟨a, ts, enc f L, rfl, ha, hq, fun p hp => by rw [hm]; exact q p hp⟩
  obtain ⟨u, rfl, rx⟩ := vals1 r
  cases rx
  obtain ⟨hob, hz, its, rv, pl⟩ := I.hok a _ ha
  have ei := L2.refs_at rv
  subst ei
  obtain ⟨prs, rel, hpl, hpr⟩ := L2.pairs_of I hq
  obtain ⟨o, ho, hc2, n, hdat⟩ := pl
  rw [hob] at ho
  cases ho
  have hlen : ts.length = L.length := by
    have := Paired.length hp
    rw [List.length_map] at this
    exact this
  obtain ⟨pv, hpvl, hpv⟩ := choose_list (R := fun i (p : Value × Value) => ∃ (k : Key) (b : Addr), prs[i]? = some (k, p.2) ∧ ts[i]? = some b ∧ IsTup s.heap b #[p.1, p.2] ∧ keyIs k p.1 = true) prs.length fun i hi => by
    obtain ⟨b, u, e1, e2, e3⟩ := hpr i prs[i] (List.getElem?_eq_getElem hi)
    exact ⟨(u, prs[i].2), prs[i].1, b, List.getElem?_eq_getElem hi, e1, e2, e3⟩
  refine PySem.call_dict_pairs (knd := mixKind X.prog X.w) (kvs := prs) (PairArg.tuple a (ts.map Value.ref).toArray (fun i => ts.getD i 0) pv) (I.ok.hd hc) ⟨⟨_, n, hob, hc2, hd, hdat⟩, by simp [hpvl, hpl], fun j k v hj => ?_⟩ ⟨hpvl.symm, fun i key v hrel => ?_⟩ (by rw [hpvl, hpl]; exact Nat.le_trans (by omega : ts.length ≤ 10000) (by decide)) fun h' tk hd' k => ?_
  · obtain ⟨kk, b, e1, e2, e3, e4⟩ := hpv j (k, v) hj
    refine ⟨by simp [e2], ?_⟩
    show PairAt s.heap (ts.getD j 0) k v
    rw [List.getD_eq_getElem?_getD, e2]
    exact .inl e3
  · obtain ⟨kk, b, e1, e2, e3, e4⟩ := hpv i (key, v) hrel
    exact ⟨kk, e1, e4⟩
  · have hmod : (s.heap.objs.size == sysModules) = false := beq_eq_false_iff_ne.mpr (Nat.ne_of_gt I.big)
    have k' : ∀ b o, s.heap.get? b = some o → h'.get? b = some o := fun b o e => k b o (fun z => nomatch z) e
    exact ⟨.ref s.heap.objs.size, upd H s.heap.objs.size (.dK (enc f L)), I.laid (t' := tk) k' (Nat.le_refl _) (show ObjOk X.prog X.w _ _ _ (.dK (enc f L)) from ⟨by rw [enc_len]; exact Nat.le_trans hl (by decide), hmod, merged [] prs, merged_same rel hm, hd'⟩), rfl, q _ (I.hok.fresh (Nat.le_refl _))⟩
/-- .. of ints -/
def rDictB (K : PySem.W.Frag) : List V → Hp → VK → Prop := fun vs H Q => ∃ (a : Addr) (xs : List V) (ps : List (Int × Int)), vs = [.ref a] ∧ (SqL K H a xs ∨ TupX H a xs) ∧ PrL K H xs ps ∧ (keysL ps).Nodup ∧ ps.length ≤ 10000 ∧ ∀ p, H p = none → Q (.ref p) (upd H p (.dK (enc V.int ps)))
theorem cr_dictB (hc : X.calm = true) : CallR X (.type "dict") (rDictB X.K) := fun pins s σ H xs us Q I r h => by
  obtain ⟨a, ys, ps, e, h1, h2, h3, h4, q⟩ := h
  exact cr_dictX hc pins s σ H xs us Q I r ⟨Int, V.int, a, ys, ps, e, h1, h2, h3, h4, q⟩
/-- sorted(d.items()), int to int -/
def tSortIt (K : PySem.W.Frag) (td : TE) : TE := fun σ H Q => td σ H fun x H1 => ∃ (d : Addr) (L : List (Int × Int)), x = .ref d ∧ H1 d = some (.dK (enc V.int L)) ∧ (keysL L).Nodup ∧ L.length ≤ 1000 ∧
  ∀ (ps : List (Int × Int)) (ys : List V) (p : Addr) (H2 : Hp), ps.Perm L → Same H1 H2 → H1 p = none → H2 p = some (.lst ys) → PrL K H2 ys ps → Q (.ref p) H2
end
theorem paired_back {α β : Type} {F : α → β → Prop} : ∀ {l : List α} {m : List β} {j : Nat} {x : β}, Paired F l m → m[j]? = some x → ∃ y, l[j]? = some y ∧ F y x
  | _, _, j, x, .nil, h => by simp at h
  | _, _, 0, x, .cons f _, h => by
    have e := Option.some.inj h
    exact ⟨_, rfl, by rw [← e]; exact f⟩
  | _, _, j + 1, x, .cons _ t, h => paired_back (j := j) t h
section
variable {X : Cx}
theorem pe_sortIt {o : Expr} {td : TE} {p p1 p2 pos : Pos} (hc : X.calm = true) (hg : Gl X "sorted") (hm : X.mg "sorted" = none) (ho : PE X o td) (hb : attributeBase o "items" X.env (eval o X.env) = eval o X.env := by rfl) (hl : (p1.endLine == p2.line) = true := by rfl)
    (na : starEach [.Call (.Attribute o "items" p1) [] [] p2] X.env = (false, eval (.Call (.Attribute o "items" p1) [] [] p2) X.env) :: starEach [] X.env := by rfl) : PE X (.Call (.Name "sorted" p) [.Call (.Attribute o "items" p1) [] [] p2] [] pos) (tSortIt X.K td) := by
  refine ⟨fun pins s σ H Q I hq => ?_⟩
  refine wpAny_Call_Name_kw (ld_blt I hg hm (by decide +kernel : bootBuiltins "sorted" = some (.builtin "sorted")) ?_)
  refine PyProof.Rows.callWith_builtin1 ?_ na rfl
  rw [na]
  show wpAny _ _ (spliced ((false, eval (.Call (.Attribute o "items" p1) [] [] p2) X.env) :: backTo pos (starEach [] X.env))) _ _ s
  refine Calls.spliced_cons ?_
  refine wpAny_Call_method (T := "dict") (id := "dict.items") hb rfl hl PySem.F.plainAttrs_dict PySem.F.slot_dict_items PySem.F.type_dict_items (thn (ho.run pins s σ H _ I hq) fun u s1 ⟨x, H1, I1, rx, d, L, ex, hd, hnd, hln, q⟩ => ?_)
  subst ex
  obtain rfl : u = Value.ref d := rx
  obtain ⟨hz, hs0, vs, kv, hdo⟩ := I1.hok d _ hd
  obtain ⟨ep, hat⟩ := hdo.dictAt
  have lk : (enc V.int L).length = vs.length := Paired.length kv
  have lL : (enc V.int L).length = L.length := by unfold enc; rw [List.length_map]
  have hvl : vs.length ≤ sizeLine := by rw [← lk]; exact hz
  have I2 : Inv X pins σ H1 { s1 with heap := s1.heap.push { cls := .type "dict_items", data := .fields #[.ref d] } } := I1.kept (t' := s1.toks) fun b ob q => Heap.get?_push_of_some _ q
  refine ⟨hdo.typeIs, hdo.mapOf.noDict, ?_⟩
  show wpAny _ _ (callWith p2 (.builtin "dict.items") [.ref d] [] []) _ X.xe s1
  refine method_meetsIn PySem.F.slot_dict_items PySem.F.entry_dict_items rfl (PySem.evalArgs_none ⟨rfl, hdo.typeIs, PySem.F.args_dict_items_1 _, _, meets_dict_items (mixKind X.prog X.w) d hs0, ⟨vs, hdo⟩, ?_⟩)
  refine Calls.spliced_nil ?_
  refine sorted_collect (PySem.W.kdx_collect (A := X.A.in1) (knd := mixKind X.prog X.w) (kvs := vs) (ep := ep) (I1.ok.hd hc) ⟨_, Heap.get?_push_size _ rfl, rfl, rfl⟩ (hat.push _) hvl fun h1 tk as hk hal hG => ?_)
  generalize hs2 : s1.heap.push { cls := .type "dict_items", data := .fields #[.ref d] } = g at I2 hk hG ⊢
  have pr : ∀ (j : Nat) (a : Addr), as[j]? = some a → ∃ p : Int × Int, L[j]? = some p ∧ Srt.IsPair h1 (.ref a) p.1 p.2 := fun j a hj => by
    obtain ⟨key, k, x, e1, e2, e3⟩ := hG.pairs j a hj
    obtain ⟨y, e4, e5, e6⟩ := paired_back kv e1
    unfold enc at e4
    rw [List.getElem?_map] at e4
    obtain ⟨p, hp, e7⟩ := Option.map_eq_some_iff.mp e4
    rw [← e7] at e5 e6
    obtain ⟨t2, rfl⟩ : ∃ t, x = .int p.2 t := e6
    have e8 : k = Sum.inl p.1 := e5.symm
    subst e8
    have e9 : keyIs (Sum.inl p.1) key = true := e2
    rcases keyIs_shape e9 with ⟨i, t, e, rfl⟩ | ⟨z, t, e, rfl⟩
    · have e := Sum.inl.inj e
      subst e
      exact ⟨p, hp, a, _, t, t2, 0, rfl, e3, rfl, rfl⟩
    · nomatch e
  have hpair : ∀ v ∈ as.map Value.ref, Srt.IsPair h1 v (pairAt h1 v).1 (pairAt h1 v).2 := fun v hv => by
    obtain ⟨a, ha, rfl⟩ := List.mem_map.mp hv
    obtain ⟨j, hj⟩ := List.getElem?_of_mem ha
    obtain ⟨p, _, hp⟩ := pr j a hj
    exact pairAt_is hp
  have hkeys : (as.map Value.ref).map (pairAt h1) = L := by
    refine List.ext_getElem? fun j => ?_
    rw [List.getElem?_map, List.getElem?_map]
    cases e : as[j]? with
    | none =>
      rw [List.getElem?_eq_none (by have := List.getElem?_eq_none_iff.mp e; omega)]
      rfl
    | some a =>
      obtain ⟨p, e1, hp⟩ := pr j a e
      rw [e1]
      show some (pairAt h1 (.ref a)) = some p
      rw [pairAt_of hp]
  have hasl : (as.map Value.ref).length ≤ sizeLine := by rw [List.length_map, hal]; exact hvl
  refine ⟨_, SrtO.swo_lex (pairAt h1), hasl, fun h2 h' b hb kk => ?_, fun out h' t ks kst kk hle hn => ?_⟩
  · refine SrtO.pairs_sortableO (by omega) (fun v hm => (hpair v hm).keeps fun b o e _ => (kk b o e).2) fun o e => ?_
    have e' : some o = some (seqObj "list" (as.map Value.ref).toArray 0) := e.symm.trans hb
    cases e'
    intro c
    exact absurd (Value.type.inj c) (by decide)
  · obtain ⟨n, hn⟩ := hn
    have I3 : Inv X pins σ H1 { s1 with heap := h1, toks := tk } := I2.kept (t' := tk) hk
    have hf : H1 t = none := I3.hok.fresh hle
    have hrefs : ∀ u ∈ out, ∃ a, u = Value.ref a ∧ a ∈ as := fun u hu => by
      obtain ⟨a, ha, e⟩ := List.mem_map.mp (kst.perm.mem_iff.mp hu)
      exact ⟨a, e.symm, ha⟩
    have hpm := kst.perm.map (pairAt h1)
    rw [hkeys] at hpm
    have hlen : (out.map backV).length ≤ sizeLine := by
      rw [List.length_map, kst.perm.length_eq]
      exact hasl
    have I4 : Inv X pins σ (upd H1 t (.lst (out.map backV))) { s1 with heap := h', toks := tk } := I3.laid (t' := tk) kk hle ⟨hlen, out, n, vals_back (fun u hu => let ⟨a, e, _⟩ := hrefs u hu; ⟨a, e⟩), hn⟩
    have nd : as.Nodup := List.Pairwise.imp (fun {a b} (h : a < b) => Nat.ne_of_lt h) hG.rise
    obtain ⟨H5, I5, k5, t5⟩ := DX.takeT (P := fun a xs => xs = [.int (pairAt h1 (.ref a)).1, .int (pairAt h1 (.ref a)).2]) I2 as _ I4 nd fun a ha => by
      have hlt := hG.there ha
      have hn2 : a ≠ t := fun z => by rw [z] at hlt; exact absurd hle (Nat.not_le.mpr hlt)
      refine ⟨Nat.le_of_lt (hG.above a ha), by rw [upd_ne hn2]; exact I2.hok.fresh (Nat.le_of_lt (hG.above a ha)), _, rfl, fun H2 => ?_⟩
      obtain ⟨j, hj⟩ := List.getElem?_of_mem ha
      obtain ⟨p, _, hp⟩ := pr j a hj
      rw [pairAt_of hp]
      obtain ⟨a', ob, t1, t2, m, e, ho, hcl, hdt⟩ := hp
      cases e
      exact ⟨by show 2 ≤ sizeLine; decide, [.int p.1 t1, .int p.2 t2], .cons ⟨t1, rfl⟩ (.cons ⟨t2, rfl⟩ .nil), ob, kk _ _ ho, hcl, m, hdt⟩
    have sm5 : Same H1 H5 := fun b u e => k5 b u (by rw [upd_ne (ne_of_none e hf)]; exact e)
    refine ⟨.ref t, H5, I5, rfl, q (out.map (pairAt h1)) (out.map backV) t H5 hpm sm5 hf (k5 _ _ upd_same) ?_⟩
    refine paired_of (by rw [List.length_map, List.length_map]) fun j x k e1 e2 => ?_
    rw [List.getElem?_map] at e1 e2
    cases e : out[j]? with
    | none => rw [e] at e1; nomatch e1
    | some v =>
      rw [e] at e1 e2
      obtain ⟨a, rfl, ha⟩ := hrefs v (List.mem_of_getElem? e)
      have e4 : V.ref a = x := Option.some.inj e1
      have e5 : pairAt h1 (.ref a) = k := Option.some.inj e2
      subst e4 e5
      obtain ⟨xs, e6, e7⟩ := t5 a ha
      rw [e6] at e7
      exact P2.of e7
end
end K86
end
section
set_option Elab.async false
set_option linter.all false
set_option maxRecDepth 100000
namespace K86
open PySem PySem.Spec PyProof.Rows L2
open C8 (Cal Met Mak pe_c pe_mk pe_mt pe_mt0)
section
variable {P : Program} {w : World} {K : PySem.W.Frag} {mg : Str → Option Value} {base : Heap}
/-- a heap's bounds -/
def heapOk (p : Int × Int) : Prop := -1000000 ≤ p.1 ∧ p.1 ≤ 1000000 ∧ 1 ≤ p.2 ∧ p.2 ≤ 10 ^ 60
def spIsHeap (K : PySem.W.Frag) : Sp := fun vs H Q _ => ∃ (v : V) (p : Int × Int), vs = [v] ∧ P2 K H v p.1 p.2 ∧ heapOk p ∧ RetV H Q fun v _ => v = .bl true
theorem ok_is_heap (T : Txt P K mg) : Cal P w K mg base 3 "is_heap" (spIsHeap K) [] := by
  have h_are_integers := ok_are_integers (P := P) (w := w) (base := base) T
  have h_is_within := ok_is_within (P := P) (w := w) (base := base) T
  refine c_is_heap T (fun vs H Q E h => ?_) fun cdv A outer s H vs Q E hr h => ?_
  · obtain ⟨v, p, rfl, _⟩ := h
    rfl
  obtain ⟨v, p, rfl, ⟨a, rfl, ha⟩, ⟨h1, h2, h3, h4⟩, hQ⟩ := h
  refine ⟨_, (pss_one (ps_ret (pe_and (pe_c h_are_integers hr (by decide) (by rfl) (pa_cons (pv 0) (pa_cons pe_int pa_nil))) (pe_and (pe_c h_is_within hr (by decide) (by rfl) (pa_cons (pe_ix (r := rIxT K) ix_tup (pv 0) pe_int (fun _ _ => rfl)) (pa_cons (pe_un un_neg (pe_gi rfl (i_FARTHEST T))) (pa_cons (pe_gi rfl (i_FARTHEST T)) pa_nil)))) (pe_one (pe_c h_is_within hr (by decide) (by rfl) (pa_cons (pe_ix (r := rIxT K) ix_tup (pv 0) pe_int (fun _ _ => rfl)) (pa_cons pe_int (pa_cons (pe_gi rfl (i_MOST_CHIPS T)) pa_nil))))))))), ?_⟩
  refine ⟨_, rfl, a, false, [p.1, p.2], rfl, ha, by show 2 ≤ 1000; decide, fun v H1 s1 hv => ?_⟩
  subst hv
  have ha1 := Same.sqt s1 ha
  refine ⟨true, rfl, iteT ?_⟩
  refine ⟨_, rfl, _, _, _, _, rfl, rfl, ha1, rfl, _, rfl, p.1, some (-1000000), some 1000000, rfl, ?_⟩
  have e1 : inB p.1 (some (-1000000)) (some 1000000) = true := by
    show (decide (_ ≤ _) && decide (_ ≤ _)) = true
    rw [decide_eq_true h1, decide_eq_true h2] <;> rfl
  rw [e1]
  refine ⟨true, rfl, iteT ?_⟩
  refine ⟨_, rfl, _, _, _, _, rfl, rfl, ha1, rfl, p.2, some 1, some (10 ^ 60), rfl, ?_⟩
  have e2 : inB p.2 (some 1) (some (10 ^ 60)) = true := by
    show (decide (_ ≤ _) && decide (_ ≤ _)) = true
    rw [decide_eq_true h3, decide_eq_true h4] <;> rfl
  rw [e2]
  exact hQ _ _ s1 rfl
/-- heaps of whatever colours -/
def heapsOk (ps : List (Int × Int)) : Prop := ps.length ≤ 60 ∧ (∀ p ∈ ps, heapOk p) ∧ (ps.map (·.1)).Nodup
def spAreHeaps (K : PySem.W.Frag) : Sp := fun vs H Q _ => ∃ (a : Addr) (b : Bool) (xs : List V) (ps : List (Int × Int)), vs = [.ref a] ∧ SqB K b H a xs ∧ PrL K H xs ps ∧ heapsOk ps ∧ RetV H Q fun v _ => v = .bl true
theorem firsts_eq {xs : List V} {ps : List (Int × Int)} {acc : List V} (hl : acc.length = xs.length) (hx : xs.length = ps.length) (hf : ∀ (i : Nat) y, acc[i]? = some y → ∃ p, ps[i]? = some p ∧ y = .int p.1) : acc = (ps.map (·.1)).map V.int := by
  refine List.ext_getElem? fun i => ?_
  by_cases hi : i < acc.length
  · obtain ⟨p, h1, h2⟩ := hf i acc[i] (List.getElem?_eq_getElem hi)
    rw [List.getElem?_eq_getElem hi, List.map_map, List.getElem?_map, h1, h2]
    rfl
  · rw [List.getElem?_eq_none (by omega), List.getElem?_eq_none (by rw [List.length_map, List.length_map]; omega)]
theorem ok_are_heaps (T : Txt P K mg) : Cal P w K mg base 4 "are_heaps" (spAreHeaps K) [] := by
  have h_is_heap := ok_is_heap (P := P) (w := w) (base := base) T
  refine c_are_heaps T (fun vs H Q E h => ?_) fun cdv A outer s H vs Q E hr h => ?_
  · obtain ⟨a, b, xs, ps, rfl, _⟩ := h
    rfl
  obtain ⟨a, b, xs, ps, rfl, ha, hp, ⟨hl, hh, hn⟩, hQ⟩ := h
  have hxl : xs.length = ps.length := Paired.length hp
  refine ⟨_, (pss_cons (ps_if (PW.pt (pw_or (pt_not (pt_val (pe_callB call_isiT (by rfl) (z_isinstance T) (by decide +kernel) (pa_cons (pv 0) (pa_cons (pe_tup (pa_cons (pe_bltn (v := .ty "list") (by rfl) (z_list T) (by decide +kernel) rfl) (pa_cons (pe_bltn (v := .ty "tuple") (by rfl) (z_tuple T) (by decide +kernel) rfl) pa_nil))) pa_nil))))) (pw_or (pt_cmpR op_gt (pe_callB call_len_seq (by rfl) (z_len T) (by decide +kernel) (pa_cons (pv 0) pa_nil)) (pe_gi rfl (i_MOST_HEAPS T)) (nomark _)) (pw_or1 (pt_not (pt_val (pe_callB (cr_all rfl) (by rfl) (z_all T) (by decide +kernel) (pa_cons (pe_lc (own := [("each", 4)]) (g := (gName 4)) (tt := tYes) rfl sc_are_heaps.nd (pi_or (pi_list (pv 0)) (pi_tup (pv 0))) (blkOk_by (own := [("each", 4)]) (N := n_are_heaps) (sc := defScope s_are_heaps) (by decide +kernel)) (fun _ _ _ _ _ => (pg_name (i := 4) sc_are_heaps.nd rfl (by first | exact Or.inl rfl | exact Or.inr rfl))) (fun _ _ _ _ _ => pts_nil) (fun _ _ _ _ _ => (pe_c h_is_heap hr (by decide) (by rfl) (pa_cons (pv 4) pa_nil)))) pa_nil)))))))) (pss_one (ps_ret pe_bl)) pss_nil)
      (pss_cons (ps_setLc (i := 1) (own := [("spot", 2), ("_", 3)]) (g := (gTup K 2 (gCons (gName 2) (gCons (gName 3) gNil)))) (tt := tYes) rfl sc_are_heaps.nd rfl rfl (sw_true rfl rfl rfl (by decide +kernel)) (pi_or (pi_list (pv 0)) (pi_tup (pv 0))) (blkOk_by (own := [("spot", 2), ("_", 3)]) (N := n_are_heaps) (sc := defScope s_are_heaps) (by decide +kernel)) (fun _ _ _ _ _ => (pg_tup rfl (pgs_cons (pg_name (i := 2) sc_are_heaps.nd rfl (by first | exact Or.inl rfl | exact Or.inr rfl)) (pgs_cons (pg_name (i := 3) sc_are_heaps.nd rfl (by first | exact Or.inl rfl | exact Or.inr rfl)) pgs_nil)))) (fun _ _ _ _ _ => pts_nil) (fun _ _ _ _ _ => (pv 2)))
      (pss_one (ps_ret (pe_cmpR op_eq (pe_lenSetB (by rfl) (z_len T) (by rfl) (z_set T) (pv 1)) (pe_callB call_len_seq (by rfl) (z_len T) (by decide +kernel) (pa_cons (pv 1) pa_nil)) (nomark _)))))), ?_⟩
  refine ⟨_, rfl, by show 2 ≤ sizeLine; decide, fun p hp0 => ?_⟩
  have s1 : Same H (upd H p (.tup [.ty "list", .ty "tuple"])) := same_new hp0
  obtain ⟨t, ht, hk⟩ := kit_lt (ha.mono s1)
  refine ⟨_, p, _, t, _, true, rfl, upd_same, cls_lt, ht, hk, true, rfl, iteF ?_⟩
  refine ⟨_, rfl, a, _, rfl, (ha.mono s1).or, _, _, rfl, rfl, _, rfl, ?_⟩
  rw [decide_eq_false (by omega)]
  refine iteF ?_
  refine sq_or rfl (ha.mono s1) fun J wk D hD => lc_map wk (fun _ y _ => y = .bl true) hD (fun _ _ _ _ _ z => z) (by omega) (fun H e => ha.mono (s1.trans e)) (fun i x H1 H2 N Q1 hi sm ⟨e, hx⟩ hq => ?_) fun H2 acc sm hacc hal hf => ?_
  · obtain ⟨q, h1, h2⟩ := paired_at hp hx
    subst e
    exact ⟨rfl, tyes ⟨_, rfl, x, q, rfl, h2.mono (s1.trans sm), hh q (List.mem_of_getElem? h1), fun v H4 s4 hv => hq _ _ s4 hv⟩⟩
  obtain ⟨bs, h1, h2⟩ := all_bs (K := K) hacc hf
  refine ⟨D, bs, rfl, h1, ?_⟩
  rw [h2]
  refine ⟨true, rfl, iteF ?_⟩
  have s2 := s1.trans sm
  refine sq_or rfl (ha.mono s2) fun J wk D2 hD2 => lc_map wk (fun i y _ => ∃ p, ps[i]? = some p ∧ y = .int p.1) hD2 (fun _ _ _ _ _ z => z) (by omega) (fun H e => ha.mono (s2.trans e)) (fun i x H1 H3 N Q1 hi sm3 ⟨e, hx⟩ hq => ?_) fun H3 acc2 sm3 hacc2 hal2 hf2 => ?_
  · obtain ⟨q, h1, a2, rfl, h2⟩ := paired_at hp hx
    subst e
    exact ⟨_, _, rfl, Same.sqt (s2.trans sm3) h2, rfl, _, _, rfl, _, _, rfl, rfl, rfl, tyes ⟨_, rfl, hq _ _ (Same.refl _) ⟨q, h1, rfl⟩⟩⟩
  have e2 := firsts_eq hal2 hxl hf2
  rw [e2] at hacc2
  have hl2 : (ps.map (·.1)).length = ps.length := List.length_map ..
  refine ⟨_, rfl, D2, true, _, rfl, .inl (.inl hacc2), hn, by omega, _, rfl, D2, _, rfl, .inl (.inl (.inl hacc2)), rfl, ?_⟩
  exact Qdec (by simp only [List.length_map]) (hQ _ _ (s2.trans sm3) rfl)
def spKept (K : PySem.W.Frag) : Sp := fun vs H Q _ => ∃ (a : Addr) (b : Bool) (xs : List V) (ps : List (Int × Int)), vs = [.ref a] ∧ SqB K b H a xs ∧ PrL K H xs ps ∧ ps.length ≤ 100000 ∧ RetV H Q fun v H' => ∃ ps' : List (Int × Int), ps'.Perm ps ∧ HpV K H' v ps'
theorem ok_kept_heaps (T : Txt P K mg) : Cal P w K mg base 1 "kept_heaps" (spKept K) [] := by
  refine c_kept_heaps T (fun vs H Q E h => ?_) fun cdv A outer s H vs Q E hr h => ?_
  · obtain ⟨a, b, xs, ps, rfl, _⟩ := h
    rfl
  obtain ⟨a, b, xs, ps, rfl, ha, hp, hl, hQ⟩ := h
  have hxl : xs.length = ps.length := Paired.length hp
  refine ⟨_, (pss_one (ps_ret (pe_callTy cr_tupX (by rfl) (z_tuple T) (by decide +kernel) (pa_cons (pe_callB cr_sortedP (by rfl) (z_sorted T) (by decide +kernel) (pa_cons (pe_lc (own := [("spot", 1), ("many", 2)]) (g := (gTup K 2 (gCons (gName 1) (gCons (gName 2) gNil)))) (tt := tYes) rfl sc_kept_heaps.nd (pi_or (pi_list (pv 0)) (pi_tup (pv 0))) (blkOk_by (own := [("spot", 1), ("many", 2)]) (N := n_kept_heaps) (sc := defScope s_kept_heaps) (by decide +kernel)) (fun _ _ _ _ _ => (pg_tup rfl (pgs_cons (pg_name (i := 1) sc_kept_heaps.nd rfl (by first | exact Or.inl rfl | exact Or.inr rfl)) (pgs_cons (pg_name (i := 2) sc_kept_heaps.nd rfl (by first | exact Or.inl rfl | exact Or.inr rfl)) pgs_nil)))) (fun _ _ _ _ _ => pts_nil) (fun _ _ _ _ _ => (pe_tup (pa_cons (pv 1) (pa_cons (pv 2) pa_nil))))) pa_nil)) pa_nil)))), ?_⟩
  refine sq_or rfl ha fun J wk D hD => lc_map wk (fun i y H => ∃ p t, ps[i]? = some p ∧ y = .ref t ∧ H t = some (.tup [.int p.1, .int p.2])) hD (fun _ y H H' im ⟨p, t, h1, h2, h3⟩ => ⟨p, t, h1, h2, im.1 _ _ h3⟩) (by omega) (fun H e => ha.mono e) (fun i x H1 H2 N Q1 hi sm ⟨e, hx⟩ hq => ?_) fun H2 acc sm hacc hal hf => ?_
  · obtain ⟨q, h1, a2, rfl, h2⟩ := paired_at hp hx
    subst e
    refine ⟨_, _, rfl, Same.sqt sm h2, rfl, _, _, rfl, _, _, rfl, rfl, rfl, tyes ⟨_, rfl, _, rfl, by show 2 ≤ sizeLine; decide, fun p hp => hq _ _ (same_new hp) ⟨q, p, h1, rfl, upd_same⟩⟩⟩
  obtain ⟨h1, h2⟩ := prL_of (K := K) (hal.trans hxl) hf
  refine ⟨D, acc, rfl, .inl (.inl hacc), h2, fun ys p py hp => ?_⟩
  obtain ⟨bs, h3, h4⟩ := paired_perm py h1
  refine ⟨p, ys, rfl, .inl ⟨.inl (.inl upd_same), fun q ob hob hq => ?_⟩⟩
  have s3 := (sm.trans (same_new hp)).trans (same_new (o := .frz ob (.tup ys)) hq)
  exact hQ _ _ s3 ⟨bs, h4, q, ys, rfl, TupX.new hob, PrL.im (Im.of ((same_new hp).trans (same_new hq))) h3⟩
def spColourIn (K : PySem.W.Frag) : Sp := fun vs H Q _ => ∃ (a : Addr) (n : Int) (ns : List Int), vs = [.ref a] ∧ SqL K H a ((n :: ns).map V.int) ∧ Q (.int (n % 2)) H
theorem ok_colour_in (T : Txt P K mg) : Cal P w K mg base 1 "colour_in" (spColourIn K) [] := by
  refine c_colour_in T (fun vs H Q E h => ?_) fun cdv A outer s H vs Q E hr h => ?_
  · obtain ⟨a, n, ns, rfl, _⟩ := h
    rfl
  obtain ⟨a, n, ns, rfl, ha, hQ⟩ := h
  refine ⟨_, (pss_one (ps_ret (pe_ifExp (pt_cmpR op_gt (pe_callB call_len_seq (by rfl) (z_len T) (by decide +kernel) (pa_cons (pv 0) pa_nil)) pe_int (nomark _)) (pe_op op_mod (pe_ix (r := rIxL K) ix_list (pv 0) pe_int (fun _ _ => rfl)) pe_int) pe_non))), ?_⟩
  refine ⟨_, rfl, a, _, rfl, .inl ha, _, _, rfl, rfl, _, rfl, ?_⟩
  rw [decide_eq_true (by simp only [List.map_cons, List.length_cons]; omega)]
  exact iteT ⟨_, rfl, a, _, _, _, rfl, rfl, ha, atI_nat (j := 0) rfl, _, _, rfl, rfl, (by show (0 : Int) < 2; decide), hQ⟩
def spSpotsOf (K : PySem.W.Frag) : Sp := fun vs H Q _ => ∃ (a : Addr) (b : Bool) (xs : List V) (ps : List (Int × Int)), vs = [.ref a] ∧ SqB K b H a xs ∧ PrL K H xs ps ∧ ps.length ≤ 100000 ∧ RetN H Q (.lst ((ps.map (·.1)).map V.int))
theorem ok_spots_of (T : Txt P K mg) : Cal P w K mg base 1 "spots_of" (spSpotsOf K) [] := by
  refine c_spots_of T (fun vs H Q E h => ?_) fun cdv A outer s H vs Q E hr h => ?_
  · obtain ⟨a, b, xs, ps, rfl, _⟩ := h
    rfl
  obtain ⟨a, b, xs, ps, rfl, ha, hp, hl, hQ⟩ := h
  have hxl : xs.length = ps.length := Paired.length hp
  refine ⟨_, (pss_one (ps_ret (pe_lc (own := [("spot", 1), ("_", 2)]) (g := (gTup K 2 (gCons (gName 1) (gCons (gName 2) gNil)))) (tt := tYes) rfl sc_spots_of.nd (pi_or (pi_list (pv 0)) (pi_tup (pv 0))) (blkOk_by (own := [("spot", 1), ("_", 2)]) (N := n_spots_of) (sc := defScope s_spots_of) (by decide +kernel)) (fun _ _ _ _ _ => (pg_tup rfl (pgs_cons (pg_name (i := 1) sc_spots_of.nd rfl (by first | exact Or.inl rfl | exact Or.inr rfl)) (pgs_cons (pg_name (i := 2) sc_spots_of.nd rfl (by first | exact Or.inl rfl | exact Or.inr rfl)) pgs_nil)))) (fun _ _ _ _ _ => pts_nil) (fun _ _ _ _ _ => (pv 1))))), ?_⟩
  refine sq_or rfl ha fun J wk D hD => lc_map wk (fun i y H => ∃ p, ps[i]? = some p ∧ y = .int p.1) hD (fun _ _ _ _ _ z => z) (by omega) (fun H e => ha.mono e) (fun i x H1 H2 N Q1 hi sm ⟨e, hx⟩ hq => ?_) fun H2 acc sm hacc hal hf => ?_
  · obtain ⟨q, h1, a2, rfl, h2⟩ := paired_at hp hx
    subst e
    exact ⟨_, _, rfl, Same.sqt sm h2, rfl, _, _, rfl, _, _, rfl, rfl, rfl, tyes ⟨_, rfl, hq _ _ (Same.refl _) ⟨q, h1, rfl⟩⟩⟩
  rw [firsts_eq hal hxl hf] at hacc
  exact hQ _ _ hD sm hacc
def spNeedHeaps (K : PySem.W.Frag) : Sp := fun vs H Q _ => ∃ (a : Addr) (z : Str) (b : Bool) (xs : List V) (ps : List (Int × Int)), vs = [.ref a, .str z] ∧ SqB K b H a xs ∧ PrL K H xs ps ∧ heapsOk ps ∧ RetV H Q fun v H' => ∃ ps' : List (Int × Int), ps'.Perm ps ∧ HpV K H' v ps'
theorem ok_need_heaps (T : Txt P K mg) : Cal P w K mg base 5 "need_heaps" (spNeedHeaps K) [] := by
  have h_are_heaps := ok_are_heaps (P := P) (w := w) (base := base) T
  have h_kept_heaps := ok_kept_heaps (P := P) (w := w) (base := base) T
  refine c_need_heaps T (fun vs H Q E h => ?_) fun cdv A outer s H vs Q E hr h => ?_
  · obtain ⟨a, z, b, xs, ps, rfl, _⟩ := h
    rfl
  obtain ⟨a, z, b, xs, ps, rfl, ha, hp, ho, hQ⟩ := h
  refine ⟨_, (pss_cons (ps_if (pt_not (pt_val (pe_c h_are_heaps hr (by decide) (by rfl) (pa_cons (pv 0) pa_nil)))) (pss_one ps_never) pss_nil)
      (pss_one (ps_ret (pe_c h_kept_heaps hr (by decide) (by rfl) (pa_cons (pv 0) pa_nil))))), ?_⟩
  refine ⟨_, rfl, a, b, xs, ps, rfl, ha, hp, ho, fun v H1 s1 hv => ?_⟩
  subst hv
  refine ⟨true, rfl, iteF ⟨_, rfl, a, b, xs, ps, rfl, ha.mono s1, hp.im (Im.of s1), by have := ho.1; omega, fun v H2 s2 h2 => hQ _ _ (s1.trans s2) h2⟩⟩
def spNeedColour (K : PySem.W.Frag) : Sp := fun vs H Q _ => ∃ (a : Addr) (c : Int) (ns : List Int), vs = [.ref a] ∧ SqL K H a (ns.map V.int) ∧ ns.length ≤ 100000 ∧ (∀ n ∈ ns, n % 2 = c) ∧ RetV H Q fun v _ => v = .non
theorem ok_need_colour (T : Txt P K mg) : Cal P w K mg base 2 "need_colour" (spNeedColour K) [] := by
  have h_colour_in := ok_colour_in (P := P) (w := w) (base := base) T
  refine c_need_colour T (fun vs H Q E h => ?_) fun cdv A outer s H vs Q E hr h => ?_
  · obtain ⟨a, c, ns, rfl, _⟩ := h
    rfl
  obtain ⟨a, c, ns, rfl, ha, hl, hc, hQ⟩ := h
  refine ⟨_, (pss_one (ps_if (pt_not (pt_val (pe_callB (cr_all rfl) (by rfl) (z_all T) (by decide +kernel) (pa_cons (pe_lc (own := [("spot", 1)]) (g := (gName 1)) (tt := tYes) rfl sc_need_colour.nd (pi_list (pv 0)) (blkOk_by (own := [("spot", 1)]) (N := n_need_colour) (sc := defScope s_need_colour) (by decide +kernel)) (fun _ _ _ _ _ => (pg_name (i := 1) sc_need_colour.nd rfl (by first | exact Or.inl rfl | exact Or.inr rfl))) (fun _ _ _ _ _ => pts_nil) (fun _ _ _ _ _ => (pe_cmpR op_eq (pe_op op_mod (pv 1) pe_int) (pe_c h_colour_in hr (by decide) (by rfl) (pa_cons (pv 0) pa_nil)) (nomark _)))) pa_nil)))) (pss_one ps_never) pss_nil)), ?_⟩
  refine ⟨_, rfl, a, rfl, ⟨_, ha⟩, fun D hD => lc_map walk_list (fun i y _ => y = .bl true) hD (fun _ _ _ _ _ z => z) (by rw [List.length_map]; omega) (fun H e => e.seq ha) (fun i x H1 H2 N Q1 hi sm ⟨e, hx⟩ hq => ?_) fun H2 acc sm hacc hal hf => ?_⟩
  · obtain ⟨m, h1, rfl⟩ := at_map hx
    have h2 := List.mem_of_getElem? h1
    subst e
    cases ns with
    | nil => cases h2
    | cons n0 ns0 =>
      have e0 := hc n0 List.mem_cons_self
      have e1 := hc m h2
      refine ⟨rfl, tyes ⟨_, rfl, _, _, rfl, rfl, (by show (0 : Int) < 2; decide), _, rfl, a, n0, ns0, rfl, sm.seq ha, rfl, ?_⟩⟩
      exact Qdec (by show V.int (m % 2) = V.int (n0 % 2); rw [e0, e1]) (hq _ _ (Same.refl _) rfl)
  · obtain ⟨bs, h1, h2⟩ := all_bs (K := K) hacc hf
    refine ⟨D, bs, rfl, h1, ?_⟩
    rw [h2]
    exact ⟨true, rfl, iteF (hQ _ _ sm rfl)⟩
theorem cal_lefts (T : Txt P K mg) {k : Nat} {sp : Sp} (len : ∀ vs H Q E, sp vs H Q E → vs.length = 2)
    (hbody : ∀ (cdv : Value) (A : Around) (outer : List Env) (s : Shared) (H : Hp) (vs : List V) (Q : VK) (E : XK), Room k (A.deeper (envOfC "need_lefts" (defScope s_need_lefts) s.heap.objs.size (He.ga K "need_lefts") cdv)) → sp vs H Q E →
      ∃ t, PSs (cxOf L2.CX0 P w K mg base n_need_lefts "need_lefts" (defScope s_need_lefts) (He.ga K "need_lefts") cdv A outer s H E).nox (defBody s_need_lefts) t ∧ t { nx := fun _ H' => Q .non H', rt := Q } (start n_need_lefts vs) H) : Cal P w K mg base (k + 1) "need_lefts" sp [.str "lefts"] := by
  obtain ⟨fd, F⟩ := T.says.def_ 11 (d := d_need_lefts) rfl
  obtain ⟨ds, hd, hb⟩ := F.binds1 (ps := p_need_lefts) 1 0 (List.cons_ne_nil _ _) rfl fun T' kV doc pm an cdv ct us its hu hi => match us, its, hu, hi with
    | [u], [v], _, _ => ⟨_, rfl, rfl⟩
  refine ⟨He.ga K "need_lefts", fd, p_need_lefts, ds, ?_, g_need_lefts T, F.kp, hb, hd⟩
  refine F.ok sc_need_lefts len fun cdv A outer s H vs Q E hr hsp => ?_
  obtain ⟨t, h, q⟩ := hbody cdv A outer s H vs Q E hr hsp
  exact ⟨t, h.nox, q⟩
/-- lefts: unlike spots within bounds, not too many -/
def leftsOk (ns : List Int) : Prop := ns.length ≤ 400 ∧ (∀ n ∈ ns, -1000000 ≤ n ∧ n ≤ 1000000) ∧ ns.Nodup
def spNeedLefts (K : PySem.W.Frag) : Sp := fun vs H Q _ => ∃ (a : Addr) (z : Str) (b : Bool) (ns : List Int), vs = [.ref a, .str z] ∧ SqB K b H a (ns.map V.int) ∧ leftsOk ns ∧ RetV H Q fun v H' => ∃ ns' : List Int, ns'.Perm ns ∧ InT K H' v ns'
theorem ok_need_lefts (T : Txt P K mg) : Cal P w K mg base 3 "need_lefts" (spNeedLefts K) [.str "lefts"] := by
  have h_is_within := ok_is_within (P := P) (w := w) (base := base) T
  refine cal_lefts T (fun vs H Q E h => ?_) fun cdv A outer s H vs Q E hr h => ?_
  · obtain ⟨a, z, b, ns, rfl, _⟩ := h
    rfl
  obtain ⟨a, z, b, ns, rfl, ha, ⟨hl, hw, hn⟩, hQ⟩ := h
  refine ⟨_, (pss_cons (ps_if (PW.pt (pw_or (pt_not (pt_val (pe_callB call_isiT (by rfl) (z_isinstance T) (by decide +kernel) (pa_cons (pv 0) (pa_cons (pe_tup (pa_cons (pe_bltn (v := .ty "list") (by rfl) (z_list T) (by decide +kernel) rfl) (pa_cons (pe_bltn (v := .ty "tuple") (by rfl) (z_tuple T) (by decide +kernel) rfl) pa_nil))) pa_nil))))) (pw_or1 (pt_cmpR op_gt (pe_callB call_len_seq (by rfl) (z_len T) (by decide +kernel) (pa_cons (pv 0) pa_nil)) (pe_gi rfl (i_MOST_LEFTS T)) (nomark _))))) (pss_one ps_never) pss_nil)
      (pss_cons (ps_if (PW.pt (pw_or (pt_not (pt_val (pe_callB (cr_all rfl) (by rfl) (z_all T) (by decide +kernel) (pa_cons (pe_lc (own := [("spot", 2)]) (g := (gName 2)) (tt := tYes) rfl sc_need_lefts.nd (pi_or (pi_list (pv 0)) (pi_tup (pv 0))) (blkOk_by (own := [("spot", 2)]) (N := n_need_lefts) (sc := defScope s_need_lefts) (by decide +kernel)) (fun _ _ _ _ _ => (pg_name (i := 2) sc_need_lefts.nd rfl (by first | exact Or.inl rfl | exact Or.inr rfl))) (fun _ _ _ _ _ => pts_nil) (fun _ _ _ _ _ => (pe_c h_is_within hr (by decide) (by rfl) (pa_cons (pv 2) (pa_cons (pe_un un_neg (pe_gi rfl (i_FARTHEST T))) (pa_cons (pe_gi rfl (i_FARTHEST T)) pa_nil)))))) pa_nil)))) (pw_or1 (pt_cmpR op_lt (pe_lenSetB (by rfl) (z_len T) (by rfl) (z_set T) (pv 0)) (pe_callB call_len_seq (by rfl) (z_len T) (by decide +kernel) (pa_cons (pv 0) pa_nil)) (nomark _))))) (pss_one ps_never) pss_nil)
      (pss_one (ps_ret (pe_callTy call_tuple_of (by rfl) (z_tuple T) (by decide +kernel) (pa_cons (pe_callB cr_sortedB (by rfl) (z_sorted T) (by decide +kernel) (pa_cons (pv 0) pa_nil)) pa_nil)))))), ?_⟩
  refine ⟨_, rfl, by show 2 ≤ sizeLine; decide, fun p hp0 => ?_⟩
  have s1 : Same H (upd H p (.tup [.ty "list", .ty "tuple"])) := same_new hp0
  obtain ⟨t, ht, hk⟩ := kit_lt (ha.mono s1)
  refine ⟨_, p, _, t, _, true, rfl, upd_same, cls_lt, ht, hk, true, rfl, iteF ?_⟩
  refine ⟨_, rfl, a, _, rfl, (ha.mono s1).or, _, _, rfl, rfl, _, rfl, ?_⟩
  rw [decide_eq_false (by rw [List.length_map]; omega)]
  refine iteF ?_
  refine sq_or rfl (ha.mono s1) fun J wk D hD => lc_map wk (fun _ y _ => y = .bl true) hD (fun _ _ _ _ _ z => z) (by rw [List.length_map]; omega) (fun H e => ha.mono (s1.trans e)) (fun i x H1 H2 N Q1 hi sm ⟨e, hx⟩ hq => ?_) fun H2 acc sm hacc hal hf => ?_
  · obtain ⟨m, h1, rfl⟩ := at_map hx
    have h2 := hw m (List.mem_of_getElem? h1)
    subst e
    refine ⟨rfl, tyes ⟨_, rfl, _, rfl, m, some (-1000000), some 1000000, rfl, ?_⟩⟩
    have e1 : inB m (some (-1000000)) (some 1000000) = true := by
      show (decide (_ ≤ _) && decide (_ ≤ _)) = true
      rw [decide_eq_true h2.1, decide_eq_true h2.2] <;> rfl
    rw [e1]
    exact hq _ _ (Same.refl _) rfl
  obtain ⟨bs, h1, h2⟩ := all_bs (K := K) hacc hf
  refine ⟨D, bs, rfl, h1, ?_⟩
  rw [h2]
  have s2 := s1.trans sm
  refine ⟨true, rfl, iteF ?_⟩
  refine ⟨_, rfl, a, b, ns, rfl, ha.mono s2, hn, by omega, _, rfl, a, _, rfl, (ha.mono s2).or, _, _, rfl, rfl, _, rfl, ?_⟩
  rw [decide_eq_false (by rw [List.length_map]; omega)]
  refine iteF ?_
  refine ⟨_, rfl, a, b, ns, rfl, ha.mono s2, fun ns' p1 pm _ hp1 => ?_⟩
  refine ⟨p1, _, rfl, .inl ⟨.inl (.inl upd_same), fun q hq => ?_⟩⟩
  have s3 := (s2.trans (same_new (o := .lst (ns'.map V.int)) hp1)).trans (same_new (o := .tup (ns'.map V.int)) hq)
  exact hQ _ _ s3 ⟨ns', pm, q, rfl, .inl (.inl upd_same)⟩
def startOk (ps : List (Int × Int)) (c : Int) (ns : List Int) : Prop := heapsOk ps ∧ (∀ p ∈ ps, p.1 % 2 = c) ∧ leftsOk ns
def spNeedStart (K : PySem.W.Frag) : Sp := fun vs H Q _ => ∃ (a : Addr) (b : Bool) (xs : List V) (ps : List (Int × Int)) (c : Int) (a2 : Addr) (b2 : Bool) (ns : List Int), vs = [.ref a, .ref a2] ∧ SqB K b H a xs ∧ PrL K H xs ps ∧ SqB K b2 H a2 (ns.map V.int) ∧ startOk ps c ns ∧
  RetV H Q fun v H' => ∃ (t : Addr) (x y : V) (ps' : List (Int × Int)) (ns' : List Int), v = .ref t ∧ SqT K H' t [x, y] ∧ ps'.Perm ps ∧ HpV K H' x ps' ∧ ns'.Perm ns ∧ InT K H' y ns'
theorem ok_need_start (T : Txt P K mg) : Cal P w K mg base 6 "need_start" (spNeedStart K) [] := by
  have h_need_heaps := ok_need_heaps (P := P) (w := w) (base := base) T
  have h_need_lefts := ok_need_lefts (P := P) (w := w) (base := base) T
  have h_need_colour := ok_need_colour (P := P) (w := w) (base := base) T
  have h_spots_of := ok_spots_of (P := P) (w := w) (base := base) T
  refine c_need_start T (fun vs H Q E h => ?_) fun cdv A outer s H vs Q E hr h => ?_
  · obtain ⟨a, b, xs, ps, c, a2, b2, ns, rfl, _⟩ := h
    rfl
  obtain ⟨a, b, xs, ps, c, a2, b2, ns, rfl, ha, hp, hn, ⟨ho, hc, hl⟩, hQ⟩ := h
  refine ⟨_, (pss_cons (ps_par (i := 2) (j := 3) rfl sc_need_start.nd rfl rfl (by decide) rfl rfl (pa_cons (pe_c h_need_heaps hr (by decide) (by rfl) (pa_cons (pv 0) (pa_cons pe_str pa_nil))) (pa_cons (pe_c h_need_lefts hr (by decide) (by rfl) (pa_cons (pv 1) pa_nil)) pa_nil)) (by rfl))
      (pss_cons (ps_expr (pe_c h_need_colour hr (by decide) (by rfl) (pa_cons (pe_c h_spots_of hr (by decide) (by rfl) (pa_cons (pv 2) pa_nil)) pa_nil)))
      (pss_one (ps_ret (pe_tup (pa_cons (pv 2) (pa_cons (pv 3) pa_nil))))))), ?_⟩
  refine ⟨_, rfl, a, _, b, xs, ps, rfl, ha, hp, ho, fun v1 H1 s1 ⟨ps', pp, h1⟩ => ?_⟩
  refine ⟨_, rfl, a2, _, b2, ns, rfl, hn.mono s1, hl, fun v2 H2 s2 ⟨ns', pn, h2⟩ => ?_⟩
  have h1' := h1.im (Im.of s2)
  obtain ⟨t, ys, rfl, q1, q2⟩ := h1'
  refine ⟨_, _, rfl, ?_⟩
  have hl' : ps'.length = ps.length := pp.length_eq
  refine ⟨_, rfl, t, false, ys, ps', rfl, q1.sq, q2, by have := ho.1; omega, fun p H3 hp3 s3 h3 => ?_⟩
  refine ⟨p, c, _, rfl, .inl (.inl h3), by rw [List.length_map]; have := ho.1; omega, fun n hn => ?_, fun v4 H4 s4 h4 => ?_⟩
  · obtain ⟨q, hq, rfl⟩ := List.mem_map.mp hn
    exact hc q (pp.mem_iff.mp hq)
  refine ⟨_, rfl, _, rfl, by show 2 ≤ sizeLine; decide, fun q hq => ?_⟩
  have s34 := (s3.trans s4).trans (same_new (o := .tup [.ref t, v2]) hq)
  exact hQ _ _ ((s1.trans s2).trans s34) ⟨q, .ref t, v2, ps', ns', rfl, .inl (.inl upd_same), pp, ⟨t, ys, rfl, q1.mono s34, q2.im (Im.of s34)⟩, pn, h2.im (Im.of s34)⟩
end
end K86
end
section
set_option Elab.async false
set_option linter.all false
set_option maxRecDepth 100000
namespace K86
open PySem PySem.Spec PyProof.Rows L2
open C8 (Cal Met Mak pe_c pe_mk pe_mt pe_mt0)
section
variable {P : Program} {w : World} {K : PySem.W.Frag} {mg : Str → Option Value} {base : Heap}
def spLeast (K : PySem.W.Frag) : Sp := fun vs H Q _ => ∃ u d : Int, vs = [.int u, .int d] ∧ 0 < d ∧ d < 1073741824 ∧ RetV H Q fun v H' => P2 K H' v (lp u d).1 (lp u d).2
theorem ok_least_pair (T : Txt P K mg) : Cal P w K mg base 1 "least_pair" (spLeast K) [] := by
  refine c_least_pair T (fun vs H Q E h => ?_) fun cdv A outer s H vs Q E hr h => ?_
  · obtain ⟨u, d, rfl, _⟩ := h
    rfl
  obtain ⟨u, d, rfl, h0, h1, hQ⟩ := h
  refine ⟨_, (pss_cons (ps_set (i := 2) sc_least_pair.nd rfl (by first | exact Or.inl rfl | exact Or.inr rfl) (pe_ifExp (pt_cmpR op_gt (pv 1) pe_int (nomark _)) (pe_callBfun cr_gcd rfl T.gcd (pa_cons (pv 0) (pa_cons (pv 1) pa_nil))) (pe_un un_neg (pe_callBfun cr_gcd rfl T.gcd (pa_cons (pv 0) (pa_cons (pv 1) pa_nil))))))
      (pss_one (ps_ret (pe_tup (pa_cons (pe_op op_fdiv (pv 0) (pv 2)) (pa_cons (pe_op op_fdiv (pv 1) (pv 2)) pa_nil)))))), ?_⟩
  refine ⟨_, rfl, _, _, rfl, rfl, _, rfl, ?_⟩
  refine (if_pos (decide_eq_true h0)).mpr ?_
  have g0 : 0 < gcdI u d := gcdI_pos h0
  have gl : gcdI u d ≤ d := Int.le_of_dvd h0 (gcdI_dvd_r u d)
  refine ⟨_, rfl, _, rfl, u, d, rfl, ?_⟩
  refine ⟨_, rfl, _, rfl, _, _, rfl, rfl, ⟨g0, by show gcdI u d < _; omega⟩, ?_⟩
  refine ⟨_, rfl, _, rfl, _, _, rfl, rfl, ⟨g0, by show gcdI u d < _; omega⟩, ?_⟩
  refine ⟨by show 2 ≤ sizeLine; decide, fun p hp => ?_⟩
  exact hQ _ _ (same_new hp) (P2.new upd_same)
def spBoth (K : PySem.W.Frag) : Sp := fun vs H Q _ => ∃ (k : Nat) (n m : Int) (x y : V), vs = [x, y] ∧ k ≤ 12 ∧ FrV K k n x H ∧ FrV K k m y H ∧ RetV H Q (FrV K k (n + m))
theorem frac_sm {k : Nat} (hk : k ≤ 12) (n : Int) : 0 < (frac k n).2 ∧ (frac k n).2 ≤ 4096 := by
  refine ⟨frac_pos k n, Int.le_trans (frac_le k n) ?_⟩
  have h := Nat.pow_le_pow_right (n := 2) (by decide) hk
  have e : ((2 ^ k : Nat) : Int) = 2 ^ k := by simp
  omega
theorem mul_sm {a b : Int} (ha : 0 < a ∧ a ≤ 4096) (hb : 0 < b ∧ b ≤ 4096) : 0 < a * b ∧ a * b < 1073741824 := by
  refine ⟨Int.mul_pos ha.1 hb.1, ?_⟩
  have h : a * b ≤ 4096 * 4096 := Int.mul_le_mul ha.2 hb.2 (by omega) (by omega)
  omega
theorem ok_both (T : Txt P K mg) : Cal P w K mg base 2 "both" (spBoth K) [] := by
  have h_least_pair := ok_least_pair (P := P) (w := w) (base := base) T
  refine c_both T (fun vs H Q E h => ?_) fun cdv A outer s H vs Q E hr h => ?_
  · obtain ⟨k, n, m, x, y, rfl, _⟩ := h
    rfl
  obtain ⟨k, n, m, x, y, rfl, hk, ⟨a, rfl, ha⟩, ⟨b, rfl, hb⟩, hQ⟩ := h
  refine ⟨_, (pss_one (ps_ret (pe_c h_least_pair hr (by decide) (by rfl) (pa_cons (pe_op op_add (pe_op op_mul (pe_ix (r := rIxT K) ix_tup (pv 0) pe_int (fun _ _ => rfl)) (pe_ix (r := rIxT K) ix_tup (pv 1) pe_int (fun _ _ => rfl))) (pe_op op_mul (pe_ix (r := rIxT K) ix_tup (pv 1) pe_int (fun _ _ => rfl)) (pe_ix (r := rIxT K) ix_tup (pv 0) pe_int (fun _ _ => rfl)))) (pa_cons (pe_op op_mul (pe_ix (r := rIxT K) ix_tup (pv 0) pe_int (fun _ _ => rfl)) (pe_ix (r := rIxT K) ix_tup (pv 1) pe_int (fun _ _ => rfl))) pa_nil))))), ?_⟩
  have sa := frac_sm hk n
  have sb := frac_sm hk m
  refine ⟨_, rfl, _, _, _, _, rfl, rfl, ha, rfl, _, rfl, _, _, _, _, rfl, rfl, hb, rfl, _, _, rfl, rfl, .inr ⟨by omega, by omega⟩, ?_⟩
  refine ⟨_, rfl, _, _, _, _, rfl, rfl, hb, rfl, _, rfl, _, _, _, _, rfl, rfl, ha, rfl, _, _, rfl, rfl, .inr ⟨by omega, by omega⟩, ?_⟩
  refine ⟨_, _, rfl, rfl, ?_⟩
  refine ⟨_, rfl, _, _, _, _, rfl, rfl, ha, rfl, _, rfl, _, _, _, _, rfl, rfl, hb, rfl, _, _, rfl, rfl, .inr ⟨by omega, by omega⟩, ?_⟩
  refine ⟨_, _, rfl, (mul_sm sa sb).1, (mul_sm sa sb).2, fun v H' e h => hQ v H' e ?_⟩
  rw [frac_add] at h
  exact h
def spTimes (K : PySem.W.Frag) : Sp := fun vs H Q _ => ∃ (k : Nat) (n m : Int) (x y : V), vs = [x, y] ∧ k ≤ 12 ∧ -1000000 ≤ n ∧ n ≤ 1000000 ∧ FrV K 0 n x H ∧ FrV K k m y H ∧ RetV H Q (FrV K k (n * m))
theorem frac_times (k : Nat) (n m : Int) : lp ((frac 0 n).1 * (frac k m).1) ((frac 0 n).2 * (frac k m).2) = frac k (n * m) := by
  have h := times_lp (u := n) (d := 2 ^ 0) (u' := m) (two_pos 0) (two_pos k)
  refine h.trans ?_
  show lp (n * m) (1 * 2 ^ k) = lp (n * m) (2 ^ k)
  rw [Int.one_mul]
theorem ok_times (T : Txt P K mg) : Cal P w K mg base 2 "times" (spTimes K) [] := by
  have h_least_pair := ok_least_pair (P := P) (w := w) (base := base) T
  refine c_times T (fun vs H Q E h => ?_) fun cdv A outer s H vs Q E hr h => ?_
  · obtain ⟨k, n, m, x, y, rfl, _⟩ := h
    rfl
  obtain ⟨k, n, m, x, y, rfl, hk, n0, n1, ⟨a, rfl, ha⟩, ⟨b, rfl, hb⟩, hQ⟩ := h
  refine ⟨_, (pss_one (ps_ret (pe_c h_least_pair hr (by decide) (by rfl) (pa_cons (pe_op op_mul (pe_ix (r := rIxT K) ix_tup (pv 0) pe_int (fun _ _ => rfl)) (pe_ix (r := rIxT K) ix_tup (pv 1) pe_int (fun _ _ => rfl))) (pa_cons (pe_op op_mul (pe_ix (r := rIxT K) ix_tup (pv 0) pe_int (fun _ _ => rfl)) (pe_ix (r := rIxT K) ix_tup (pv 1) pe_int (fun _ _ => rfl))) pa_nil))))), ?_⟩
  have sa := frac_sm (k := 0) (by decide) n
  have sb := frac_sm hk m
  have e0 : (frac 0 n).1 = n := by rw [frac_zero]
  refine ⟨_, rfl, _, _, _, _, rfl, rfl, ha, rfl, _, rfl, _, _, _, _, rfl, rfl, hb, rfl, _, _, rfl, rfl, .inl ⟨by rw [e0]; omega, by rw [e0]; omega⟩, ?_⟩
  refine ⟨_, rfl, _, _, _, _, rfl, rfl, ha, rfl, _, rfl, _, _, _, _, rfl, rfl, hb, rfl, _, _, rfl, rfl, .inl ⟨by omega, by omega⟩, ?_⟩
  refine ⟨_, _, rfl, (mul_sm sa sb).1, (mul_sm sa sb).2, fun v H' e h => hQ v H' e ?_⟩
  rw [frac_times] at h
  exact h
def spTurned (K : PySem.W.Frag) : Sp := fun vs H Q _ => ∃ (k : Nat) (n : Int) (x : V), vs = [x] ∧ FrV K k n x H ∧ RetV H Q (FrV K k (-n))
theorem ok_turned (T : Txt P K mg) : Cal P w K mg base 1 "turned" (spTurned K) [] := by
  refine c_turned T (fun vs H Q E h => ?_) fun cdv A outer s H vs Q E hr h => ?_
  · obtain ⟨k, n, x, rfl, _⟩ := h
    rfl
  obtain ⟨k, n, x, rfl, ⟨a, rfl, ha⟩, hQ⟩ := h
  refine ⟨_, (pss_one (ps_ret (pe_tup (pa_cons (pe_un un_neg (pe_ix (r := rIxT K) ix_tup (pv 0) pe_int (fun _ _ => rfl))) (pa_cons (pe_ix (r := rIxT K) ix_tup (pv 0) pe_int (fun _ _ => rfl)) pa_nil))))), ?_⟩
  refine ⟨_, rfl, _, _, _, _, rfl, rfl, ha, rfl, _, rfl, _, rfl, _, _, _, _, rfl, rfl, ha, rfl, ?_⟩
  refine ⟨by show 2 ≤ sizeLine; decide, fun p hp => hQ _ _ (same_new hp) ?_⟩
  unfold FrV
  rw [frac_neg]
  exact P2.new upd_same
def spIsLess (K : PySem.W.Frag) : Sp := fun vs H Q _ => ∃ (k : Nat) (n m : Int) (x y : V), vs = [x, y] ∧ k ≤ 12 ∧ FrV K k n x H ∧ FrV K k m y H ∧ Q (.bl (decide (n < m))) H
theorem ok_is_less (T : Txt P K mg) : Cal P w K mg base 1 "is_less" (spIsLess K) [] := by
  refine c_is_less T (fun vs H Q E h => ?_) fun cdv A outer s H vs Q E hr h => ?_
  · obtain ⟨k, n, m, x, y, rfl, _⟩ := h
    rfl
  obtain ⟨k, n, m, x, y, rfl, hk, ⟨a, rfl, ha⟩, ⟨b, rfl, hb⟩, hQ⟩ := h
  refine ⟨_, (pss_one (ps_ret (pe_cmpR op_lt (pe_op op_mul (pe_ix (r := rIxT K) ix_tup (pv 0) pe_int (fun _ _ => rfl)) (pe_ix (r := rIxT K) ix_tup (pv 1) pe_int (fun _ _ => rfl))) (pe_op op_mul (pe_ix (r := rIxT K) ix_tup (pv 1) pe_int (fun _ _ => rfl)) (pe_ix (r := rIxT K) ix_tup (pv 0) pe_int (fun _ _ => rfl))) (nomark _)))), ?_⟩
  have sa := frac_sm hk n
  have sb := frac_sm hk m
  refine ⟨_, rfl, _, _, _, _, rfl, rfl, ha, rfl, _, rfl, _, _, _, _, rfl, rfl, hb, rfl, _, _, rfl, rfl, .inr ⟨by omega, by omega⟩, ?_⟩
  refine ⟨_, rfl, _, _, _, _, rfl, rfl, hb, rfl, _, rfl, _, _, _, _, rfl, rfl, ha, rfl, _, _, rfl, rfl, .inr ⟨by omega, by omega⟩, ?_⟩
  refine ⟨_, _, rfl, rfl, ?_⟩
  have e := frac_lt k n m
  show Q (.bl (decide ((frac k n).1 * (frac k m).2 < (frac k m).1 * (frac k n).2))) _
  rw [decide_eq_decide.mpr e]
  exact hQ
/-- a list of fractions -/
def FrL (K : PySem.W.Frag) (k : Nat) (ns : List Int) (xs : List V) (H : Hp) : Prop := xs.length = ns.length ∧ ∀ (i : Nat) v n, xs[i]? = some v → ns[i]? = some n → FrV K k n v H
def spTotal (K : PySem.W.Frag) : Sp := fun vs H Q _ => ∃ (k : Nat) (a : Addr) (xs : List V) (ns : List Int), vs = [.ref a] ∧ k ≤ 12 ∧ SqL K H a xs ∧ FrL K k ns xs H ∧ RetV H Q (FrV K k ns.sum)
theorem ok_total_of (T : Txt P K mg) : Cal P w K mg base 3 "total_of" (spTotal K) [] := by
  have h_both := ok_both (P := P) (w := w) (base := base) T
  refine c_total_of T (fun vs H Q E h => ?_) fun cdv A outer s H vs Q E hr h => ?_
  · obtain ⟨k, a, xs, ns, rfl, _⟩ := h
    rfl
  obtain ⟨k, a, xs, ns, rfl, hk, ha, ⟨hl, hx⟩, hQ⟩ := h
  refine ⟨_, (pss_cons (ps_set (i := 1) sc_total_of.nd rfl (by first | exact Or.inl rfl | exact Or.inr rfl) (pe_gr rfl (g_NOUGHT T)))
      (pss_cons (ps_for PassesOwn.never rfl (pi_list (pv 0)) (pg_name (i := 2) sc_total_of.nd rfl (by first | exact Or.inl rfl | exact Or.inr rfl))
      (pss_one (ps_set (i := 1) sc_total_of.nd rfl (by first | exact Or.inl rfl | exact Or.inr rfl) (pe_c h_both hr (by decide) (by rfl) (pa_cons (pv 1) (pa_cons (pv 2) pa_nil))))))
      (pss_one (ps_ret (pv 1))))), ?_⟩
  refine ⟨_, rfl, _, rfl, ⟨_, ha⟩, for_it (walk_list (K := K) (a := a) (xs := xs)) (fun i σ H' => ∃ (t : V) (e : Option V), σ = [some (.ref a), some t, e] ∧ Same H H' ∧ FrV K k (ns.take i).sum t H')
    ⟨_, none, rfl, Same.refl H, ?_⟩ (fun i σ H' _ ⟨_, _, _, e, _⟩ => e.seq ha) ?_ ?_⟩
  · show FrV K k 0 _ H
    unfold FrV
    rw [frac_nought]
    exact ⟨_, rfl, T.nought H⟩
  · rintro i x σ H1 H2 hi ⟨t, e, rfl, sm, ht⟩ ⟨rfl, hxi⟩
    have hn : i < ns.length := by omega
    have hx1 := hx i x ns[i] hxi (List.getElem?_eq_getElem hn)
    refine ⟨_, rfl, _, rfl, k, _, _, _, _, rfl, hk, ht, hx1.mono sm, fun v H3 sm3 h3 => ?_⟩
    refine ⟨v, some x, rfl, sm.trans sm3, ?_⟩
    rw [List.take_add_one, List.getElem?_eq_getElem hn]
    simp only [Option.toList_some, List.sum_append, List.sum_cons, List.sum_nil, Int.add_zero]
    exact h3
  · rintro σ H1 ⟨t, e, rfl, sm, ht⟩
    rw [hl, List.take_length] at ht
    exact ⟨_, rfl, hQ _ _ sm ht⟩
end
end K86
end
section
set_option Elab.async false
set_option linter.all false
set_option maxRecDepth 100000
namespace K86
open PySem PySem.Spec PyProof.Rows L2
open C8 (Cal Met Mak pe_c pe_mk pe_mt pe_mt0)
section
variable {P : Program} {w : World} {K : PySem.W.Frag} {mg : Str → Option Value} {base : Heap}
theorem inB_of {i l h : Int} (h1 : l ≤ i) (h2 : i ≤ h) : inB i (some l) (some h) = true := by
  show (decide (_ ≤ _) && decide (_ ≤ _)) = true
  rw [decide_eq_true h1, decide_eq_true h2] <;> rfl
def weightOk (n : Int) : Prop := -1000000 ≤ n ∧ n ≤ 1000000 ∧ n ≠ 0
def spIsWeight : Sp := fun vs H Q _ => ∃ n : Int, vs = [.int n] ∧ weightOk n ∧ Q (.bl true) H
theorem ok_is_weight (T : Txt P K mg) : Cal P w K mg base 3 "is_weight" spIsWeight [] := by
  have h_is_within := ok_is_within (P := P) (w := w) (base := base) T
  refine c_is_weight T (fun vs H Q E h => ?_) fun cdv A outer s H vs Q E hr h => ?_
  · obtain ⟨n, rfl, _⟩ := h
    rfl
  obtain ⟨n, rfl, ⟨h1, h2, h3⟩, hQ⟩ := h
  refine ⟨_, (pss_one (ps_ret (pe_and (pe_c h_is_within hr (by decide) (by rfl) (pa_cons (pv 0) (pa_cons (pe_un un_neg (pe_gi rfl (i_MOST_WEIGHT T))) (pa_cons (pe_gi rfl (i_MOST_WEIGHT T)) pa_nil)))) (pe_one (pe_cmpR op_ne (pv 0) pe_int (nomark _)))))), ?_⟩
  refine ⟨_, rfl, _, rfl, n, some (-1000000), some 1000000, rfl, ?_⟩
  rw [inB_of h1 h2]
  refine ⟨true, rfl, iteT ⟨_, rfl, rfl, ?_⟩⟩
  have e : decide (V.int n = V.int 0) = false := decide_eq_false fun z => h3 (V.int.inj z)
  show Q (.bl (!decide (V.int n = V.int 0))) _
  rw [e]
  exact hQ
def rowOk (r : Int × Int × Int) : Prop := -1000000 ≤ r.1 ∧ r.1 ≤ 1000000 ∧ 0 ≤ r.2.1 ∧ r.2.1 ≤ 60 ∧ weightOk r.2.2
def spIsRow (K : PySem.W.Frag) : Sp := fun vs H Q _ => ∃ (v : V) (r : Int × Int × Int), vs = [v] ∧ P3 K H v r ∧ rowOk r ∧ RetV H Q fun v _ => v = .bl true
theorem ok_is_row (T : Txt P K mg) : Cal P w K mg base 4 "is_row" (spIsRow K) [] := by
  have h_is_within := ok_is_within (P := P) (w := w) (base := base) T
  have h_is_weight := ok_is_weight (P := P) (w := w) (base := base) T
  have h_are_integers := ok_are_integers (P := P) (w := w) (base := base) T
  refine c_is_row T (fun vs H Q E h => ?_) fun cdv A outer s H vs Q E hr h => ?_
  · obtain ⟨v, r, rfl, _⟩ := h
    rfl
  obtain ⟨v, r, rfl, ⟨a, rfl, ha⟩, ⟨h1, h2, h3, h4, h5⟩, hQ⟩ := h
  refine ⟨_, (pss_cons (ps_if (PW.pt (pw_or (pt_not (pt_val (pe_c h_are_integers hr (by decide) (by rfl) (pa_cons (pv 0) (pa_cons pe_int pa_nil))))) (pw_or1 (pt_not (pt_val (pe_c h_is_within hr (by decide) (by rfl) (pa_cons (pe_ix (r := rIxT K) ix_tup (pv 0) pe_int (fun _ _ => rfl)) (pa_cons (pe_un un_neg (pe_gi rfl (i_FARTHEST T))) (pa_cons (pe_gi rfl (i_FARTHEST T)) pa_nil))))))))) (pss_one (ps_ret pe_bl)) pss_nil)
      (pss_one (ps_ret (pe_and (pe_c h_is_within hr (by decide) (by rfl) (pa_cons (pe_ix (r := rIxT K) ix_tup (pv 0) pe_int (fun _ _ => rfl)) (pa_cons pe_int (pa_cons (pe_gi rfl (i_MOST_TICK T)) pa_nil)))) (pe_one (pe_c h_is_weight hr (by decide) (by rfl) (pa_cons (pe_ix (r := rIxT K) ix_tup (pv 0) pe_int (fun _ _ => rfl)) pa_nil))))))), ?_⟩
  refine ⟨_, rfl, a, false, [r.1, r.2.1, r.2.2], rfl, ha, by show 3 ≤ 1000; decide, fun v H1 s1 hv => ?_⟩
  subst hv
  have ha1 := Same.sqt s1 ha
  refine ⟨true, rfl, iteF ?_⟩
  refine ⟨_, rfl, _, _, _, _, rfl, rfl, ha1, rfl, _, rfl, r.1, some (-1000000), some 1000000, rfl, ?_⟩
  rw [inB_of h1 h2]
  refine ⟨true, rfl, iteF ?_⟩
  refine ⟨_, rfl, _, _, _, _, rfl, rfl, ha1, rfl, r.2.1, some 0, some 60, rfl, ?_⟩
  rw [inB_of h3 h4]
  refine ⟨true, rfl, iteT ?_⟩
  exact ⟨_, rfl, _, _, _, _, rfl, rfl, ha1, rfl, r.2.2, rfl, h5, hQ _ _ s1 rfl⟩
/-- a look's rows, as they are handed in -/
def rowsOk (rs : List (Int × Int × Int)) : Prop := 1 ≤ rs.length ∧ rs.length ≤ 40 ∧ (∀ r ∈ rs, rowOk r) ∧ (rs.map fun r => (r.1, r.2.1)).Nodup
def spAreRows (K : PySem.W.Frag) : Sp := fun vs H Q _ => ∃ (a : Addr) (b : Bool) (xs : List V) (rs : List (Int × Int × Int)), vs = [.ref a] ∧ SqB K b H a xs ∧ RwL K H xs rs ∧ rowsOk rs ∧ RetV H Q fun v _ => v = .bl true
theorem ok_are_rows (T : Txt P K mg) : Cal P w K mg base 5 "are_rows" (spAreRows K) [] := by
  have h_is_row := ok_is_row (P := P) (w := w) (base := base) T
  refine c_are_rows T (fun vs H Q E h => ?_) fun cdv A outer s H vs Q E hr h => ?_
  · obtain ⟨a, b, xs, rs, rfl, _⟩ := h
    rfl
  obtain ⟨a, b, xs, rs, rfl, ha, hp, ⟨hl0, hl, hh, hn⟩, hQ⟩ := h
  have hxl : xs.length = rs.length := Paired.length hp
  refine ⟨_, (pss_cons (ps_if (PW.pt (pw_or (pt_not (pt_val (pe_callB call_isiT (by rfl) (z_isinstance T) (by decide +kernel) (pa_cons (pv 0) (pa_cons (pe_tup (pa_cons (pe_bltn (v := .ty "list") (by rfl) (z_list T) (by decide +kernel) rfl) (pa_cons (pe_bltn (v := .ty "tuple") (by rfl) (z_tuple T) (by decide +kernel) rfl) pa_nil))) pa_nil))))) (pw_or1 (pt_not (pt_chain op_le op_le pe_int (pe_callB call_len_seq (by rfl) (z_len T) (by decide +kernel) (pa_cons (pv 0) pa_nil)) (pe_gi rfl (i_MOST_ROWS T))))))) (pss_one (ps_ret pe_bl)) pss_nil)
      (pss_cons (ps_if (pt_not (pt_val (pe_callB (cr_all rfl) (by rfl) (z_all T) (by decide +kernel) (pa_cons (pe_lc (own := [("each", 1)]) (g := (gName 1)) (tt := tYes) rfl sc_are_rows.nd (pi_or (pi_list (pv 0)) (pi_tup (pv 0))) (blkOk_by (own := [("each", 1)]) (N := n_are_rows) (sc := defScope s_are_rows) (by decide +kernel)) (fun _ _ _ _ _ => (pg_name (i := 1) sc_are_rows.nd rfl (by first | exact Or.inl rfl | exact Or.inr rfl))) (fun _ _ _ _ _ => pts_nil) (fun _ _ _ _ _ => (pe_c h_is_row hr (by decide) (by rfl) (pa_cons (pv 1) pa_nil)))) pa_nil)))) (pss_one (ps_ret pe_bl)) pss_nil)
      (pss_one (ps_ret (pe_cmpR op_eq (pe_callB call_len_dT (by rfl) (z_len T) (by decide +kernel) (pa_cons (pe_dcT (own := [("spot", 2), ("tick", 3), ("_", 4)]) (g := (gTup K 3 (gCons (gName 2) (gCons (gName 3) (gCons (gName 4) gNil))))) (tt := tYes) hr.units rfl sc_are_rows.nd (pi_or (pi_list (pv 0)) (pi_tup (pv 0))) (blkOk_by (own := [("spot", 2), ("tick", 3), ("_", 4)]) (N := n_are_rows) (sc := defScope s_are_rows) (by decide +kernel)) (fun _ _ _ _ _ => (pg_tup rfl (pgs_cons (pg_name (i := 2) sc_are_rows.nd rfl (by first | exact Or.inl rfl | exact Or.inr rfl)) (pgs_cons (pg_name (i := 3) sc_are_rows.nd rfl (by first | exact Or.inl rfl | exact Or.inr rfl)) (pgs_cons (pg_name (i := 4) sc_are_rows.nd rfl (by first | exact Or.inl rfl | exact Or.inr rfl)) pgs_nil))))) (fun _ _ _ _ _ => pts_nil) (fun _ _ _ _ _ => (pe_tup (pa_cons (pv 2) (pa_cons (pv 3) pa_nil)))) (fun _ _ _ _ _ => pe_bl)) pa_nil)) (pe_callB call_len_seq (by rfl) (z_len T) (by decide +kernel) (pa_cons (pv 0) pa_nil)) (nomark _)))))), ?_⟩
  refine ⟨_, rfl, by show 2 ≤ sizeLine; decide, fun p hp0 => ?_⟩
  have s1 : Same H (upd H p (.tup [.ty "list", .ty "tuple"])) := same_new hp0
  obtain ⟨t, ht, hk⟩ := kit_lt (ha.mono s1)
  refine ⟨_, p, _, t, _, true, rfl, upd_same, cls_lt, ht, hk, true, rfl, iteF ?_⟩
  refine ⟨_, rfl, a, _, rfl, (ha.mono s1).or, _, _, rfl, rfl, _, rfl, ?_⟩
  rw [decide_eq_true (show (1 : Int) ≤ ((xs.length : Nat) : Int) by omega)]
  refine iteT ⟨_, _, rfl, rfl, _, rfl, ?_⟩
  rw [decide_eq_true (show ((xs.length : Nat) : Int) ≤ 40 by omega)]
  refine iteF ?_
  refine sq_or rfl (ha.mono s1) fun J wk D hD => lc_map wk (fun _ y _ => y = .bl true) hD (fun _ _ _ _ _ z => z) (by omega) (fun H e => ha.mono (s1.trans e)) (fun i x H1 H2 N Q1 hi sm ⟨e, hx⟩ hq => ?_) fun H2 acc sm hacc hal hf => ?_
  · obtain ⟨q, h1, h2⟩ := paired_at hp hx
    subst e
    exact ⟨rfl, tyes ⟨_, rfl, x, q, rfl, h2.im (Im.of (s1.trans sm)), hh q (List.mem_of_getElem? h1), fun v H4 s4 hv => hq _ _ s4 hv⟩⟩
  obtain ⟨bs, h1, h2⟩ := all_bs (K := K) hacc hf
  refine ⟨D, bs, rfl, h1, ?_⟩
  rw [h2]
  have s2 := s1.trans sm
  refine ⟨true, rfl, iteF ?_⟩
  refine sq_or rfl (ha.mono s2) fun J wk D2 hD2 => dcT_it wk (fun i H' => Same H2 H' ∧ ∃ kvs, H' D2 = some (.dT kvs) ∧ kvs.length = i ∧ kvs.map (·.1) = (rs.take i).map fun r => [Sum.inl r.1, Sum.inl r.2.1])
    ⟨same_new hD2, [], upd_same, rfl, rfl⟩ (fun i H' _ h => ha.mono (s2.trans h.1)) (fun i x H3 H4 hi h hy => ?_) fun H3 h => ?_
  · obtain ⟨sm3, kvs, hk1, hk2, hk3⟩ := h
    obtain ⟨rfl, hx⟩ := hy
    obtain ⟨q, e1, a2, rfl, e2⟩ := paired_at hp hx
    refine ⟨_, _, rfl, Same.sqt (s2.trans sm3) e2, rfl, _, _, rfl, _, _, rfl, _, _, rfl, rfl, rfl, tyes ?_⟩
    refine ⟨_, rfl, _, rfl, by show 2 ≤ sizeLine; decide, fun p4 hp4 => ?_⟩
    have nk : [Sum.inl q.1, Sum.inl q.2.1] ∉ kvs.map (·.1) := by
      rw [hk3]
      intro hm
      obtain ⟨r, hr, er⟩ := List.mem_map.mp hm
      have n2 := nodup_next (f := fun r : Int × Int × Int => (r.1, r.2.1)) hn e1
      refine n2 (List.mem_map.mpr ⟨r, hr, ?_⟩)
      injection er with er1 er2
      injection er2 with er3 _
      exact Prod.ext (Sum.inl.inj er1) (Sum.inl.inj er3)
    have nd : D2 ≠ p4 := ne_of_none hk1 hp4
    refine ⟨_, DPut.t (k := [Sum.inl q.1, Sum.inl q.2.1]) (kvs := kvs) (by rw [upd_ne nd]; exact hk1) upd_same (by rw [hk2]; exact small1000 (by omega)), same_mut (sm3.trans (same_new hp4)) hD2, _, upd_same, ?_, ?_⟩
    · rw [putK_new _ (valV_no nk), List.length_append, hk2]
      rfl
    · rw [putK_new _ (valV_no nk), List.map_append, hk3, take_succ_at e1, List.map_append]
      rfl
  · obtain ⟨sm3, kvs, hk1, hk2, hk3⟩ := h
    refine ⟨D2, kvs, rfl, hk1, _, rfl, a, _, rfl, (ha.mono (s2.trans sm3)).or, rfl, ?_⟩
    exact Qdec (by rw [hk2]) (hQ _ _ (s2.trans sm3) rfl)
theorem ok_place_of (T : Txt P K mg) : Cal P w K mg base 1 "place_of" (spPlace K) [] := by
  refine c_place_of T (fun vs H Q E h => ?_) fun cdv A outer s H vs Q E hr h => ?_
  · obtain ⟨v, r, rfl, _⟩ := h
    rfl
  obtain ⟨v, r, rfl, ⟨a, rfl, ha⟩, hQ⟩ := h
  refine ⟨_, (pss_one (ps_ret (pe_tup (pa_cons (pe_ix (r := rIxT K) ix_tup (pv 0) pe_int (fun _ _ => rfl)) (pa_cons (pe_ix (r := rIxT K) ix_tup (pv 0) pe_int (fun _ _ => rfl)) pa_nil))))), ?_⟩
  exact ⟨_, rfl, _, _, _, _, rfl, rfl, ha, rfl, _, rfl, _, _, _, _, rfl, rfl, ha, rfl, by show 2 ≤ sizeLine; decide, fun p hp => hQ p _ hp (same_new hp) upd_same⟩
def spColourAt (K : PySem.W.Frag) : Sp := fun vs H Q _ => ∃ (v : V) (r : Int × Int × Int), vs = [v] ∧ P3 K H v r ∧ Q (.int ((r.1 + r.2.1) % 2)) H
theorem ok_colour_at (T : Txt P K mg) : Cal P w K mg base 1 "colour_at" (spColourAt K) [] := by
  refine c_colour_at T (fun vs H Q E h => ?_) fun cdv A outer s H vs Q E hr h => ?_
  · obtain ⟨v, r, rfl, _⟩ := h
    rfl
  obtain ⟨v, r, rfl, ⟨a, rfl, ha⟩, hQ⟩ := h
  refine ⟨_, (pss_one (ps_ret (pe_op op_mod (pe_op op_add (pe_ix (r := rIxT K) ix_tup (pv 0) pe_int (fun _ _ => rfl)) (pe_ix (r := rIxT K) ix_tup (pv 0) pe_int (fun _ _ => rfl))) pe_int))), ?_⟩
  exact ⟨_, rfl, _, _, _, _, rfl, rfl, ha, rfl, _, rfl, _, _, _, _, rfl, rfl, ha, rfl, _, _, rfl, rfl, _, _, rfl, rfl, (by show (0 : Int) < 2; decide), hQ⟩
/-- a look, its rows by tick and spot -/
def IsLook (K : PySem.W.Frag) (H : Hp) (v : V) (rs : List (Int × Int × Int)) (last c : Int) : Prop := ∃ (p dx : Addr) (fs : List (Str × V)) (t : Addr) (ts : List V), v = .ref p ∧ H p = some (.ins (He.ga K "Look") dx fs) ∧
  Fld fs "rows" (.ref t) ∧ Fld fs "last" (.int last) ∧ Fld fs "colour" (.int c) ∧ SqT K H t ts ∧ RwL K H ts rs
theorem IsLook.mono {H H' : Hp} {v : V} {rs : List (Int × Int × Int)} {last c : Int} (e : Same H H') (h : IsLook K H v rs last c) : IsLook K H' v rs last c := by
  obtain ⟨p, dx, fs, t, ts, rfl, h1, h2, h3, h4, h5, h6⟩ := h
  exact ⟨p, dx, fs, t, ts, rfl, e _ _ h1, h2, h3, h4, Same.sqt e h5, h6.im (Im.of e)⟩
theorem n_rl : ¬ (("rows" : Str) = "last") := by decide +kernel
theorem n_rc : ¬ (("rows" : Str) = "colour") := by decide +kernel
theorem n_lc : ¬ (("last" : Str) = "colour") := by decide +kernel
def spLookInit (K : PySem.W.Frag) : Sp := fun vs H Q _ => ∃ (x dx a : Addr) (b : Bool) (xs : List V) (rs : List (Int × Int × Int)) (c : Int), vs = [.ref x, .ref a] ∧ H x = some (.ins (He.ga K "Look") dx []) ∧ SqB K b H a xs ∧ RwL K H xs rs ∧ rowsOk rs ∧ (∀ r ∈ rs, (r.1 + r.2.1) % 2 = c) ∧
  ∀ (H' : Hp) (rs' : List (Int × Int × Int)) (last : Int), (∀ b o, b ≠ x → H b = some o → H' b = some o) → rs'.Perm rs → rs'.Pairwise rwLe → (rs'.map (·.2.1)).getLast? = some last → IsLook K H' (.ref x) rs' last c → Q .non H'
theorem ok_Look_init (T : Txt P K mg) : Mak P w K mg base 6 "Look" (He.ga K "Look") (spLookInit K) [] := by
  have h_are_rows := ok_are_rows (P := P) (w := w) (base := base) T
  have h_place_of := ok_place_of (P := P) (w := w) (base := base) T
  have h_colour_at := ok_colour_at (P := P) (w := w) (base := base) T
  refine c_Look_init T (fun vs H Q E h => ?_) fun cdv A outer s H vs Q E hr h => ?_
  · obtain ⟨x, dx, a, b, xs, rs, c, rfl, _⟩ := h
    rfl
  obtain ⟨x, dx, a, b, xs, rs, c, rfl, hx0, ha, hp, ho, hc, hQ⟩ := h
  have hxl : xs.length = rs.length := Paired.length hp
  refine ⟨_, (pss_cons (ps_if (pt_not (pt_val (pe_c h_are_rows hr (by decide) (by rfl) (pa_cons (pv 1) pa_nil)))) (pss_one ps_never) pss_nil)
      (pss_cons (ps_set (i := 2) sc_Look_init.nd rfl (by first | exact Or.inl rfl | exact Or.inr rfl) (pe_callBK (ck_sortedRw h_place_of (g_place_of T) hr) (by rfl) (z_sorted T) (by decide +kernel) (pa_cons (pe_lc (own := [("spot", 3), ("tick", 4), ("weight", 5)]) (g := (gTup K 3 (gCons (gName 3) (gCons (gName 4) (gCons (gName 5) gNil))))) (tt := tYes) rfl sc_Look_init.nd (pi_or (pi_list (pv 1)) (pi_tup (pv 1))) (blkOk_by (own := [("spot", 3), ("tick", 4), ("weight", 5)]) (N := n_Look_init) (sc := defScope s_Look_init) (by decide +kernel)) (fun _ _ _ _ _ => (pg_tup rfl (pgs_cons (pg_name (i := 3) sc_Look_init.nd rfl (by first | exact Or.inl rfl | exact Or.inr rfl)) (pgs_cons (pg_name (i := 4) sc_Look_init.nd rfl (by first | exact Or.inl rfl | exact Or.inr rfl)) (pgs_cons (pg_name (i := 5) sc_Look_init.nd rfl (by first | exact Or.inl rfl | exact Or.inr rfl)) pgs_nil))))) (fun _ _ _ _ _ => pts_nil) (fun _ _ _ _ _ => (pe_tup (pa_cons (pv 3) (pa_cons (pv 4) (pa_cons (pv 5) pa_nil)))))) pa_nil) (pk_cons (pe_gr rfl (g_place_of T)) pk_nil)))
      (pss_cons (ps_if (pt_not (pt_val (pe_callB (cr_all rfl) (by rfl) (z_all T) (by decide +kernel) (pa_cons (pe_lc (own := [("row", 6)]) (g := (gName 6)) (tt := tYes) rfl sc_Look_init.nd (pi_list (pv 2)) (blkOk_by (own := [("row", 6)]) (N := n_Look_init) (sc := defScope s_Look_init) (by decide +kernel)) (fun _ _ _ _ _ => (pg_name (i := 6) sc_Look_init.nd rfl (by first | exact Or.inl rfl | exact Or.inr rfl))) (fun _ _ _ _ _ => pts_nil) (fun _ _ _ _ _ => (pe_cmpR op_eq (pe_c h_colour_at hr (by decide) (by rfl) (pa_cons (pv 6) pa_nil)) (pe_c h_colour_at hr (by decide) (by rfl) (pa_cons (pe_ix (r := rIxL K) ix_list (pv 2) pe_int (fun _ _ => rfl)) pa_nil)) (nomark _)))) pa_nil)))) (pss_one ps_never) pss_nil)
      (pss_cons (ps_fld (pv 0) (pe_callTy call_tuple_of (by rfl) (z_tuple T) (by decide +kernel) (pa_cons (pv 2) pa_nil)) rfl)
      (pss_cons (ps_fld (pv 0) (pe_ix (r := rIxT K) ix_tup (pe_ix (r := rIxL K) ix_list (pv 2) (pe_un un_neg pe_int) (fun _ _ => rfl)) pe_int (fun _ _ => rfl)) rfl)
      (pss_one (ps_fld (pv 0) (pe_c h_colour_at hr (by decide) (by rfl) (pa_cons (pe_ix (r := rIxL K) ix_list (pv 2) pe_int (fun _ _ => rfl)) pa_nil)) rfl))))))), ?_⟩
  refine ⟨_, rfl, a, b, xs, rs, rfl, ha, hp, ho, fun v H1 s1 hv => ?_⟩
  subst hv
  refine ⟨true, rfl, iteF ?_⟩
  refine sq_or rfl (ha.mono s1) fun J wk D hD => lc_map wk (fun i y H => ∃ r t, rs[i]? = some r ∧ y = .ref t ∧ H t = some (.tup [.int r.1, .int r.2.1, .int r.2.2])) hD (fun _ y H H' im ⟨p, t, h1, h2, h3⟩ => ⟨p, t, h1, h2, im.1 _ _ h3⟩) (by have := ho.2.1; omega) (fun H e => ha.mono (s1.trans e)) (fun i y H2 H3 N Q1 hi sm ⟨e, hy⟩ hq => ?_) fun H2 acc sm hacc hal hf => ?_
  · obtain ⟨q, e1, a2, rfl, e2⟩ := paired_at hp hy
    subst e
    exact ⟨_, _, rfl, Same.sqt (s1.trans sm) e2, rfl, _, _, rfl, _, _, rfl, _, _, rfl, rfl, rfl, tyes ⟨_, rfl, _, rfl, _, rfl, by show 3 ≤ sizeLine; decide, fun p hp => hq _ _ (same_new hp) ⟨q, p, e1, rfl, upd_same⟩⟩⟩
  have hrw : RwL K H2 acc rs := paired_of (hal.trans hxl) fun i y r e1 e2 => by
    obtain ⟨q, t, h1, rfl, h2⟩ := hf i y e1
    rw [e2] at h1
    cases h1
    exact ⟨t, rfl, .inl (.inl h2)⟩
  refine ⟨D, acc, rs, rfl, rfl, .inl (.inl hacc), hrw, by have := ho.2.1; omega, fun rs' ys p H3 pm pw hp3 s3 h3 hrw3 => ?_⟩
  have s03 := (s1.trans sm).trans s3
  have hyl : ys.length = rs.length := (Paired.length hrw3).trans pm.length_eq
  have hy0 : 0 < ys.length := by have := ho.1; omega
  -- the colours
  refine ⟨_, rfl, p, rfl, ⟨_, .inl (.inl h3)⟩, fun D4 hD4 => lc_map walk_list (fun i y _ => y = .bl true) hD4 (fun _ _ _ _ _ z => z) (by have := ho.2.1; omega) (fun H e => e.seq (.inl (.inl h3))) (fun i y H4 H5 N Q1 hi sm4 ⟨e, hy⟩ hq => ?_) fun H4 acc4 sm4 hacc4 hal4 hf4 => ?_⟩
  · obtain ⟨q, e1, e2⟩ := paired_at hrw3 hy
    obtain ⟨q0, e3, e4⟩ := paired_at hrw3 (List.getElem?_eq_getElem hy0)
    subst e
    refine ⟨rfl, tyes ⟨_, rfl, y, q, rfl, e2.im (Im.of sm4), _, rfl, _, _, _, _, rfl, rfl, sm4.seq (.inl (.inl h3)), atI_nat (j := 0) (List.getElem?_eq_getElem hy0), ys[0], q0, rfl, e4.im (Im.of sm4), rfl, ?_⟩⟩
    have f1 := hc q (pm.mem_iff.mp (List.mem_of_getElem? e1))
    have f2 := hc q0 (pm.mem_iff.mp (List.mem_of_getElem? e3))
    exact Qdec (by rw [f1, f2]) (hq _ _ (Same.refl _) rfl)
  obtain ⟨bs, b1, b2⟩ := all_bs (K := K) hacc4 hf4
  refine ⟨D4, bs, rfl, b1, ?_⟩
  rw [b2]
  refine ⟨true, rfl, iteF ?_⟩
  -- self.rows
  have s04 := s03.trans sm4
  have h4 : H4 p = some (.lst ys) := sm4 _ _ h3
  refine ⟨_, rfl, p, _, rfl, .inl ⟨.inl (.inl h4), fun t ht => ?_⟩⟩
  have s05 := s04.trans (same_new (o := .tup ys) ht)
  have hx5 := s05 _ _ hx0
  have ntx : t ≠ x := fun z => by
    rw [z, s04 _ _ hx0] at ht
    cases ht
  refine ⟨_, rfl, x, _, dx, [], rfl, hx5, cl_Look T, no_Look_rows T, by show 0 < 1000; decide, ?_⟩
  have npx : p ≠ x := ne_of h4 (s04 _ _ hx0) (by intro z; cases z)
  have npt : p ≠ t := ne_of_none h4 ht
  -- self.last
  obtain ⟨ys', y, ey⟩ : ∃ ys' y, ys = ys' ++ [y] := ⟨ys.dropLast, ys.getLast (by intro z; rw [z] at hy0; exact absurd hy0 (by decide)), (List.dropLast_concat_getLast _).symm⟩
  have hyy : ys[ys'.length]? = some y := by rw [ey]; simp
  obtain ⟨r, er, ry⟩ := paired_at hrw3 hyy
  have ry5 := (ry.im (Im.of sm4)).im (Im.of (same_new (o := .tup ys) ht))
  obtain ⟨a5, rfl, ra⟩ := ry5
  have im6 : Im (upd H4 t (.tup ys)) (upd (upd H4 t (.tup ys)) x (.ins (He.ga K "Look") dx (putF "rows" (.ref t) []))) := Im.mut (by rw [hx5]; trivial)
  refine ⟨_, rfl, _, rfl, p, ys, -1, _, rfl, rfl, .inl (.inl (by rw [upd_ne npx, upd_ne npt]; exact h4)), (by rw [ey]; exact atI_last _ _), _, _, _, _, rfl, rfl, im6.sqt ra, rfl, ?_⟩
  refine ⟨_, rfl, x, _, dx, _, rfl, upd_same, cl_Look T, no_Look_last T, Nat.lt_of_le_of_lt (len_put (Nat.zero_le 0)) (by decide), ?_⟩
  -- self.colour
  obtain ⟨q0, e3, e4⟩ := paired_at hrw3 (List.getElem?_eq_getElem hy0)
  have im7 := (im6.trans (Im.mut (D := x) (o := .ins (He.ga K "Look") dx (putF "last" (.int r.2.1) (putF "rows" (.ref t) []))) (by rw [upd_same]; trivial)))
  have e40 := (e4.im (Im.of sm4)).im ((Im.of (same_new (o := .tup ys) ht)).trans im7)
  refine ⟨_, rfl, p, ys, 0, _, rfl, rfl, .inl (.inl (by rw [upd_ne npx, upd_ne npx, upd_ne npt]; exact h4)), atI_nat (j := 0) (List.getElem?_eq_getElem hy0), ys[0], q0, rfl, e40, ?_⟩
  refine ⟨_, rfl, x, _, dx, _, rfl, upd_same, cl_Look T, no_Look_colour T, Nat.lt_of_le_of_lt (len_put (len_put (Nat.zero_le 0))) (by decide), ?_⟩
  have f2 := hc q0 (pm.mem_iff.mp (List.mem_of_getElem? e3))
  have im8 := im7.trans (Im.mut (D := x) (o := .ins (He.ga K "Look") dx (putF "colour" (.int ((q0.1 + q0.2.1) % 2)) (putF "last" (.int r.2.1) (putF "rows" (.ref t) [])))) (by rw [upd_same]; trivial))
  refine hQ _ rs' r.2.1 (fun b o hb e => ?_) pm pw ?_ ⟨x, dx, _, t, ys, rfl, upd_same, Fld.put n_rc (Fld.put n_rl Fld.same), Fld.put n_lc Fld.same, by rw [← f2]; exact Fld.same, im8.sqt (.inl (.inl upd_same)), (hrw3.im (Im.of sm4)).im ((Im.of (same_new ht)).trans im8)⟩
  · rw [upd_ne hb, upd_ne hb, upd_ne hb]
    exact s05 _ _ e
  · have hl : rs'.length = ys'.length + 1 := by
      rw [← Paired.length hrw3, ey, List.length_append]
      rfl
    rw [List.getLast?_eq_getElem?, List.length_map, hl, Nat.add_sub_cancel, List.getElem?_map, er]
    rfl
theorem cal_look (T : Txt P K mg) {k : Nat} {sp : Sp} (len : ∀ vs H Q E, sp vs H Q E → vs.length = 2)
    (hbody : ∀ (cdv : Value) (A : Around) (outer : List Env) (s : Shared) (H : Hp) (vs : List V) (Q : VK) (E : XK), Room k (A.deeper (envOfC "need_look" (defScope s_need_look) s.heap.objs.size (He.ga K "need_look") cdv)) → sp vs H Q E →
      ∃ t, PSs (cxOf L2.CX0 P w K mg base n_need_look "need_look" (defScope s_need_look) (He.ga K "need_look") cdv A outer s H E).nox (defBody s_need_look) t ∧ t { nx := fun _ H' => Q .non H', rt := Q } (start n_need_look vs) H) : Cal P w K mg base (k + 1) "need_look" sp [.str "look"] := by
  obtain ⟨fd, F⟩ := T.says.def_ 19 (d := d_need_look) rfl
  obtain ⟨ds, hd, hb⟩ := F.binds1 (ps := p_need_look) 1 0 (List.cons_ne_nil _ _) rfl fun T' kV doc pm an cdv ct us its hu hi => match us, its, hu, hi with
    | [u], [v], _, _ => ⟨_, rfl, rfl⟩
  refine ⟨He.ga K "need_look", fd, p_need_look, ds, ?_, g_need_look T, F.kp, hb, hd⟩
  refine F.ok sc_need_look len fun cdv A outer s H vs Q E hr hsp => ?_
  obtain ⟨t, h, q⟩ := hbody cdv A outer s H vs Q E hr hsp
  exact ⟨t, h.nox, q⟩
def spNeedLook (K : PySem.W.Frag) : Sp := fun vs H Q _ => ∃ (p dx : Addr) (fs : List (Str × V)) (z : Str), vs = [.ref p, .str z] ∧ H p = some (.ins (He.ga K "Look") dx fs) ∧ Q .non H
theorem ok_need_look (T : Txt P K mg) : Cal P w K mg base 1 "need_look" (spNeedLook K) [.str "look"] := by
  refine cal_look T (fun vs H Q E h => ?_) fun cdv A outer s H vs Q E hr h => ?_
  · obtain ⟨p, dx, fs, z, rfl, _⟩ := h
    rfl
  obtain ⟨p, dx, fs, z, rfl, hp, hQ⟩ := h
  refine ⟨_, (pss_one (ps_if (pt_not (pt_val (pe_callB (C8.call_isC T.insL) (by rfl) (z_isinstance T) (by decide +kernel) (pa_cons (pv 0) (pa_cons (pe_gr rfl (g_Look T)) pa_nil))))) (pss_one ps_never) pss_nil)), ?_⟩
  exact ⟨_, rfl, p, dx, fs, rfl, hp, true, rfl, iteF hQ⟩
end
end K86
end
section
set_option Elab.async false
set_option linter.all false
set_option maxRecDepth 100000
namespace K86
open PySem PySem.Spec PyProof.Rows L2
open C8 (Cal Met Mak pe_c pe_mk pe_mt pe_mt0)
section
variable {P : Program} {w : World} {K : PySem.W.Frag} {mg : Str → Option Value} {base : Heap}
def natV (i : Nat) : V := .int (i : Nat)
/-- a sum and its picks -/
def SumV (K : PySem.W.Frag) (k : Nat) (a : Sm) (v : V) (H : Hp) : Prop := ∃ (t g : Addr) (f : V), v = .ref t ∧ SqT K H t [f, .ref g] ∧ FrV K k a.1 f H ∧ SqT K H g (a.2.map natV)
theorem SumV.im {k : Nat} {a : Sm} {v : V} {H H' : Hp} (e : Im H H') (h : SumV K k a v H) : SumV K k a v H' := by
  obtain ⟨t, g, f, rfl, h1, h2, h3⟩ := h
  exact ⟨t, g, f, rfl, e.sqt h1, h2.im e, e.sqt h3⟩
def spSigned (K : PySem.W.Frag) : Sp := fun vs H Q _ => ∃ (k : Nat) (n sg : Int) (x : V), vs = [x, .int sg] ∧ (sg = 1 ∨ sg = -1) ∧ FrV K k n x H ∧ RetV H Q (FrV K k (sg * n))
theorem ok_signed (T : Txt P K mg) : Cal P w K mg base 2 "signed" (spSigned K) [] := by
  have h_turned := ok_turned (P := P) (w := w) (base := base) T
  refine c_signed T (fun vs H Q E h => ?_) fun cdv A outer s H vs Q E hr h => ?_
  · obtain ⟨k, n, sg, x, rfl, _⟩ := h
    rfl
  obtain ⟨k, n, sg, x, rfl, hs, hx, hQ⟩ := h
  refine ⟨_, (pss_one (ps_ret (pe_ifExp (pt_cmpR op_eq (pv 1) pe_int (nomark _)) (pv 0) (pe_c h_turned hr (by decide) (by rfl) (pa_cons (pv 0) pa_nil))))), ?_⟩
  refine ⟨_, rfl, rfl, _, rfl, ?_⟩
  rcases hs with rfl | rfl
  · rw [decide_eq_true rfl]
    rw [Int.one_mul] at hQ
    exact iteT ⟨_, rfl, hQ _ _ (Same.refl _) hx⟩
  · rw [decide_eq_false (by intro z; cases z)]
    rw [Int.neg_mul, Int.one_mul] at hQ
    exact iteF ⟨_, rfl, k, n, x, rfl, hx, hQ⟩
def spMore (K : PySem.W.Frag) : Sp := fun vs H Q _ => ∃ (k : Nat) (a b : Sm) (x y : V), vs = [x, y] ∧ k ≤ 12 ∧ SumV K k a x H ∧ SumV K k b y H ∧ ∀ v, SumV K k (moreOf a b) v H → Q v H
theorem ok_more_of (T : Txt P K mg) : Cal P w K mg base 2 "more_of" (spMore K) [] := by
  have h_is_less := ok_is_less (P := P) (w := w) (base := base) T
  refine c_more_of T (fun vs H Q E h => ?_) fun cdv A outer s H vs Q E hr h => ?_
  · obtain ⟨k, a, b, x, y, rfl, _⟩ := h
    rfl
  obtain ⟨k, a, b, x, y, rfl, hk, hx, hy, hQ⟩ := h
  refine ⟨_, (pss_one (ps_ret (pe_ifExp (pt_val (pe_c h_is_less hr (by decide) (by rfl) (pa_cons (pe_ix (r := rIxT K) ix_tup (pv 0) pe_int (fun _ _ => rfl)) (pa_cons (pe_ix (r := rIxT K) ix_tup (pv 1) pe_int (fun _ _ => rfl)) pa_nil)))) (pv 1) (pv 0)))), ?_⟩
  obtain ⟨t, g, f, rfl, h1, h2, h3⟩ := id hx
  obtain ⟨t', g', f', rfl, h1', h2', h3'⟩ := id hy
  refine ⟨_, rfl, _, _, _, _, rfl, rfl, h1, rfl, _, rfl, _, _, _, _, rfl, rfl, h1', rfl, k, a.1, b.1, f, f', rfl, hk, h2, h2', _, rfl, ?_⟩
  have e : moreOf a b = if a.1 < b.1 then b else a := rfl
  by_cases c : a.1 < b.1
  · rw [if_pos c] at e
    rw [decide_eq_true c]
    exact iteT ⟨_, rfl, hQ _ (by rw [e]; exact hy)⟩
  · rw [if_neg c] at e
    rw [decide_eq_false c]
    exact iteF ⟨_, rfl, hQ _ (by rw [e]; exact hx)⟩
def spWith (K : PySem.W.Frag) : Sp := fun vs H Q _ => ∃ (k : Nat) (a : Sm) (m : Int) (i : Nat) (x y : V), vs = [x, y, .int (i : Nat)] ∧ k ≤ 12 ∧ a.2.length ≤ 900 ∧ SumV K k a x H ∧ FrV K k m y H ∧ RetV H Q (SumV K k (a.1 + m, a.2 ++ [i]))
theorem ok_with_pick (T : Txt P K mg) : Cal P w K mg base 3 "with_pick" (spWith K) [] := by
  have h_both := ok_both (P := P) (w := w) (base := base) T
  refine c_with_pick T (fun vs H Q E h => ?_) fun cdv A outer s H vs Q E hr h => ?_
  · obtain ⟨k, a, m, i, x, y, rfl, _⟩ := h
    rfl
  obtain ⟨k, a, m, i, x, y, rfl, hk, hl, ⟨t, g, f, rfl, h1, h2, h3⟩, hy, hQ⟩ := h
  refine ⟨_, (pss_one (ps_ret (pe_tup (pa_cons (pe_c h_both hr (by decide) (by rfl) (pa_cons (pe_ix (r := rIxT K) ix_tup (pv 0) pe_int (fun _ _ => rfl)) (pa_cons (pv 1) pa_nil))) (pa_cons (pe_tup (StX.pa_star (pe_ix (r := rIxT K) ix_tup (pv 0) pe_int (fun _ _ => rfl)) (pa_cons (pv 2) pa_nil))) pa_nil))))), ?_⟩
  refine ⟨_, rfl, _, _, _, _, rfl, rfl, h1, rfl, _, rfl, k, a.1, m, f, y, rfl, hk, h2, hy, fun v H1 s1 hv => ?_⟩
  refine ⟨_, rfl, _, _, _, _, rfl, rfl, Same.sqt s1 h1, rfl, g, _, rfl, .inl (Same.sqt s1 h3), _, rfl, ?_⟩
  refine ⟨?_, fun p hp => ?_⟩
  · rw [List.length_append, List.length_map]
    exact Nat.le_of_lt (small1000 (show a.2.length + 1 ≤ 1000 by omega))
  refine ⟨by show 2 ≤ sizeLine; decide, fun q hq => ?_⟩
  have s2 := same_new (o := .tup (a.2.map natV ++ [.int (i : Nat)])) hp
  have s3 := same_new (o := .tup [v, .ref p]) hq
  refine hQ _ _ (s1.trans (s2.trans s3)) ⟨q, p, v, rfl, .inl (.inl upd_same), hv.mono (s2.trans s3), ?_⟩
  refine Same.sqt s3 (.inl (.inl ?_))
  rw [List.map_append]
  exact upd_same
/-- what is behind a new pair: the place and the item -/
def spBest (K : PySem.W.Frag) : Sp := fun vs H Q _ => ∃ (k : Nat) (a : Addr) (xs : List V) (ns : List Int), vs = [.ref a] ∧ k ≤ 12 ∧ ns.length ≤ 60 ∧ SqL K H a xs ∧ FrL K k ns xs H ∧
  RetV H Q fun v H' => ∃ (t g : Addr) (f : V), v = .ref t ∧ SqT K H' t [f, .ref g, .int (btSign ns)] ∧ FrV K k (btEnd ns).1 f H' ∧ SqT K H' g ((btEnd ns).2.map natV)
theorem natV_ints (l : List Nat) : l.map natV = (l.map fun i : Nat => (i : Int)).map V.int := by
  rw [List.map_map]
  rfl
theorem ok_best_turns (T : Txt P K mg) : Cal P w K mg base 4 "best_turns" (spBest K) [] := by
  have h_more_of := ok_more_of (P := P) (w := w) (base := base) T
  have h_with_pick := ok_with_pick (P := P) (w := w) (base := base) T
  have h_turned := ok_turned (P := P) (w := w) (base := base) T
  have h_is_less := ok_is_less (P := P) (w := w) (base := base) T
  refine c_best_turns T (fun vs H Q E h => ?_) fun cdv A outer s H vs Q E hr h => ?_
  · obtain ⟨k, a, xs, ns, rfl, _⟩ := h
    rfl
  obtain ⟨k, a, xs, ns, rfl, hk, hn, ha, ⟨hl, hx⟩, hQ⟩ := h
  refine ⟨_, (pss_cons (ps_par (i := 1) (j := 2) rfl sc_best_turns.nd rfl rfl (by decide) rfl rfl (pa_cons (pe_tup (pa_cons (pe_gr rfl (g_NOUGHT T)) (pa_cons (pe_tup pa_nil) pa_nil))) (pa_cons (pe_tup (pa_cons (pe_gr rfl (g_NOUGHT T)) (pa_cons (pe_tup pa_nil) pa_nil))) pa_nil)) (by rfl))
      (pss_cons (ps_for PassesOwn.never rfl (pi_enum (by rfl) (z_enumerate T) (pa_cons (pv 0) pa_nil)) (pg_tup rfl (pgs_cons (pg_name (i := 3) sc_best_turns.nd rfl (by first | exact Or.inl rfl | exact Or.inr rfl)) (pgs_cons (pg_name (i := 4) sc_best_turns.nd rfl (by first | exact Or.inl rfl | exact Or.inr rfl)) pgs_nil)))
      (pss_one (ps_par (i := 1) (j := 2) rfl sc_best_turns.nd rfl rfl (by decide) rfl rfl (pa_cons (pe_c h_more_of hr (by decide) (by rfl) (pa_cons (pv 1) (pa_cons (pe_c h_with_pick hr (by decide) (by rfl) (pa_cons (pv 2) (pa_cons (pv 4) (pa_cons (pv 3) pa_nil)))) pa_nil))) (pa_cons (pe_c h_more_of hr (by decide) (by rfl) (pa_cons (pv 2) (pa_cons (pe_c h_with_pick hr (by decide) (by rfl) (pa_cons (pv 1) (pa_cons (pe_c h_turned hr (by decide) (by rfl) (pa_cons (pv 4) pa_nil)) (pa_cons (pv 3) pa_nil)))) pa_nil))) pa_nil)) (by rfl))))
      (pss_cons (ps_asg (pe_c h_more_of hr (by decide) (by rfl) (pa_cons (pv 1) (pa_cons (pv 2) pa_nil))) (pg_tup rfl (pgs_cons (pg_name (i := 5) sc_best_turns.nd rfl (by first | exact Or.inl rfl | exact Or.inr rfl)) (pgs_cons (pg_name (i := 6) sc_best_turns.nd rfl (by first | exact Or.inl rfl | exact Or.inr rfl)) pgs_nil))))
      (pss_cons (ps_set (i := 7) sc_best_turns.nd rfl (by first | exact Or.inl rfl | exact Or.inr rfl) (pe_ifExp (pt_val (pe_c h_is_less hr (by decide) (by rfl) (pa_cons (pe_ix (r := rIxT K) ix_tup (pv 1) pe_int (fun _ _ => rfl)) (pa_cons (pe_ix (r := rIxT K) ix_tup (pv 2) pe_int (fun _ _ => rfl)) pa_nil)))) (pe_un un_neg pe_int) pe_int))
      (pss_cons (ps_set (i := 8) sc_best_turns.nd rfl (by first | exact Or.inl rfl | exact Or.inr rfl) (pe_ifExp (pt_cmpR op_eq (pe_op op_mod (pe_callB call_len_seq (by rfl) (z_len T) (by decide +kernel) (pa_cons (pv 6) pa_nil)) pe_int) pe_int (nomark _)) (pv 7) (pe_un un_neg (pv 7))))
      (pss_one (ps_ret (pe_tup (pa_cons (pv 5) (pa_cons (pv 6) (pa_cons (pe_ifExp (pt_cmpR (op_neD hr.units) (pv 6) (pe_tup pa_nil) (nomark _)) (pv 8) pe_int) pa_nil))))))))))), ?_⟩
  have z0 : FrV K k 0 (.ref (He.ga K "NOUGHT")) H := by
    unfold FrV
    rw [frac_nought]
    exact ⟨_, rfl, T.nought H⟩
  refine ⟨Nat.zero_le _, fun p1 hp1 => ⟨by show 2 ≤ sizeLine; decide, fun p2 hp2 => ?_⟩⟩
  refine ⟨Nat.zero_le _, fun p3 hp3 => ⟨by show 2 ≤ sizeLine; decide, fun p4 hp4 => ?_⟩⟩
  refine ⟨_, _, rfl, ?_⟩
  have s1 := same_new (o := .tup []) hp1
  have s2 := same_new (o := .tup [.ref (He.ga K "NOUGHT"), .ref p1]) hp2
  have s3 := same_new (o := .tup []) hp3
  have s4 := same_new (o := .tup [.ref (He.ga K "NOUGHT"), .ref p3]) hp4
  have s14 := s1.trans (s2.trans (s3.trans s4))
  refine ⟨_, rfl, a, xs, rfl, s14.seq ha, for_it walk_enum (fun i σ H' => ∃ (u d : V) (e3 e4 : Option V), σ = [some (.ref a), some u, some d, e3, e4, none, none, none, none] ∧ Same H H' ∧ SumV K k (btN ns i).1 u H' ∧ SumV K k (btN ns i).2 d H')
    ⟨_, _, none, none, rfl, s14, ?_, ?_⟩ (fun i σ H' _ ⟨_, _, _, _, _, e, _⟩ => e.seq ha) ?_ ?_⟩
  · exact ⟨p2, p1, _, rfl, Same.sqt (s3.trans s4) (.inl (.inl upd_same)), z0.mono s14, Same.sqt (s2.trans (s3.trans s4)) (.inl (.inl upd_same))⟩
  · exact ⟨p4, p3, _, rfl, .inl (.inl upd_same), z0.mono s14, Same.sqt s4 (.inl (.inl upd_same))⟩
  · rintro i x σ H1 H2 hi ⟨u, d, e3, e4, rfl, sm, hu, hd⟩ ⟨t, x1, y1, rfl, ht, rfl, ex, ey⟩
    have ex2 : V.int (i : Nat) = x1 := Option.some.inj ex
    subst ex2
    have hni : i < ns.length := by omega
    have hx1 := hx i y1 ns[i] ey (List.getElem?_eq_getElem hni)
    have sT := same_new (o := .tup [.int (i : Nat), y1]) ht
    have bl := bt_len ns i
    refine ⟨t, _, rfl, .inl (.inl upd_same), rfl, _, _, rfl, _, _, rfl, rfl, ?_⟩
    have hu1 := hu.im (Im.of sT)
    have hd1 := hd.im (Im.of sT)
    have hx2 := hx1.mono (sm.trans sT)
    have eg : ns.getD i 0 = ns[i] := by rw [List.getD_eq_getElem?_getD, List.getElem?_eq_getElem hni]; rfl
    refine ⟨_, rfl, _, rfl, _, rfl, _, rfl, k, (btN ns i).2, ns[i], i, d, y1, rfl, hk, by omega, hd1, hx2, fun v1 H3 s3 h3 => ?_⟩
    refine ⟨k, (btN ns i).1, _, u, v1, rfl, hk, hu1.im (Im.of s3), h3, fun v2 h2 => ?_⟩
    refine ⟨_, rfl, _, rfl, _, rfl, k, ns[i], y1, rfl, hx2.mono s3, fun v4 H4 s4 h4 => ?_⟩
    refine ⟨_, rfl, k, (btN ns i).1, -ns[i], i, u, v4, rfl, hk, by omega, (hu1.im (Im.of s3)).im (Im.of s4), h4, fun v5 H5 s5 h5 => ?_⟩
    refine ⟨k, (btN ns i).2, _, d, v5, rfl, hk, hd1.im (Im.of (s3.trans (s4.trans s5))), h5, fun v6 h6 => ?_⟩
    refine ⟨_, _, rfl, v2, v6, _, _, rfl, sm.trans (sT.trans (s3.trans (s4.trans s5))), ?_, ?_⟩
    · show SumV K k (btStep (btN ns i) i (ns.getD i 0)).1 v2 H5
      rw [eg]
      exact h2.im (Im.of (s4.trans s5))
    · show SumV K k (btStep (btN ns i) i (ns.getD i 0)).2 v6 H5
      rw [eg]
      exact h6
  · rintro σ H1 ⟨u, d, e3, e4, rfl, sm, hu, hd⟩
    rw [hl] at hu hd
    refine ⟨_, rfl, _, rfl, k, _, _, u, d, rfl, hk, hu, hd, fun v hv => ?_⟩
    obtain ⟨t, g, f, rfl, h1, h2, h3⟩ := (show SumV K k (btEnd ns) v H1 from hv)
    refine ⟨t, _, rfl, h1, rfl, _, _, rfl, _, _, rfl, rfl, ?_⟩
    -- last
    obtain ⟨t', g', f', rfl, h1', h2', h3'⟩ := hu
    obtain ⟨t2, g2, f2, rfl, h12, h22, h32⟩ := hd
    refine ⟨_, rfl, _, _, _, _, rfl, rfl, h1', rfl, _, rfl, _, _, _, _, rfl, rfl, h12, rfl, k, _, _, f', f2, rfl, hk, h2', h22, _, rfl, ?_⟩
    have el : btLast ns = if (btN ns ns.length).1.1 < (btN ns ns.length).2.1 then -1 else 1 := rfl
    have ee : btSign ns = if (btEnd ns).2 = [] then 1 else if (btEnd ns).2.length % 2 = 1 then btLast ns else -btLast ns := rfl
    have rest : ∀ e5 : Int, e5 = btLast ns → (tSeq (tAsg (tIf (tTest (tOp rEq (tOp (rI (fun _ j => 0 < j) fun i j => .int (i % j)) (tCB (fun xs H Q => ∃ p ys, xs = [.ref p] ∧ (SqL K H p ys ∨ SqT K H p ys) ∧ Q (.int ys.length) H) (tCons (tVar 6) tNil)) (tC (.int 2))) (tC (.int 1)))) (tVar 7) (tUn (rU fun i => .int (-i)) (tVar 7))) (gName 8))
        (tRet (tTup (tCons (tVar 5) (tCons (tVar 6) (tCons (tIf (tTest (tOp (rNeD K) (tVar 6) (tTup tNil))) (tVar 8) (tC (.int 1))) tNil)))))) { nx := fun _ H' => Q .non H', rt := Q } [some (.ref a), some (.ref t'), some (.ref t2), e3, e4, some f, some (.ref g), some (.int e5), none] H1 := by
      rintro e5 rfl
      have hlen : (((btEnd ns).2.map natV).length : Int) = ((btEnd ns).2.length : Int) := by rw [List.length_map]
      refine ⟨_, rfl, g, _, rfl, .inr h3, _, _, rfl, rfl, (by show (0 : Int) < 2; decide), rfl, _, rfl, ?_⟩
      have fin : ∀ e8 : Int, ((btEnd ns).2 ≠ [] → e8 = btSign ns) → tRet (tTup (tCons (tVar 5) (tCons (tVar 6) (tCons (tIf (tTest (tOp (rNeD K) (tVar 6) (tTup tNil))) (tVar 8) (tC (.int 1))) tNil)))) { nx := fun _ H' => Q .non H', rt := Q } [some (.ref a), some (.ref t'), some (.ref t2), e3, e4, some f, some (.ref g), some (.int (btLast ns)), some (.int e8)] H1 := by
        intro e8 he8
        refine ⟨_, rfl, _, rfl, _, rfl, Nat.zero_le _, fun p hp => ?_⟩
        have sp := same_new (o := .tup []) hp
        have h3p := Same.sqt sp h3
        rw [natV_ints] at h3p
        refine ⟨_, _, dp_tup h3p, dp_tup (ns := []) (.inl (.inl upd_same)), shaped_tup _, shaped_tup _, ?_⟩
        rw [eqv_tup]
        refine ⟨_, rfl, ?_⟩
        have out : ∀ e9 : Int, e9 = btSign ns → ∀ q, upd H1 p (.tup []) q = none → Q (.ref q) (upd (upd H1 p (.tup [])) q (.tup [f, .ref g, .int e9])) := by
          rintro e9 rfl q hq
          have sq := same_new (o := .tup [f, .ref g, .int (btSign ns)]) hq
          exact hQ _ _ (sm.trans (sp.trans sq)) ⟨q, g, f, rfl, .inl (.inl upd_same), h2.mono (sp.trans sq), Same.sqt (sp.trans sq) h3⟩
        by_cases c : (btEnd ns).2 = []
        · rw [c, List.map_nil, decide_eq_true rfl]
          refine iteF ⟨by show 3 ≤ sizeLine; decide, out 1 ?_⟩
          rw [ee, if_pos c]
        · have c2 : ¬ (btEnd ns).2.map (fun i : Nat => (i : Int)) = [] := fun z => c (List.map_eq_nil_iff.mp z)
          rw [decide_eq_false c2]
          exact iteT ⟨_, rfl, by show 3 ≤ sizeLine; decide, out e8 (he8 c)⟩
      by_cases c : (btEnd ns).2.length % 2 = 1
      · rw [decide_eq_true (by show V.int ((((btEnd ns).2.map natV).length : Int) % 2) = V.int 1; rw [hlen]; congr 1; omega)]
        refine iteT ⟨_, rfl, fin _ fun c2 => ?_⟩
        rw [ee, if_neg c2, if_pos c]
      · rw [decide_eq_false (by show ¬ V.int ((((btEnd ns).2.map natV).length : Int) % 2) = V.int 1; rw [hlen]; intro z; have z2 := V.int.inj z; omega)]
        refine iteF ⟨_, rfl, _, rfl, fin _ fun c2 => ?_⟩
        rw [ee, if_neg c2, if_neg c]
    by_cases c : (btN ns ns.length).1.1 < (btN ns ns.length).2.1
    · rw [decide_eq_true c]
      rw [if_pos c] at el
      exact iteT ⟨1, rfl, rest (-1) el.symm⟩
    · rw [decide_eq_false c]
      rw [if_neg c] at el
      exact iteF (rest 1 el.symm)
def spGreat (K : PySem.W.Frag) : Sp := fun vs H Q _ => ∃ (k : Nat) (a : Addr) (xs : List V) (ns : List Int) (sg : Int), vs = [.ref a, .int sg] ∧ (sg = 1 ∨ sg = -1) ∧ k ≤ 12 ∧ ns.length ≤ 60 ∧ SqL K H a xs ∧ FrL K k ns xs H ∧ RetV H Q (FrV K k (gf sg ns))
/-- odd, or None as yet -/
def OddV (K : PySem.W.Frag) (k : Nat) (o : Option Int) (v : V) (H : Hp) : Prop := match o with
  | none => v = .non
  | some n => FrV K k n v H
theorem OddV.mono {k : Nat} {o : Option Int} {v : V} {H H' : Hp} (e : Same H H') (h : OddV K k o v H) : OddV K k o v H' := match o, h with
  | none, h => h
  | some _, h => FrV.mono e h
theorem ok_greatest_from (T : Txt P K mg) : Cal P w K mg base 4 "greatest_from" (spGreat K) [] := by
  have h_signed := ok_signed (P := P) (w := w) (base := base) T
  have h_both := ok_both (P := P) (w := w) (base := base) T
  have h_turned := ok_turned (P := P) (w := w) (base := base) T
  have h_is_less := ok_is_less (P := P) (w := w) (base := base) T
  refine c_greatest_from T (fun vs H Q E h => ?_) fun cdv A outer s H vs Q E hr h => ?_
  · obtain ⟨k, a, xs, ns, sg, rfl, _⟩ := h
    rfl
  obtain ⟨k, a, xs, ns, sg, rfl, hsg, hk, hn, ha, ⟨hl, hx⟩, hQ⟩ := h
  refine ⟨_, (pss_cons (ps_par (i := 2) (j := 3) rfl sc_greatest_from.nd rfl rfl (by decide) rfl rfl (pa_cons pe_non (pa_cons (pe_gr rfl (g_NOUGHT T)) pa_nil)) (by rfl))
      (pss_cons (ps_for PassesOwn.never rfl (pi_list (pv 0)) (pg_name (i := 4) sc_greatest_from.nd rfl (by first | exact Or.inl rfl | exact Or.inr rfl))
      (pss_cons (ps_set (i := 5) sc_greatest_from.nd rfl (by first | exact Or.inl rfl | exact Or.inr rfl) (pe_c h_signed hr (by decide) (by rfl) (pa_cons (pv 4) (pa_cons (pv 1) pa_nil))))
      (pss_cons (ps_set (i := 6) sc_greatest_from.nd rfl (by first | exact Or.inl rfl | exact Or.inr rfl) (pe_c h_both hr (by decide) (by rfl) (pa_cons (pv 3) (pa_cons (pv 5) pa_nil))))
      (pss_cons (ps_if (pt_cmpR op_notN (pv 2) pe_non (nomark _)) (pss_cons (ps_set (i := 7) sc_greatest_from.nd rfl (by first | exact Or.inl rfl | exact Or.inr rfl) (pe_c h_both hr (by decide) (by rfl) (pa_cons (pv 2) (pa_cons (pe_c h_turned hr (by decide) (by rfl) (pa_cons (pv 5) pa_nil)) pa_nil))))
      (pss_cons (ps_set (i := 6) sc_greatest_from.nd rfl (by first | exact Or.inl rfl | exact Or.inr rfl) (pe_ifExp (pt_val (pe_c h_is_less hr (by decide) (by rfl) (pa_cons (pv 6) (pa_cons (pv 2) pa_nil)))) (pv 2) (pv 6)))
      (pss_one (ps_set (i := 3) sc_greatest_from.nd rfl (by first | exact Or.inl rfl | exact Or.inr rfl) (pe_ifExp (pt_val (pe_c h_is_less hr (by decide) (by rfl) (pa_cons (pv 3) (pa_cons (pv 7) pa_nil)))) (pv 7) (pv 3)))))) pss_nil)
      (pss_one (ps_set (i := 2) sc_greatest_from.nd rfl (by first | exact Or.inl rfl | exact Or.inr rfl) (pv 6)))))))
      (pss_one (ps_ret (pe_ifExp (PW.pt (pw_or (pt_cmpR op_isN (pv 2) pe_non (nomark _)) (pw_or1 (pt_val (pe_c h_is_less hr (by decide) (by rfl) (pa_cons (pv 2) (pa_cons (pv 3) pa_nil))))))) (pv 3) (pv 2)))))), ?_⟩
  have z0 : FrV K k 0 (.ref (He.ga K "NOUGHT")) H := by
    unfold FrV
    rw [frac_nought]
    exact ⟨_, rfl, T.nought H⟩
  refine ⟨_, _, rfl, _, rfl, a, rfl, ⟨xs, ha⟩, for_it walk_list (fun i σ H' => ∃ (o e : V) (e4 e5 e6 e7 : Option V), σ = [some (.ref a), some (.int sg), some o, some e, e4, e5, e6, e7] ∧ Same H H' ∧ OddV K k (gfN sg ns i).1 o H' ∧ FrV K k (gfN sg ns i).2 e H')
    ⟨_, _, none, none, none, none, rfl, Same.refl _, rfl, z0⟩ (fun i σ H' _ ⟨_, _, _, _, _, _, _, e, _⟩ => e.seq ha) ?_ ?_⟩
  · rintro i x σ H1 H2 hi ⟨o, e, e4, e5, e6, e7, rfl, sm, ho, he⟩ ⟨rfl, ex⟩
    have hni : i < ns.length := by omega
    have hx1 := (hx i x ns[i] ex (List.getElem?_eq_getElem hni)).mono sm
    have eg : ns.getD i 0 = ns[i] := by rw [List.getD_eq_getElem?_getD, List.getElem?_eq_getElem hni]; rfl
    have st : gfN sg ns (i + 1) = gfStep (gfN sg ns i) (sg * ns[i]) := by
      show gfStep _ (sg * ns.getD i 0) = _
      rw [eg]
    refine ⟨_, rfl, _, rfl, k, ns[i], sg, x, rfl, hsg, hx1, fun own H3 s3 h3 => ?_⟩
    refine ⟨_, rfl, _, rfl, k, (gfN sg ns i).2, sg * ns[i], e, own, rfl, hk, he.mono s3, h3, fun lat H4 s4 h4 => ?_⟩
    have he4 := he.mono (s3.trans s4)
    have ho4 := OddV.mono (s3.trans s4) ho
    have h34 := h3.mono s4
    rw [st]
    generalize gfN sg ns i = g at ho he h4 he4 ho4
    obtain ⟨go, ge⟩ := g
    cases go with
    | none =>
      cases ho4
      refine ⟨_, rfl, rfl, _, rfl, iteF ⟨_, rfl, ?_⟩⟩
      exact ⟨_, _, _, _, _, _, rfl, sm.trans (s3.trans s4), h4, he4⟩
    | some o1 =>
      have ho5 : FrV K k o1 o H4 := ho4
      have no : (!decide (o = V.non)) = true := by
        obtain ⟨_, rfl, _⟩ := ho5
        rfl
      refine ⟨_, rfl, rfl, _, rfl, ?_⟩
      rw [no]
      refine iteT ⟨_, rfl, _, rfl, k, sg * ns[i], own, rfl, h34, fun tv H5 s5 h5 => ?_⟩
      refine ⟨k, o1, _, o, tv, rfl, hk, ho5.mono s5, h5, fun les H6 s6 h6 => ?_⟩
      have s56 := s5.trans s6
      refine ⟨_, rfl, _, rfl, k, _, o1, lat, o, rfl, hk, h4.mono s56, ho5.mono s56, _, rfl, ?_⟩
      have sa := sm.trans (s3.trans (s4.trans s56))
      have ho6 := ho5.mono s56
      have he6 : FrV K k ge e H6 := he4.mono s56
      have h46 : FrV K k (ge + sg * ns[i]) lat H6 := h4.mono s56
      by_cases c1 : ge + sg * ns[i] < o1
      · rw [decide_eq_true c1]
        refine iteT ⟨_, rfl, _, rfl, _, rfl, k, ge, _, e, les, rfl, hk, he6, h6, _, rfl, ?_⟩
        by_cases c2 : ge < o1 + -(sg * ns[i])
        · rw [decide_eq_true c2]
          refine iteT ⟨_, rfl, _, rfl, _, _, _, _, _, _, rfl, sa, ?_, ?_⟩
          · show FrV K k (if ge + sg * ns[i] < o1 then o1 else ge + sg * ns[i]) _ _
            rw [if_pos c1]; exact ho6
          · show FrV K k (if ge < o1 + -(sg * ns[i]) then o1 + -(sg * ns[i]) else ge) _ _
            rw [if_pos c2]; exact h6
        · rw [decide_eq_false c2]
          refine iteF ⟨_, rfl, _, rfl, _, _, _, _, _, _, rfl, sa, ?_, ?_⟩
          · show FrV K k (if ge + sg * ns[i] < o1 then o1 else ge + sg * ns[i]) _ _
            rw [if_pos c1]; exact ho6
          · show FrV K k (if ge < o1 + -(sg * ns[i]) then o1 + -(sg * ns[i]) else ge) _ _
            rw [if_neg c2]; exact he6
      · rw [decide_eq_false c1]
        refine iteF ⟨_, rfl, _, rfl, _, rfl, k, ge, _, e, les, rfl, hk, he6, h6, _, rfl, ?_⟩
        by_cases c2 : ge < o1 + -(sg * ns[i])
        · rw [decide_eq_true c2]
          refine iteT ⟨_, rfl, _, rfl, _, _, _, _, _, _, rfl, sa, ?_, ?_⟩
          · show FrV K k (if ge + sg * ns[i] < o1 then o1 else ge + sg * ns[i]) _ _
            rw [if_neg c1]; exact h46
          · show FrV K k (if ge < o1 + -(sg * ns[i]) then o1 + -(sg * ns[i]) else ge) _ _
            rw [if_pos c2]; exact h6
        · rw [decide_eq_false c2]
          refine iteF ⟨_, rfl, _, rfl, _, _, _, _, _, _, rfl, sa, ?_, ?_⟩
          · show FrV K k (if ge + sg * ns[i] < o1 then o1 else ge + sg * ns[i]) _ _
            rw [if_neg c1]; exact h46
          · show FrV K k (if ge < o1 + -(sg * ns[i]) then o1 + -(sg * ns[i]) else ge) _ _
            rw [if_neg c2]; exact he6
  · rintro σ H1 ⟨o, e, e4, e5, e6, e7, rfl, sm, ho, he⟩
    rw [hl] at ho he
    have eg : gf sg ns = gfEnd (gfN sg ns ns.length) := rfl
    rw [eg] at hQ
    generalize gfN sg ns ns.length = g at ho he hQ
    obtain ⟨go, ge⟩ := g
    cases go with
    | none =>
      cases ho
      exact ⟨_, rfl, rfl, _, rfl, iteT (iteT ⟨_, rfl, hQ _ _ sm he⟩)⟩
    | some o1 =>
      have ho5 : FrV K k o1 o H1 := ho
      have no : decide (o = V.non) = false := by
        obtain ⟨_, rfl, _⟩ := ho5
        rfl
      refine ⟨_, rfl, rfl, _, rfl, ?_⟩
      rw [no]
      refine iteF ⟨_, rfl, _, rfl, k, o1, ge, o, e, rfl, hk, ho5, he, _, rfl, ?_⟩
      by_cases c : o1 < ge
      · rw [decide_eq_true c]
        have e1 : gfEnd (some o1, ge) = ge := if_pos c
        rw [e1] at hQ
        exact iteT ⟨_, rfl, hQ _ _ sm he⟩
      · rw [decide_eq_false c]
        have e1 : gfEnd (some o1, ge) = o1 := if_neg c
        rw [e1] at hQ
        exact iteF ⟨_, rfl, hQ _ _ sm ho5⟩
/-- the bounds by a sign -/
def BtwV (K : PySem.W.Frag) (k : Nat) (a b : Int) (v : V) (H : Hp) : Prop := ∃ (t : Addr) (x y : V), v = .ref t ∧ SqT K H t [x, y] ∧ FrV K k a x H ∧ FrV K k b y H
theorem BtwV.im {k : Nat} {a b : Int} {v : V} {H H' : Hp} (e : Im H H') (h : BtwV K k a b v H) : BtwV K k a b v H' := by
  obtain ⟨t, x, y, rfl, h1, h2, h3⟩ := h
  exact ⟨t, x, y, rfl, e.sqt h1, h2.im e, h3.im e⟩
def spBetween (K : PySem.W.Frag) : Sp := fun vs H Q _ => ∃ (k : Nat) (a : Addr) (xs : List V) (ns : List Int) (sg : Int), vs = [.ref a, .int sg] ∧ (sg = 1 ∨ sg = -1) ∧ k ≤ 12 ∧ ns.length ≤ 60 ∧ SqL K H a xs ∧ FrL K k ns xs H ∧ RetV H Q (BtwV K k (-gf (-sg) ns) (gf sg ns))
theorem FrL.mono {k : Nat} {ns : List Int} {xs : List V} {H H' : Hp} (e : Same H H') (h : FrL K k ns xs H) : FrL K k ns xs H' := ⟨h.1, fun i v n h1 h2 => (h.2 i v n h1 h2).mono e⟩
theorem ok_between (T : Txt P K mg) : Cal P w K mg base 5 "between" (spBetween K) [] := by
  have h_turned := ok_turned (P := P) (w := w) (base := base) T
  have h_greatest_from := ok_greatest_from (P := P) (w := w) (base := base) T
  refine c_between T (fun vs H Q E h => ?_) fun cdv A outer s H vs Q E hr h => ?_
  · obtain ⟨k, a, xs, ns, sg, rfl, _⟩ := h
    rfl
  obtain ⟨k, a, xs, ns, sg, rfl, hsg, hk, hn, ha, hx, hQ⟩ := h
  refine ⟨_, (pss_one (ps_ret (pe_tup (pa_cons (pe_c h_turned hr (by decide) (by rfl) (pa_cons (pe_c h_greatest_from hr (by decide) (by rfl) (pa_cons (pv 0) (pa_cons (pe_un un_neg (pv 1)) pa_nil))) pa_nil)) (pa_cons (pe_c h_greatest_from hr (by decide) (by rfl) (pa_cons (pv 0) (pa_cons (pv 1) pa_nil))) pa_nil))))), ?_⟩
  refine ⟨_, rfl, _, rfl, _, rfl, k, a, xs, ns, -sg, rfl, by omega, hk, hn, ha, hx, fun v H1 s1 h1 => ?_⟩
  refine ⟨k, _, v, rfl, h1, fun v2 H2 s2 h2 => ?_⟩
  refine ⟨_, rfl, _, rfl, k, a, xs, ns, sg, rfl, hsg, hk, hn, (s1.trans s2).seq ha, FrL.mono (s1.trans s2) hx, fun v3 H3 s3 h3 => ?_⟩
  refine ⟨by show 2 ≤ sizeLine; decide, fun q hq => ?_⟩
  have sq := same_new (o := .tup [v2, v3]) hq
  exact hQ _ _ ((s1.trans s2).trans (s3.trans sq)) ⟨q, v2, v3, rfl, .inl (.inl upd_same), h2.mono (s3.trans sq), h3.mono sq⟩
/-- picks below i -/
def PkV (K : PySem.W.Frag) (k i : Nat) (v : V) (H : Hp) : Prop := ∃ a : Sm, SumV K k a v H ∧ a.2.length ≤ i ∧ ∀ j ∈ a.2, j < i
theorem PkV.im {k i : Nat} {v : V} {H H' : Hp} (e : Im H H') (h : PkV K k i v H) : PkV K k i v H' := by
  obtain ⟨a, h1, h2⟩ := h
  exact ⟨a, h1.im e, h2⟩
theorem PkV.up {k i : Nat} {v : V} {H : Hp} (h : PkV K k i v H) : PkV K k (i + 1) v H := by
  obtain ⟨a, h1, h2, h3⟩ := h
  exact ⟨a, h1, by omega, fun j hj => by have := h3 j hj; omega⟩
theorem pick_new {k i : Nat} {l : List Nat} {m : Int} {v : V} {H : Hp} {p q : Addr} (h2 : l.length ≤ i) (h3 : ∀ j ∈ l, j < i) (hv : FrV K k m v H) (hp : H p = none) (hq : upd H p (.tup (l.map natV ++ [.int (i : Nat)])) q = none) :
    Same H (upd (upd H p (.tup (l.map natV ++ [.int (i : Nat)]))) q (.tup [v, .ref p])) ∧ PkV K k (i + 1) (.ref q) (upd (upd H p (.tup (l.map natV ++ [.int (i : Nat)]))) q (.tup [v, .ref p])) := by
  have s1 := same_new (o := .tup (l.map natV ++ [.int (i : Nat)])) hp
  have s2 := same_new (o := .tup [v, .ref p]) hq
  refine ⟨s1.trans s2, (m, l ++ [i]), ⟨q, p, v, rfl, .inl (.inl upd_same), hv.mono (s1.trans s2), Same.sqt s2 (.inl (.inl ?_))⟩, ?_, fun j hj => ?_⟩
  · show _ = some (HO.tup ((l ++ [i]).map natV))
    rw [List.map_append]
    exact upd_same
  · show (l ++ [i]).length ≤ i + 1
    rw [List.length_append]
    exact Nat.succ_le_succ h2
  · rcases List.mem_append.mp hj with hj | hj
    · exact Nat.lt_succ_of_lt (h3 j hj)
    · rw [List.mem_singleton.mp hj]
      exact Nat.lt_succ_self i
def PikV (K : PySem.W.Frag) (n : Nat) (v : V) (H : Hp) : Prop := ∃ (g : Addr) (is : List Nat), v = .ref g ∧ SqT K H g (is.map natV) ∧ is.length ≤ n ∧ ∀ j ∈ is, j < n
def spPicks (K : PySem.W.Frag) : Sp := fun vs H Q _ => ∃ (k : Nat) (a : Addr) (xs : List V) (ns : List Int) (sg : Int), vs = [.ref a, .int sg] ∧ (sg = 1 ∨ sg = -1) ∧ k ≤ 12 ∧ ns.length ≤ 60 ∧ SqL K H a xs ∧ FrL K k ns xs H ∧ RetV H Q (PikV K ns.length)
theorem ok_picks_from (T : Txt P K mg) : Cal P w K mg base 4 "picks_from" (spPicks K) [] := by
  have h_signed := ok_signed (P := P) (w := w) (base := base) T
  have h_both := ok_both (P := P) (w := w) (base := base) T
  have h_is_less := ok_is_less (P := P) (w := w) (base := base) T
  refine c_picks_from T (fun vs H Q E h => ?_) fun cdv A outer s H vs Q E hr h => ?_
  · obtain ⟨k, a, xs, ns, sg, rfl, _⟩ := h
    rfl
  obtain ⟨k, a, xs, ns, sg, rfl, hsg, hk, hn, ha, ⟨hl, hx⟩, hQ⟩ := h
  refine ⟨_, (pss_cons (ps_par (i := 2) (j := 3) rfl sc_picks_from.nd rfl rfl (by decide) rfl rfl (pa_cons (pe_tup (pa_cons (pe_gr rfl (g_NOUGHT T)) (pa_cons (pe_tup pa_nil) pa_nil))) (pa_cons pe_non pa_nil)) (by rfl))
      (pss_cons (ps_for PassesOwn.never rfl (pi_enum (by rfl) (z_enumerate T) (pa_cons (pv 0) pa_nil)) (pg_tup rfl (pgs_cons (pg_name (i := 4) sc_picks_from.nd rfl (by first | exact Or.inl rfl | exact Or.inr rfl)) (pgs_cons (pg_name (i := 5) sc_picks_from.nd rfl (by first | exact Or.inl rfl | exact Or.inr rfl)) pgs_nil)))
      (pss_cons (ps_set (i := 6) sc_picks_from.nd rfl (by first | exact Or.inl rfl | exact Or.inr rfl) (pe_c h_signed hr (by decide) (by rfl) (pa_cons (pv 5) (pa_cons (pv 1) pa_nil))))
      (pss_cons (ps_set (i := 7) sc_picks_from.nd rfl (by first | exact Or.inl rfl | exact Or.inr rfl) (pe_tup (pa_cons (pe_c h_both hr (by decide) (by rfl) (pa_cons (pe_ix (r := rIxT K) ix_tup (pv 2) pe_int (fun _ _ => rfl)) (pa_cons (pv 6) pa_nil))) (pa_cons (pe_tup (StX.pa_star (pe_ix (r := rIxT K) ix_tup (pv 2) pe_int (fun _ _ => rfl)) (pa_cons (pv 4) pa_nil))) pa_nil))))
      (pss_cons (ps_if (pt_cmpR op_notN (pv 3) pe_non (nomark _)) (pss_cons (ps_set (i := 8) sc_picks_from.nd rfl (by first | exact Or.inl rfl | exact Or.inr rfl) (pe_tup (pa_cons (pe_c h_both hr (by decide) (by rfl) (pa_cons (pe_ix (r := rIxT K) ix_tup (pv 3) pe_int (fun _ _ => rfl)) (pa_cons (pe_c h_signed hr (by decide) (by rfl) (pa_cons (pv 5) (pa_cons (pe_un un_neg (pv 1)) pa_nil))) pa_nil))) (pa_cons (pe_tup (StX.pa_star (pe_ix (r := rIxT K) ix_tup (pv 3) pe_int (fun _ _ => rfl)) (pa_cons (pv 4) pa_nil))) pa_nil))))
      (pss_cons (ps_set (i := 7) sc_picks_from.nd rfl (by first | exact Or.inl rfl | exact Or.inr rfl) (pe_ifExp (pt_val (pe_c h_is_less hr (by decide) (by rfl) (pa_cons (pe_ix (r := rIxT K) ix_tup (pv 7) pe_int (fun _ _ => rfl)) (pa_cons (pe_ix (r := rIxT K) ix_tup (pv 3) pe_int (fun _ _ => rfl)) pa_nil)))) (pv 3) (pv 7)))
      (pss_one (ps_set (i := 2) sc_picks_from.nd rfl (by first | exact Or.inl rfl | exact Or.inr rfl) (pe_ifExp (pt_val (pe_c h_is_less hr (by decide) (by rfl) (pa_cons (pe_ix (r := rIxT K) ix_tup (pv 2) pe_int (fun _ _ => rfl)) (pa_cons (pe_ix (r := rIxT K) ix_tup (pv 8) pe_int (fun _ _ => rfl)) pa_nil)))) (pv 8) (pv 2)))))) pss_nil)
      (pss_one (ps_set (i := 3) sc_picks_from.nd rfl (by first | exact Or.inl rfl | exact Or.inr rfl) (pv 7)))))))
      (pss_one (ps_ret (pe_ifExp (PW.pt (pw_and (pt_cmpR op_notN (pv 3) pe_non (nomark _)) (pw_and1 (pt_val (pe_c h_is_less hr (by decide) (by rfl) (pa_cons (pe_ix (r := rIxT K) ix_tup (pv 2) pe_int (fun _ _ => rfl)) (pa_cons (pe_ix (r := rIxT K) ix_tup (pv 3) pe_int (fun _ _ => rfl)) pa_nil))))))) (pe_ix (r := rIxT K) ix_tup (pv 3) pe_int (fun _ _ => rfl)) (pe_ix (r := rIxT K) ix_tup (pv 2) pe_int (fun _ _ => rfl))))))), ?_⟩
  have z0 : FrV K k 0 (.ref (He.ga K "NOUGHT")) H := by
    unfold FrV
    rw [frac_nought]
    exact ⟨_, rfl, T.nought H⟩
  refine ⟨Nat.zero_le _, fun p1 hp1 => ⟨by show 2 ≤ sizeLine; decide, fun p2 hp2 => ?_⟩⟩
  have s1 := same_new (o := .tup []) hp1
  have s2 := same_new (o := .tup [.ref (He.ga K "NOUGHT"), .ref p1]) hp2
  refine ⟨_, _, rfl, _, rfl, a, xs, rfl, (s1.trans s2).seq ha, for_it walk_enum (fun i σ H' => ∃ (u o : V) (e4 e5 e6 e7 e8 : Option V), σ = [some (.ref a), some (.int sg), some u, some o, e4, e5, e6, e7, e8] ∧ Same H H' ∧ PkV K k i u H' ∧ (o = .non ∨ PkV K k i o H'))
    ⟨_, _, none, none, none, none, none, rfl, s1.trans s2, ⟨(0, []), ⟨p2, p1, _, rfl, .inl (.inl upd_same), z0.mono (s1.trans s2), Same.sqt s2 (.inl (.inl upd_same))⟩, Nat.le_refl _, fun j hj => nomatch hj⟩, .inl rfl⟩ (fun i σ H' _ ⟨_, _, _, _, _, _, _, _, e, _⟩ => e.seq ha) ?_ ?_⟩
  · rintro i x σ H1 H2 hi ⟨u, o, e4, e5, e6, e7, e8, rfl, sm, hu, ho⟩ ⟨t, x1, y1, rfl, ht, rfl, ex, ey⟩
    have ex2 : V.int (i : Nat) = x1 := Option.some.inj ex
    subst ex2
    have hni : i < ns.length := by omega
    have hx1 := (hx i y1 ns[i] ey (List.getElem?_eq_getElem hni)).mono sm
    have sT := same_new (o := .tup [.int (i : Nat), y1]) ht
    have hx2 := hx1.mono sT
    refine ⟨t, _, rfl, .inl (.inl upd_same), rfl, _, _, rfl, _, _, rfl, rfl, ?_⟩
    obtain ⟨⟨m, l⟩, ⟨tu, gu, fu, rfl, u1, u2, u3⟩, u4, u5⟩ := id hu
    refine ⟨_, rfl, _, rfl, k, ns[i], sg, y1, rfl, hsg, hx2, fun own H3 s3 h3 => ?_⟩
    have sT3 := sT.trans s3
    refine ⟨_, rfl, _, _, _, _, rfl, rfl, Same.sqt sT3 u1, rfl, _, rfl, k, m, _, fu, own, rfl, hk, u2.mono sT3, h3, fun v4 H4 s4 h4 => ?_⟩
    have sT4 := sT3.trans s4
    refine ⟨_, rfl, _, _, _, _, rfl, rfl, Same.sqt sT4 u1, rfl, gu, _, rfl, .inl (Same.sqt sT4 u3), _, rfl, ?_, fun p hp => ⟨by show 2 ≤ sizeLine; decide, fun q hq => ?_⟩⟩
    · rw [List.length_append, List.length_map]
      exact Nat.le_of_lt (small1000 (show l.length + 1 ≤ 1000 by have : l.length ≤ i := u4; omega))
    obtain ⟨s5, l5⟩ := pick_new (K := K) u4 u5 h4 hp hq
    generalize upd (upd H4 p (.tup (l.map natV ++ [.int (i : Nat)]))) q (.tup [v4, .ref p]) = H5 at s5 l5
    have sT5 := sT4.trans s5
    have hu5 : PkV K k i (.ref tu) H5 := hu.im (Im.of sT5)
    have hx5 := hx2.mono (s3.trans (s4.trans s5))
    have sa := sm.trans sT5
    rcases ho with rfl | ho
    · refine ⟨_, rfl, rfl, _, rfl, iteF ⟨_, rfl, ?_⟩⟩
      exact ⟨_, _, _, _, _, _, _, rfl, sa, hu5.up, .inr l5⟩
    · have ho5 := ho.im (Im.of sT5)
      have no : (!decide (o = V.non)) = true := by
        obtain ⟨_, ⟨_, _, _, rfl, _⟩, _⟩ := ho
        rfl
      refine ⟨_, rfl, rfl, _, rfl, ?_⟩
      rw [no]
      refine iteT ?_
      obtain ⟨⟨mo, lo⟩, ⟨to, go, fo, rfl, o1, o2, o3⟩, o4, o5⟩ := id ho5
      refine ⟨_, rfl, _, _, _, _, rfl, rfl, o1, rfl, _, rfl, _, rfl, _, rfl, k, ns[i], -sg, y1, rfl, by omega, hx5, fun v6 H6 s6 h6 => ?_⟩
      refine ⟨k, mo, _, fo, v6, rfl, hk, o2.mono s6, h6, fun v7 H7 s7 h7 => ?_⟩
      have s67 := s6.trans s7
      refine ⟨_, rfl, _, _, _, _, rfl, rfl, Same.sqt s67 o1, rfl, go, _, rfl, .inl (Same.sqt s67 o3), _, rfl, ?_, fun p hp => ⟨by show 2 ≤ sizeLine; decide, fun q' hq => ?_⟩⟩
      · rw [List.length_append, List.length_map]
        exact Nat.le_of_lt (small1000 (show lo.length + 1 ≤ 1000 by have : lo.length ≤ i := o4; omega))
      obtain ⟨s8, l8⟩ := pick_new (K := K) o4 o5 h7 hp hq
      generalize upd (upd H7 p (.tup (lo.map natV ++ [.int (i : Nat)]))) q' (.tup [v7, .ref p]) = H8 at s8 l8
      have s68 := s67.trans s8
      have sz := sa.trans s68
      have hu8 := hu5.im (Im.of s68)
      have ho8 := ho5.im (Im.of s68)
      have l58 := l5.im (Im.of s68)
      obtain ⟨⟨mu, lu⟩, ⟨tu2, gu2, fu2, eu, a1, a2, a3⟩, a4, a5⟩ := id hu8
      cases eu
      obtain ⟨⟨m2, l2⟩, ⟨to2, go2, fo2, eo, b1, b2, b3⟩, b4, b5⟩ := id ho8
      cases eo
      obtain ⟨⟨m3, l3⟩, ⟨tl, gl, fl, el, d1, d2, d3⟩, d4, d5⟩ := id l58
      cases el
      obtain ⟨⟨m4, l4⟩, ⟨te, ge, fe, ee, e1, e2, e3⟩, e4', e5'⟩ := id l8
      cases ee
      refine ⟨_, rfl, _, _, _, _, rfl, rfl, d1, rfl, _, rfl, _, _, _, _, rfl, rfl, b1, rfl, k, m3, m2, fl, fo2, rfl, hk, d2, b2, _, rfl, ?_⟩
      generalize decide (m3 < m2) = c1
      cases c1
      · refine iteF ⟨_, rfl, _, rfl, _, _, _, _, rfl, rfl, a1, rfl, _, rfl, _, _, _, _, rfl, rfl, e1, rfl, k, mu, m4, fu2, fe, rfl, hk, a2, e2, _, rfl, ?_⟩
        generalize decide (mu < m4) = c2
        cases c2
        · exact iteF ⟨_, rfl, _, rfl, _, _, _, _, _, _, _, rfl, sz, hu8.up, .inr l58⟩
        · exact iteT ⟨_, rfl, _, rfl, _, _, _, _, _, _, _, rfl, sz, l8, .inr l58⟩
      · refine iteT ⟨_, rfl, _, rfl, _, _, _, _, rfl, rfl, a1, rfl, _, rfl, _, _, _, _, rfl, rfl, e1, rfl, k, mu, m4, fu2, fe, rfl, hk, a2, e2, _, rfl, ?_⟩
        generalize decide (mu < m4) = c2
        cases c2
        · exact iteF ⟨_, rfl, _, rfl, _, _, _, _, _, _, _, rfl, sz, hu8.up, .inr ho8.up⟩
        · exact iteT ⟨_, rfl, _, rfl, _, _, _, _, _, _, _, rfl, sz, l8, .inr ho8.up⟩
  · rintro σ H1 ⟨u, o, e4, e5, e6, e7, e8, rfl, sm, hu, ho⟩
    rw [hl] at hu ho
    obtain ⟨⟨mu, lu⟩, ⟨tu, gu, fu, rfl, a1, a2, a3⟩, a4, a5⟩ := hu
    rcases ho with rfl | ⟨⟨mo, lo⟩, ⟨to, go, fo, rfl, b1, b2, b3⟩, b4, b5⟩
    · refine ⟨_, rfl, rfl, _, rfl, iteF ?_⟩
      exact iteF ⟨_, rfl, _, _, _, _, rfl, rfl, a1, rfl, hQ _ _ sm ⟨gu, lu, rfl, a3, a4, a5⟩⟩
    · refine ⟨_, rfl, rfl, _, rfl, iteT ⟨_, rfl, _, _, _, _, rfl, rfl, a1, rfl, _, rfl, _, _, _, _, rfl, rfl, b1, rfl, k, mu, mo, fu, fo, rfl, hk, a2, b2, _, rfl, ?_⟩⟩
      generalize decide (mu < mo) = c
      cases c
      · exact iteF ⟨_, rfl, _, _, _, _, rfl, rfl, a1, rfl, hQ _ _ sm ⟨gu, lu, rfl, a3, a4, a5⟩⟩
      · exact iteT ⟨_, rfl, _, _, _, _, rfl, rfl, b1, rfl, hQ _ _ sm ⟨go, lo, rfl, b3, b4, b5⟩⟩
end
end K86
end
section
set_option Elab.async false
set_option linter.all false
set_option maxRecDepth 100000
namespace K86
open PySem PySem.Spec PyProof.Rows L2
open C8 (Cal Met Mak pe_c pe_mk pe_mt pe_mt0)
section
variable {P : Program} {w : World} {K : PySem.W.Frag} {mg : Str → Option Value} {base : Heap}
theorem rg2 : ∀ n : Nat, n < 10 → RgC (2 - (n : Int) % 2) ((n : Int) + 1) 2 ((n + 1) / 2) := by
  unfold RgC
  decide
theorem getL_cL {n : Nat} {f : Int} (hf : 0 < f) : at0 (cL n) f = G n f := by
  unfold at0
  cases e : getL (cL n) f with
  | some v => exact (cL_mem (getL_mem e)).1
  | none =>
    have h := getL_none.mp e
    show 0 = G n f
    by_cases h1 : f ≤ n
    · by_cases h2 : (n + f) % 2 = 0
      · refine absurd (List.mem_map.mpr ⟨(f, G n f), List.mem_map.mpr ⟨((f - 2 + (n : Int) % 2) / 2).toNat, List.mem_range.mpr (by omega), ?_⟩, rfl⟩) h
        have e2 : farAt n ((f - 2 + (n : Int) % 2) / 2).toNat = f := by unfold farAt; omega
        rw [e2]
      · exact (G_par n f (by omega)).symm
    · exact (G_far n f (by omega)).symm
theorem cLk_keys {n k : Nat} : farAt n k ∉ keysL (cLk n k) := by
  intro h
  obtain ⟨p, hp, e⟩ := List.mem_map.mp h
  obtain ⟨i, hi, rfl⟩ := List.mem_map.mp hp
  have := List.mem_range.mp hi
  have e2 : farAt n i = farAt n k := e
  unfold farAt at e2
  omega
def CntV (K : PySem.W.Frag) (n : Nat) (v : V) (H : Hp) : Prop := ∃ (a : Addr) (ds : List Addr), v = .ref a ∧ H a = some (.lst (ds.map V.ref)) ∧ ds.length = n + 1 ∧ ∀ (i : Nat) d, ds[i]? = some d → DI H d (cL i)
def spCounts (K : PySem.W.Frag) : Sp := fun vs H Q _ => ∃ (n : Nat), vs = [.int n] ∧ n ≤ 8 ∧ RetV H Q (CntV K n)
theorem ok_first_counts (T : Txt P K mg) : Cal P w K mg base 1 "first_counts" (spCounts K) [] := by
  refine c_first_counts T (fun vs H Q E h => ?_) fun cdv A outer s H vs Q E hr h => ?_
  · obtain ⟨n, rfl, _⟩ := h
    rfl
  obtain ⟨n, rfl, hn, hQ⟩ := h
  refine ⟨_, (pss_cons (ps_set (i := 1) sc_first_counts.nd rfl (by first | exact Or.inl rfl | exact Or.inr rfl) (pe_lst (pa_cons pe_dnewK pa_nil)))
      (pss_cons (ps_for PassesOwn.never rfl (pi_range2 rfl (z_range T) (pa_cons pe_int (pa_cons (pe_op op_add (pv 0) pe_int) pa_nil))) (pg_name (i := 2) sc_first_counts.nd rfl (by first | exact Or.inl rfl | exact Or.inr rfl))
      (pss_cons (ps_par (i := 3) (j := 4) rfl sc_first_counts.nd rfl rfl (by decide) rfl rfl (pa_cons (pe_ix (r := rIxL K) ix_list (pv 1) (pe_un un_neg pe_int) (fun _ _ => rfl)) (pa_cons pe_dnewK pa_nil)) (by rfl))
      (pss_cons (ps_for PassesOwn.never rfl (pi_range3 rfl (z_range T) (pa_cons (pe_op op_sub pe_int (pe_op op_mod (pv 2) pe_int)) (pa_cons (pe_op op_add (pv 2) pe_int) (pa_cons pe_int pa_nil)))) (pg_name (i := 5) sc_first_counts.nd rfl (by first | exact Or.inl rfl | exact Or.inr rfl))
      (pss_cons (ps_set (i := 6) sc_first_counts.nd rfl (by first | exact Or.inl rfl | exact Or.inr rfl) (pe_ifExp (pt_cmpR op_gt (pv 5) pe_int (nomark _)) (pe_dget2 (hu_of hr) (pv 3) (pe_op op_sub (pv 5) pe_int) pe_int ⟨rfl, rfl, rfl, rfl⟩) (pe_callTy call_int1 (by rfl) (z_int T) (by decide +kernel) (pa_cons (pe_cmpR op_eq (pv 2) pe_int (nomark _)) pa_nil))))
      (pss_one (ps_dput (hu_of hr) (pv 4) (pv 5) (pe_op op_add (pv 6) (pe_dget2 (hu_of hr) (pv 3) (pe_op op_add (pv 5) pe_int) pe_int ⟨rfl, rfl, rfl, rfl⟩)) rfl))))
      (pss_one (ps_expr (pe_bm PySem.F.plainAttrs_list PySem.F.slot_list_append PySem.F.type_list_append mt_append (pv 1) (pa_cons (pv 4) pa_nil)))))))
      (pss_one (ps_ret (pv 1))))), ?_⟩
  refine fun p0 h0 => ⟨by show 1 ≤ sizeLine; decide, fun F hF => ?_⟩
  have sA := same_new (o := .dK []) h0
  have sB := same_new (o := .lst [.ref p0]) hF
  refine ⟨_, rfl, _, _, rfl, rfl, _, _, rfl, ⟨by decide, by decide, by omega, by omega⟩, ?_⟩
  rw [show ((n : Int) + 1 - 1).toNat = n by omega]
  refine for_it walk_range (fun i σ H' => ∃ (e2 e3 e4 e5 e6 : Option V) (ds : List Addr) (b : Addr), σ = [some (.int n), some (.ref F), e2, e3, e4, e5, e6] ∧ Same H H' ∧ H' F = some (.lst ((ds ++ [b]).map V.ref)) ∧ ds.length = i ∧ ∀ (j : Nat) d, (ds ++ [b])[j]? = some d → DI H' d (cL j))
    ⟨none, none, none, none, none, [], p0, rfl, sA.trans sB, upd_same, rfl, ?_⟩ (fun _ _ _ _ _ => True.intro) ?_ ?_
  · intro j d e
    cases j with
    | succ j => simp at e
    | zero =>
      cases e
      exact sB _ _ upd_same
  · rintro i x σ H1 H2 hi ⟨e2, e3, e4, e5, e6, ds, b, rfl, sm, hF1, hl, hd⟩ ⟨rfl, rfl⟩
    have hbD : DI H2 b (cL i) := hd i b (by rw [List.getElem?_append_right (by omega), hl, Nat.sub_self]; rfl)
    have em1 : atI ((ds ++ [b]).map V.ref) (-1) = some (.ref b) := by
      rw [List.map_append]
      exact atI_last _ _
    refine ⟨_, rfl, _, rfl, F, _, _, _, rfl, rfl, .inl (.inl hF1), em1, fun D hD => ?_⟩
    have eat : (1 : Int) + (i : Int) = ((i + 1 : Nat) : Int) := by omega
    have sD := same_new (o := .dK []) hD
    refine ⟨_, _, rfl, _, rfl, _, _, rfl, rfl, (by decide : (0 : Int) < 2), _, _, rfl, rfl, _, rfl, _, _, rfl, rfl, _, _, _, (i + 1 + 1) / 2, rfl, ?_, ?_⟩
    · have h := rg2 (i + 1) (by omega)
      rw [← eat] at h
      exact h
    refine for_it (walk_rangeC (n := (i + 1 + 1) / 2)) (fun k σ H' => ∃ (e5 e6 : Option V), σ = [some (.int n), some (.ref F), some (.int (1 + (i : Int))), some (.ref b), some (.ref D), e5, e6] ∧ Same H2 H' ∧ DI H' D (cLk (i + 1) k))
      ⟨e5, e6, rfl, sD, upd_same⟩ (fun _ _ _ _ _ => True.intro) ?_ ?_
    · rintro k x σ H3 H4 hk ⟨e5, e6, rfl, sm3, hD3⟩ ⟨rfl, hx⟩
      have hb3 : DI H4 b (cL i) := sm3 b _ hbD
      have isd : IsD H4 b := .inl ⟨_, .inl hb3⟩
      have ef : (2 : Int) - (1 + (i : Int)) % 2 + (k : Nat) * 2 = farAt (i + 1) k := by unfold farAt; rw [eat]
      generalize hf : farAt (i + 1) k = f at ef
      have hf0 : 0 < f ∧ (i = 0 → f = 1) := by
        rw [← ef]
        have : k < (i + 1 + 1) / 2 := hk
        omega
      have fin : ∀ z : Int, z = (if 1 < f then G i (f - 1) else if i = 0 then 1 else 0) → z + at0 (cL i) (f + 1) = G (i + 1) f := by
        intro z hz
        rw [getL_cL (by omega), hz]
        cases i with
        | zero =>
          rw [if_neg (by omega), if_pos rfl, hf0.2 rfl]
          decide
        | succ i =>
          rw [G_step]
          by_cases h1 : 1 < f
          · rw [if_pos h1]
          · rw [if_neg h1, if_neg (by omega), show f - 1 = 0 by omega, G_zero]
      obtain rfl : x = .int f := by
        rw [hx]
        show V.int _ = _
        rw [ef]
      have step : ∀ z : Int, z = G (i + 1) f → ∃ a H5, V.ref D = V.ref a ∧ DPut H4 a (.int f) (.int z) H5 ∧ (Same H2 H5 ∧ DI H5 D (cLk (i + 1) (k + 1))) := by
        intro z hz
        refine ⟨D, _, rfl, DPut.i hD3 f z rfl ?_, same_mut sm3 hD, ?_⟩
        · unfold cLk
          rw [List.length_map, List.length_range]
          omega
        · rw [putL_new (by rw [← hf]; exact cLk_keys), cLk_succ, hz, hf]
          exact upd_same
      refine ⟨_, rfl, _, _, rfl, rfl, _, rfl, ?_⟩
      by_cases h1 : 1 < f
      · rw [decide_eq_true h1]
        refine iteT ⟨_, rfl, b, rfl, isd, _, rfl, _, _, rfl, rfl, _, DGet.i hb3 _, ?_⟩
        rw [getD_int, getL_cL (by omega)]
        refine ⟨_, rfl, _, rfl, b, rfl, isd, _, rfl, _, _, rfl, rfl, _, DGet.i hb3 _, ?_⟩
        rw [getD_int]
        refine ⟨_, _, rfl, rfl, _, rfl, _, rfl, ?_⟩
        obtain ⟨a, H5, e, hp, s5, d5⟩ := step _ (fin _ (if_pos h1).symm)
        exact ⟨a, H5, e, hp, _, _, rfl, s5, d5⟩
      · rw [decide_eq_false h1]
        refine iteF ⟨_, rfl, rfl, .inr ⟨_, rfl, ?_⟩⟩
        refine ⟨_, rfl, _, rfl, b, rfl, isd, _, rfl, _, _, rfl, rfl, _, DGet.i hb3 _, ?_⟩
        rw [getD_int]
        refine ⟨_, _, rfl, rfl, _, rfl, _, rfl, ?_⟩
        obtain ⟨a, H5, e, hp, s5, d5⟩ := step _ (fin (if decide (V.int (1 + (i : Int)) = V.int 1) = true then 1 else 0) (by
          rw [if_neg h1]
          by_cases h0 : i = 0
          · rw [if_pos h0, h0]
            rfl
          · rw [if_neg h0, if_neg (by rw [decide_eq_true_iff]; intro z; have := V.int.inj z; omega)]))
        exact ⟨a, H5, e, hp, _, _, rfl, s5, d5⟩
    · rintro σ H3 ⟨e5, e6, rfl, sm3, hD3⟩
      have hF3 := sm3 F _ hF1
      have nFD : F ≠ D := fun z => by rw [z, hD] at hF1; nomatch hF1
      refine ⟨_, rfl, .inl ⟨rfl, _, .inl (.inl hF3)⟩, _, rfl, F, _, _, rfl, rfl, hF3, sz_of (by rw [List.length_map, List.length_append, hl]; show i + 1 ≤ 100000; omega), ?_⟩
      refine ⟨_, _, _, _, _, ds ++ [b], D, rfl, same_mut (sm.trans sm3) ?_, ?_, ?_, ?_⟩
      · exact Same.back sA hF
      · rw [upd_same, List.map_append, List.map_append, List.map_append]
        rfl
      · rw [List.length_append, hl]
        rfl
      · intro j d e
        have hj : H3 d = some (.dK (enc V.int (cL j))) := by
          by_cases c : j < i + 1
          · rw [List.getElem?_append_left (by rw [List.length_append, hl]; exact c)] at e
            exact sm3 d _ (hd j d e)
          · rw [List.getElem?_append_right (by rw [List.length_append, hl]; show i + 1 ≤ j; omega)] at e
            have hz : j - (ds ++ [b]).length = 0 := by
              cases q : j - (ds ++ [b]).length with
              | zero => rfl
              | succ z => rw [q] at e; simp at e
            rw [hz] at e
            have ej : j = i + 1 := by
              rw [List.length_append, hl] at hz
              have : j - (i + 1) = 0 := hz
              omega
            have ed : D = d := by simpa using e
            rw [← ed, ej]
            exact hD3
        have nd : d ≠ F := fun z => by rw [z, hF3] at hj; nomatch hj
        show upd H3 F _ d = _
        rw [upd_ne nd]
        exact hj
  · rintro σ H1 ⟨e2, e3, e4, e5, e6, ds, b, rfl, sm, hF1, hl, hd⟩
    exact ⟨_, rfl, hQ _ _ sm ⟨F, ds ++ [b], rfl, hF1, by rw [List.length_append, hl]; rfl, hd⟩⟩
theorem abs_mul {a b : Int} {x y : Nat} (ha : a.natAbs ≤ x) (hb : b.natAbs ≤ y) : (a * b).natAbs ≤ x * y := by
  rw [Int.natAbs_mul]
  exact Nat.mul_le_mul ha hb
theorem Ex.new {l : List Addr} {H : Hp} {p : Addr} {o : HO} (h : H p = none) : Ex l H (upd H p o) := Ex.of (same_new h)
theorem two_pow_le {k n : Nat} (h : k ≤ n) : (2 : Int) ^ k ≤ 2 ^ n := by
  have := Nat.pow_le_pow_right (n := 2) (by decide) h
  exact_mod_cast this
def spRowChg (K : PySem.W.Frag) : Sp := fun vs H Q _ => ∃ (x c : V) (place w : Int) (e last m : Nat), vs = [x, c, .int last] ∧ P3 K H x (place, (e : Int), w) ∧ CntV K m c H ∧ e ≤ m ∧ e ≤ last ∧ last ≤ 8 ∧ -1000000 ≤ w ∧ w ≤ 1000000 ∧
  RetV H Q fun v H' => ∃ (a : Addr) (xs : List V), v = .ref a ∧ H' a = some (.lst xs) ∧ RwL K H' xs (rcN place w last e e)
theorem ok_row_changes (T : Txt P K mg) : Cal P w K mg base 1 "row_changes" (spRowChg K) [] := by
  refine c_row_changes T (fun vs H Q E h => ?_) fun cdv A outer s H vs Q E hr h => ?_
  · obtain ⟨x, c, place, wt, e, last, m, rfl, _⟩ := h
    rfl
  obtain ⟨x, c, place, wt, e, last, m, rfl, ⟨xa, rfl, hx⟩, ⟨ca, ds, rfl, hca, hdl, hds⟩, hem, hel, hl8, hw1, hw2, hQ⟩ := h
  refine ⟨_, (pss_cons (ps_asg (pv 0) (pg_tup rfl (pgs_cons (pg_name (i := 3) sc_row_changes.nd rfl (by first | exact Or.inl rfl | exact Or.inr rfl)) (pgs_cons (pg_name (i := 4) sc_row_changes.nd rfl (by first | exact Or.inl rfl | exact Or.inr rfl)) (pgs_cons (pg_name (i := 5) sc_row_changes.nd rfl (by first | exact Or.inl rfl | exact Or.inr rfl)) pgs_nil)))))
      (pss_cons (ps_set (i := 6) sc_row_changes.nd rfl (by first | exact Or.inl rfl | exact Or.inr rfl) (pe_lst pa_nil))
      (pss_cons (ps_for PassesOwn.never rfl (pi_range1 rfl (z_range T) (pa_cons (pv 4) pa_nil)) (pg_name (i := 7) sc_row_changes.nd rfl (by first | exact Or.inl rfl | exact Or.inr rfl))
      (pss_cons (ps_set (i := 8) sc_row_changes.nd rfl (by first | exact Or.inl rfl | exact Or.inr rfl) (pe_op op_sub (pv 4) (pv 7)))
      (pss_one (ps_lock (ps_for PassesOwn.never rfl (pi_items (pe_ix (r := rIxL K) ix_list (pv 1) (pv 8) (fun _ _ => rfl))) (pg_tup rfl (pgs_cons (pg_name (i := 9) sc_row_changes.nd rfl (by first | exact Or.inl rfl | exact Or.inr rfl)) (pgs_cons (pg_name (i := 10) sc_row_changes.nd rfl (by first | exact Or.inl rfl | exact Or.inr rfl)) pgs_nil)))
      (pss_cons (ps_set (i := 11) sc_row_changes.nd rfl (by first | exact Or.inl rfl | exact Or.inr rfl) (pe_op op_shl (pe_op op_mul (pv 5) (pv 10)) (pe_op op_sub (pv 2) (pv 8))))
      (pss_one (ps_expr (pe_bm PySem.F.plainAttrs_list PySem.F.slot_list_extend PySem.F.type_list_extend mt_extend (pv 6) (pa_cons (pe_lst (pa_cons (pe_tup (pa_cons (pe_op op_sub (pv 3) (pv 9)) (pa_cons (pv 7) (pa_cons (pv 11) pa_nil)))) (pa_cons (pe_tup (pa_cons (pe_op op_add (pv 3) (pv 9)) (pa_cons (pv 7) (pa_cons (pe_un un_neg (pv 11)) pa_nil)))) pa_nil))) pa_nil))))))))))
      (pss_one (ps_ret (pv 6)))))), ?_⟩
  have hx : SqT K H xa [.int place, .int e, .int wt] := hx
  refine ⟨_, rfl, xa, _, rfl, hx, rfl, _, _, rfl, _, _, rfl, _, _, rfl, rfl, ?_⟩
  refine ⟨Nat.zero_le _, fun F hF => ⟨_, rfl, _, rfl, by omega, by omega, ?_⟩⟩
  rw [Int.toNat_natCast]
  refine for_it walk_range (fun t σ H' => ∃ (e7 e8 e9 e10 e11 : Option V) (acc : List V), σ = [some (.ref xa), some (.ref ca), some (.int last), some (.int place), some (.int e), some (.int wt), some (.ref F), e7, e8, e9, e10, e11] ∧ Same H H' ∧ H' F = some (.lst acc) ∧ RwL K H' acc (rcN place wt last e t) ∧ acc.length ≤ 10 * t)
    ⟨none, none, none, none, none, [], rfl, same_new hF, upd_same, .nil, Nat.le_refl _⟩ (fun _ _ _ _ _ => True.intro) ?_ ?_
  · rintro t x σ H1 H2 ht ⟨e7, e8, e9, e10, e11, acc, rfl, sm, hF1, hacc, hlen⟩ ⟨rfl, hxv⟩
    obtain rfl : x = .int t := by rw [hxv]; show V.int (0 + (t : Int)) = _; rw [Int.zero_add]
    have hd : ds[e - t]? = some (ds[e - t]'(by omega)) := List.getElem?_eq_getElem (by omega)
    generalize ds[e - t]'(by omega) = d at hd
    have hdI : DI H2 d (cL (e - t)) := sm d _ (hds _ d hd)
    have nFd : F ≠ d := fun z => by rw [DI, ← z, hF1] at hdI; nomatch hdI
    have eah : (e : Int) - (t : Int) = ((e - t : Nat) : Int) := by omega
    have hF0 : H F = none := hF
    have nFa : F ≠ ca := fun z => by rw [← z, hF0] at hca; nomatch hca
    have hca2 := sm ca _ hca
    have ndc : ca ≠ d := fun z => by rw [DI, ← z, hca2] at hdI; nomatch hdI
    refine ⟨_, rfl, _, rfl, _, _, rfl, rfl, ?_⟩
    refine ⟨d, _, hdI, True.intro, fun od => ?_⟩
    have imL : Im H2 (upd H2 d (.frz od (.dK (enc V.int (cL (e - t)))))) := Im.mut (by rw [hdI]; trivial)
    have exL : Ex [d, F] H2 (upd H2 d (.frz od (.dK (enc V.int (cL (e - t)))))) := Ex.mut (by simp)
    have hcaL : SqL K (upd H2 d (.frz od (.dK (enc V.int (cL (e - t)))))) ca (ds.map V.ref) := .inl (.inl (by rw [upd_ne ndc]; exact hca2))
    refine ⟨_, rfl, _, rfl, ca, _, _, _, rfl, rfl, hcaL, by rw [eah]; exact atI_nat (by rw [List.getElem?_map, hd]; rfl), d, od, enc V.int (cL (e - t)), rfl, upd_same, ?_⟩
    have hFL : upd H2 d (.frz od (.dK (enc V.int (cL (e - t))))) F = some (.lst acc) := by rw [upd_ne nFd]; exact hF1
    have hdL : upd H2 d (.frz od (.dK (enc V.int (cL (e - t))))) d = some (.frz od (.dK (enc V.int (cL (e - t))))) := upd_same
    generalize upd H2 d (.frz od (.dK (enc V.int (cL (e - t))))) = HL at imL exL hcaL hFL hdL
    refine for_it walk_items (fun j σ H' => ∃ (e9 e10 e11 : Option V) (ac2 : List V), σ = [some (.ref xa), some (.ref ca), some (.int last), some (.int place), some (.int e), some (.int wt), some (.ref F), some (.int t), some (.int ((e : Int) - (t : Int))), e9, e10, e11] ∧ Ex [F] HL H' ∧ H' F = some (.lst ac2) ∧ RwL K H' ac2 (rcN place wt last e t ++ ((cL (e - t)).take j).flatMap (rcOne place wt last t (e - t))) ∧ ac2.length ≤ 10 * t + 2 * j)
      ⟨e9, e10, e11, acc, rfl, Ex.refl _ _, hFL, ?_, hlen⟩ (fun j σ H' _ ⟨_, _, _, _, _, ex, _⟩ => ex d _ ?_ hdL) ?_ ?_
    · rw [List.take_zero, List.flatMap_nil, List.append_nil]
      exact hacc.im imL
    · rw [List.mem_singleton]; exact fun z => nFd z.symm
    · rintro j x σ H3 H4 hj ⟨e9, e10, e11, ac2, rfl, ex, hF3, hac2, hl2⟩ ⟨U, x1, y1, rfl, hU, rfl, ex1, ey1⟩
      obtain ⟨p, hp, rfl, rfl⟩ := enc_at ex1 ey1
      have hjc : j < (e - t + 1) / 2 := by rw [enc_len, cL_len] at hj; exact hj
      have hcm := cL_mem (List.mem_of_getElem? hp)
      have hgl := G_le (e - t) p.1
      have hp8 : (2 : Int) ^ (e - t) ≤ 2 ^ 8 := two_pow_le (by omega)
      have hp2 : -256 ≤ p.2 ∧ p.2 ≤ 256 := by
        rw [hcm.1]
        have : (2 : Int) ^ 8 = 256 := by decide
        omega
      have sU := same_new (o := .tup [.int p.1, .int p.2]) hU
      refine ⟨U, _, rfl, .inl (.inl upd_same), rfl, _, _, rfl, _, _, rfl, rfl, ?_⟩
      refine ⟨_, rfl, _, rfl, _, _, rfl, rfl, ?_, _, rfl, _, rfl, _, _, rfl, rfl, _, _, rfl, rfl, ?_, ?_⟩
      · exact .inr ⟨by omega, by omega⟩
      · have hb : (wt * p.2).natAbs ≤ 1000000 * 256 := abs_mul (by omega) (by omega)
        refine ⟨by omega, by omega, Nat.lt_of_le_of_lt hb (by decide)⟩
      have ev : wt * p.2 * 2 ^ ((last : Int) - ((e : Int) - (t : Int))).toNat = wt * p.2 * 2 ^ (last - (e - t)) := by
        rw [show ((last : Int) - ((e : Int) - (t : Int))).toNat = last - (e - t) by omega]
      have hFU : upd H3 U (.tup [.int p.1, .int p.2]) F = some (.lst ac2) := sU F _ hF3
      refine ⟨_, rfl, .inl ⟨rfl, _, .inl (.inl hFU)⟩, _, rfl, _, rfl, _, _, rfl, rfl, _, rfl, _, rfl, by show 3 ≤ sizeLine; decide, fun p1 hp1 => ?_⟩
      refine ⟨_, rfl, _, rfl, _, _, rfl, rfl, _, rfl, _, rfl, _, rfl, by show 3 ≤ sizeLine; decide, fun p2 hp2 => ⟨by show 2 ≤ sizeLine; decide, fun q hq => ?_⟩⟩
      have z1 := same_new (o := .tup [.int (place - p.1), .int (t : Nat), .int (wt * p.2 * 2 ^ ((last : Int) - ((e : Int) - (t : Int))).toNat)]) hp1
      have z2 := same_new (o := .tup [.int (place + p.1), .int (t : Nat), .int (-(wt * p.2 * 2 ^ ((last : Int) - ((e : Int) - (t : Int))).toNat))]) hp2
      have z3 := same_new (o := .lst [.ref p1, .ref p2]) hq
      have zz := sU.trans (z1.trans (z2.trans z3))
      refine ⟨F, q, ac2, _, rfl, rfl, zz F _ hF3, upd_same, Nat.le_of_lt (sz_of (by show ac2.length + 2 ≤ 100000; omega)), ?_⟩
      refine ⟨_, _, _, _, rfl, (ex.trans (Ex.of zz)).trans (Ex.mut (by simp)), upd_same, ?_, by rw [List.length_append]; show ac2.length + 2 ≤ _; omega⟩
      have imF := Im.mut (H := upd (upd (upd (upd H3 U (.tup [.int p.1, .int p.2])) p1 (.tup [.int (place - p.1), .int (t : Nat), .int (wt * p.2 * 2 ^ ((last : Int) - ((e : Int) - (t : Int))).toNat)])) p2 (.tup [.int (place + p.1), .int (t : Nat), .int (-(wt * p.2 * 2 ^ ((last : Int) - ((e : Int) - (t : Int))).toNat))])) q (.lst [.ref p1, .ref p2])) (D := F) (o := .lst (ac2 ++ [.ref p1, .ref p2])) (by rw [zz F _ hF3]; trivial)
      rw [take_succ_at hp, List.flatMap_append, ← List.append_assoc, List.flatMap_cons, List.flatMap_nil, List.append_nil]
      have er : rcOne place wt last t (e - t) p = [(place - p.1, (t : Int), wt * p.2 * 2 ^ ((last : Int) - ((e : Int) - (t : Int))).toNat), (place + p.1, (t : Int), -(wt * p.2 * 2 ^ ((last : Int) - ((e : Int) - (t : Int))).toNat))] := by
        unfold rcOne
        rw [ev]
      rw [er]
      refine paired_app (hac2.im ((Im.of zz).trans imF)) ?_
      refine .cons ⟨p1, rfl, imF.sqt (Same.sqt (z2.trans z3) (.inl (.inl upd_same)))⟩ (.cons ⟨p2, rfl, imF.sqt (Same.sqt z3 (.inl (.inl upd_same)))⟩ .nil)
    · rintro σ H3 ⟨e9, e10, e11, ac2, rfl, ex, hF3, hac2, hl2⟩
      have hd3 : H3 d = some (.frz od (.dK (enc V.int (cL (e - t))))) := ex d _ (by rw [List.mem_singleton]; exact fun z => nFd z.symm) hdL
      refine ⟨hd3, ?_⟩
      have e1 : Ex [d, F] H2 H3 := exL.trans ex.more
      have e2 : Ex [F] H2 (upd H3 d (.dK (enc V.int (cL (e - t))))) := Ex.unlock hdI e1
      have im3 : Im H3 (upd H3 d (.dK (enc V.int (cL (e - t))))) := Im.unl hd3
      refine ⟨_, _, _, _, _, ac2, rfl, Ex.same sm (fun z hz => by rw [List.mem_singleton.mp hz]; exact hF0) e2, by rw [upd_ne nFd]; exact hF3, ?_, ?_⟩
      · rw [rcN_succ]
        unfold rcTick
        rw [List.take_of_length_le (by rw [enc_len]; exact Nat.le_refl _)] at hac2
        exact hac2.im im3
      · rw [enc_len, cL_len] at hl2
        omega
  · rintro σ H1 ⟨e7, e8, e9, e10, e11, acc, rfl, sm, hF1, hacc, hlen⟩
    exact ⟨_, rfl, hQ _ _ sm ⟨F, acc, rfl, hF1, hacc⟩⟩
/-! dicts of dicts -/
def Nd (H H' : Hp) : Prop := ∀ b u, (∀ m, u ≠ HO.dK m) → H b = some u → H' b = some u
theorem Nd.of {H H' : Hp} (e : Same H H') : Nd H H' := fun b u _ h => e b u h
theorem Nd.refl (H : Hp) : Nd H H := fun _ _ _ h => h
theorem Nd.trans {H H1 H' : Hp} (a : Nd H H1) (b : Nd H1 H') : Nd H H' := fun c u n h => b c u n (a c u n h)
theorem Nd.mut {H : Hp} {d : Addr} {m : List (Key × V)} {o : HO} (h : H d = some (.dK m)) : Nd H (upd H d o) := fun b u n e => by
  by_cases c : b = d
  · rw [c, h] at e
    exact absurd (Option.some.inj e).symm (n m)
  · rw [upd_ne c]
    exact e
theorem Nd.im {H H' : Hp} (e : Nd H H') : Im H H' := ⟨fun b xs h => e b _ (fun m z => by nomatch z) h, fun b o xs h => e b _ (fun m z => by nomatch z) h⟩
def OwnOk (H : Hp) (a : Addr) (g : Int → Int) : Prop := ∃ O, H a = some (.dK (enc V.int O)) ∧ (keysL O).Nodup ∧ (∀ t ∈ keysL O, 0 ≤ t ∧ t < 8) ∧ ∀ t, at0 O t = g t
structure SumS (H0 H : Hp) (S : Addr) (L : List (Int × Addr)) (g : Int → Int → Int) : Prop where
  at_ : H S = some (.dK (enc V.ref L))
  nd : (keysL L).Nodup
  span : ∀ y ∈ keysL L, -30 ≤ y ∧ y < 30
  own : ∀ y a, getL L y = some a → H0 a = none ∧ a ≠ S ∧ OwnOk H a (g y)
  out : ∀ y, y ∉ keysL L → ∀ t, g y t = 0
  inj : ∀ y y' a, getL L y = some a → getL L y' = some a → y = y'
theorem SumS.len {H0 H : Hp} {S : Addr} {L : List (Int × Addr)} {g : Int → Int → Int} (h : SumS H0 H S L g) : L.length ≤ 60 := by
  have := len_span (lo := -30) (n := 60) h.nd fun x hx => ⟨(h.span x hx).1, by have := (h.span x hx).2; omega⟩
  unfold keysL at this
  rw [List.length_map] at this
  exact this
theorem SumS.keep {H0 H H' : Hp} {S : Addr} {L : List (Int × Addr)} {g : Int → Int → Int} (h : SumS H0 H S L g) (e : Same H H') : SumS H0 H' S L g :=
  ⟨e _ _ h.at_, h.nd, h.span, fun y a q => let ⟨a1, a2, O, b1, b2⟩ := h.own y a q; ⟨a1, a2, O, e _ _ b1, b2⟩, h.out, h.inj⟩
theorem SumS.put {H0 H H' : Hp} {S q : Addr} {L : List (Int × Addr)} {g : Int → Int → Int} {O : List (Int × Int)} {y t v : Int} (h : SumS H0 H S L g) (hy : -30 ≤ y ∧ y < 30) (ht : 0 ≤ t ∧ t < 8) (hq0 : H0 q = none) (hqS : q ≠ S)
    (hq : H q = some (.dK (enc V.int O))) (hn : (keysL O).Nodup) (hs : ∀ t ∈ keysL O, 0 ≤ t ∧ t < 8) (hO : ∀ t, at0 O t = g y t) (hi : ∀ y', getL L y' = some q → y' = y) (hly : ∀ a, getL L y = some a → a = q)
    (hS' : H' S = some (.dK (enc V.ref (putL L y q)))) (hq' : H' q = some (.dK (enc V.int (putL O t (at0 O t + v))))) (e : Ex [q, S] H H') (g' : Int → Int → Int) (hg : ∀ y' t', g' y' t' = g y' t' + if y = y' ∧ t = t' then v else 0) : SumS H0 H' S (putL L y q) g' := by
  refine ⟨hS', nd_put h.nd, fun z hz => ?_, fun z a hz => ?_, fun z hz t' => ?_, fun z z' a hz hz' => ?_⟩
  · rcases mem_put.mp hz with rfl | hz
    · exact hy
    · exact h.span z hz
  · rw [get_put] at hz
    by_cases c : z = y
    · rw [if_pos c] at hz
      cases hz
      refine ⟨hq0, hqS, _, hq', nd_put hn, fun t' ht' => ?_, fun t' => ?_⟩
      · rcases mem_put.mp ht' with rfl | ht'
        · exact ht
        · exact hs t' ht'
      · rw [at0_put, hg, c, hO, hO]
        by_cases c2 : t' = t
        · rw [if_pos c2, if_pos ⟨rfl, c2.symm⟩, c2]
        · rw [if_neg c2, if_neg (fun z => c2 z.2.symm)]
          omega
    · rw [if_neg c] at hz
      obtain ⟨a1, a2, O', b1, b2, b3, b4⟩ := h.own z a hz
      have na : a ≠ q := fun w => c (hi z (by rw [← w]; exact hz))
      refine ⟨a1, a2, O', e a _ (by simp [na, a2]) b1, b2, b3, fun t' => ?_⟩
      rw [b4, hg, if_neg (fun w => c w.1.symm)]
      omega
  · have n2 : z ≠ y ∧ z ∉ keysL L := ⟨fun w => hz (mem_put.mpr (.inl w)), fun w => hz (mem_put.mpr (.inr w))⟩
    rw [hg, h.out z n2.2, if_neg (fun w => n2.1 w.1.symm)]
    rfl
  · rw [get_put] at hz hz'
    by_cases c : z = y
    · rw [if_pos c] at hz
      cases hz
      by_cases c' : z' = y
      · exact c.trans c'.symm
      · rw [if_neg c'] at hz'
        exact absurd (hi z' hz') c'
    · rw [if_neg c] at hz
      by_cases c' : z' = y
      · rw [if_pos c'] at hz'
        cases hz'
        exact absurd (hi z hz) c
      · rw [if_neg c'] at hz'
        exact h.inj z z' a hz hz'
/-- the sums by spot -/
def ChgV (H0 : Hp) (last : Nat) (rs : List (Int × Int × Int)) (v : V) (H : Hp) : Prop := ∃ (F : Addr) (L : List (Int × Addr)), v = .ref F ∧ H0 F = none ∧ H F = some (.dK (enc V.ref L)) ∧ (keysL L).Nodup ∧ (∀ y ∈ keysL L, -30 ≤ y ∧ y < 30) ∧ (∀ y a, getL L y = some a → a ≠ F ∧ OwnOk H a (sC (rcAll last rs) y)) ∧ ∀ y, y ∉ keysL L → ∀ t, sC (rcAll last rs) y t = 0
/-- a row of this law's looks -/
def rowIn (last : Nat) (r : Int × Int × Int) : Prop := -6 ≤ r.1 ∧ r.1 ≤ 7 ∧ 0 ≤ r.2.1 ∧ r.2.1 ≤ last ∧ -1000000 ≤ r.2.2 ∧ r.2.2 ≤ 1000000
def spAllChg (K : PySem.W.Frag) : Sp := fun vs H Q _ => ∃ (x : V) (rs : List (Int × Int × Int)) (last : Nat) (c : Int), vs = [x] ∧ IsLook K H x rs last c ∧ last ≤ 8 ∧ (∀ r ∈ rs, rowIn last r) ∧ RetV H Q (ChgV H last rs)
theorem ok_all_changes (T : Txt P K mg) : Cal P w K mg base 2 "all_changes" (spAllChg K) [] := by
  have h_first_counts := ok_first_counts (P := P) (w := w) (base := base) T
  have h_row_changes := ok_row_changes (P := P) (w := w) (base := base) T
  refine c_all_changes T (fun vs H Q E h => ?_) fun cdv A outer s H vs Q E hr h => ?_
  · obtain ⟨x, rs, last, c, rfl, _⟩ := h
    rfl
  obtain ⟨x, rs, last, c, rfl, hlk, hl8, hrs, hQ⟩ := h
  refine ⟨_, (pss_cons (ps_asg (pe_tup (pa_cons (pe_c h_first_counts hr (by decide) (by rfl) (pa_cons (pe_fld (pv 0) rfl) pa_nil)) (pa_cons pe_dnewK pa_nil))) (pg_tup rfl (pgs_cons (pg_name (i := 1) sc_all_changes.nd rfl (by first | exact Or.inl rfl | exact Or.inr rfl)) (pgs_cons (pg_name (i := 2) sc_all_changes.nd rfl (by first | exact Or.inl rfl | exact Or.inr rfl)) pgs_nil))))
      (pss_cons (ps_for PassesOwn.never rfl (pi_tup (pe_fld (pv 0) rfl)) (pg_name (i := 3) sc_all_changes.nd rfl (by first | exact Or.inl rfl | exact Or.inr rfl))
      (pss_one (ps_for PassesOwn.never rfl (pi_list (pe_c h_row_changes hr (by decide) (by rfl) (pa_cons (pv 3) (pa_cons (pv 1) (pa_cons (pe_fld (pv 0) rfl) pa_nil))))) (pg_tup rfl (pgs_cons (pg_name (i := 4) sc_all_changes.nd rfl (by first | exact Or.inl rfl | exact Or.inr rfl)) (pgs_cons (pg_name (i := 5) sc_all_changes.nd rfl (by first | exact Or.inl rfl | exact Or.inr rfl)) (pgs_cons (pg_name (i := 6) sc_all_changes.nd rfl (by first | exact Or.inl rfl | exact Or.inr rfl)) pgs_nil))))
      (pss_cons (ps_set (i := 7) sc_all_changes.nd rfl (by first | exact Or.inl rfl | exact Or.inr rfl) (pe_dget2 (hu_of hr) (pv 2) (pv 4) pe_dnewK ⟨rfl, rfl, rfl, rfl⟩))
      (pss_cons (ps_dput (hu_of hr) (pv 7) (pv 5) (pe_op op_add (pe_dget2 (hu_of hr) (pv 7) (pv 5) pe_int ⟨rfl, rfl, rfl, rfl⟩) (pv 6)) rfl)
      (pss_one (ps_dput (hu_of hr) (pv 2) (pv 4) (pv 7) rfl)))))))
      (pss_cons (ps_set (i := 8) sc_all_changes.nd rfl (by first | exact Or.inl rfl | exact Or.inr rfl) pe_dnewK)
      (pss_cons (ps_for PassesOwn.never rfl (pi_list (pe_callB (cr_sDK rfl) (by rfl) (z_sorted T) (by decide +kernel) (pa_cons (pv 2) pa_nil))) (pg_name (i := 4) sc_all_changes.nd rfl (by first | exact Or.inl rfl | exact Or.inr rfl))
      (pss_cons (ps_setDc (i := 7) (own := [("tick", 5)]) (g := (gName 5)) rfl sc_all_changes.nd rfl rfl (swd_true rfl rfl rfl (by decide +kernel)) (pi_list (pe_callB (cr_sDK rfl) (by rfl) (z_sorted T) (by decide +kernel) (pa_cons (pe_dget (hu_of hr) (pv 2) (pv 4) (fun _ _ => rfl)) pa_nil))) (blkOk_by (own := [("tick", 5)]) (N := n_all_changes) (sc := defScope s_all_changes) (by decide +kernel)) (fun _ _ _ _ _ => (pg_name (i := 5) sc_all_changes.nd rfl (by first | exact Or.inl rfl | exact Or.inr rfl))) (fun _ _ _ _ _ => (pts_one (pt_cmpR op_ne (pe_dget (hu_of hr) (pe_dget (hu_of hr) (pv 2) (pv 4) (fun _ _ => rfl)) (pv 5) (fun _ _ => rfl)) pe_int (nomark _)))) (fun _ _ _ _ _ => (pv 5)) (fun _ _ _ _ _ => (pe_dget (hu_of hr) (pe_dget (hu_of hr) (pv 2) (pv 4) (fun _ _ => rfl)) (pv 5) (fun _ _ => rfl))))
      (pss_one (ps_if (pt_cmpR (op_neD0 (Nat.lt_of_succ_lt (hu_of hr))) (pv 7) pe_dnewK (nomark _)) (pss_one (ps_dput (hu_of hr) (pv 8) (pv 4) (pv 7) rfl)) pss_nil))))
      (pss_one (ps_ret (pv 8))))))), ?_⟩
  obtain ⟨lp, ldx, lfs, lt, lts, rfl, hlp, fl1, fl2, fl3, hlt, hlr⟩ := hlk
  refine ⟨_, rfl, lp, _, ldx, lfs, _, rfl, hlp, cl_Look T, no_Look_last T, fl2, last, rfl, hl8, fun cv H1 s1 hcv => ?_⟩
  refine fun S hS => ⟨by show 2 ≤ sizeLine; decide, fun tp htp => ?_⟩
  have sS := same_new (o := .dK []) hS
  have sT := same_new (o := .tup [cv, .ref S]) htp
  refine ⟨tp, _, rfl, .inl (.inl upd_same), rfl, _, _, rfl, _, _, rfl, rfl, ?_⟩
  have s0 := s1.trans (sS.trans sT)
  obtain ⟨ca, ds, rfl, hca, hdl, hds⟩ := hcv
  have hS0 : H1 S = none := hS
  generalize hH2 : upd (upd H1 S (.dK [])) tp (.tup [.ref ca, .ref S]) = H2 at sT s0
  have hS2 : H2 S = some (.dK (enc V.ref [])) := by rw [← hH2]; rw [hH2]; exact sT _ _ upd_same
  have sb := sS.trans sT
  have hlp2 := (s1.trans sb) lp _ hlp
  refine ⟨_, rfl, lp, _, ldx, lfs, _, rfl, hlp2, cl_Look T, no_Look_rows T, fl1, lt, rfl, ⟨lts, Same.sqt s0 hlt⟩, for_it walk_tup (fun i σ H' => ∃ (e3 e4 e5 e6 e7 e8 : Option V) (L : List (Int × Addr)), σ = [some (.ref lp), some (.ref ca), some (.ref S), e3, e4, e5, e6, e7, e8] ∧ Same H1 H' ∧ SumS H1 H' S L (sC (rcAll last (rs.take i))))
    ⟨none, none, none, none, none, none, [], rfl, sb, ⟨hS2, List.nodup_nil, fun y h => (nomatch h), fun y a h => (nomatch h), fun y h t => rfl, fun y y' a h => (nomatch h)⟩⟩ (fun i σ H' _ ⟨_, _, _, _, _, _, _, _, e, _⟩ => Same.sqt (s1.trans e) hlt) ?_ ?_⟩
  · rintro i x σ H3 H4 hi ⟨e3, e4, e5, e6, e7, e8, L, rfl, sm, hsum⟩ ⟨rfl, hx⟩
    obtain ⟨r, hr1, hr2⟩ := paired_at hlr hx
    have hin := hrs r (List.mem_of_getElem? hr1)
    obtain ⟨i1, i2, i3, i4, i5, i6⟩ := hin
    have sm0 := s1.trans sm
    refine ⟨_, rfl, _, rfl, _, rfl, lp, _, ldx, lfs, _, rfl, sm0 lp _ hlp, cl_Look T, no_Look_last T, fl2, ?_⟩
    have er : rcAll last (rs.take (i + 1)) = rcAll last (rs.take i) ++ rcRow last r := by
      unfold rcAll
      rw [take_succ_at hr1, List.flatMap_append, List.flatMap_cons, List.flatMap_nil, List.append_nil]
    have et : ((r.2.1.toNat : Nat) : Int) = r.2.1 := by omega
    refine ⟨x, .ref ca, r.1, r.2.2, r.2.1.toNat, last, last, rfl, by rw [et]; exact hr2.im (Im.of sm0), ⟨ca, ds, rfl, sm _ _ hca, hdl, fun j d h => sm _ _ (hds j d h)⟩, by omega, by omega, hl8, i5, i6, ?_⟩
    rintro v H5 s5 ⟨a, xs, rfl, ha, hxs⟩
    have hsum5 := hsum.keep s5
    refine ⟨a, rfl, ⟨xs, .inl (.inl ha)⟩, for_it walk_list (fun j σ H' => ∃ (e4 e5 e6 e7 e8 : Option V) (L : List (Int × Addr)), σ = [some (.ref lp), some (.ref ca), some (.ref S), some x, e4, e5, e6, e7, e8] ∧ Same H1 H' ∧ Nd H5 H' ∧ SumS H1 H' S L (sC (rcAll last (rs.take i) ++ (rcRow last r).take j)))
      ⟨e4, e5, e6, e7, e8, L, rfl, sm.trans s5, Nd.refl _, by rw [List.take_zero, List.append_nil]; exact hsum5⟩ (fun j σ H' _ ⟨_, _, _, _, _, _, _, _, e, _⟩ => .inl (.inl (e a _ (fun m z => by nomatch z) ha))) ?_ ?_⟩
    · rintro j x2 σ H6 H7 hj ⟨e4, e5, e6, e7, e8, L, rfl, sm6, nd6, hsum6⟩ ⟨rfl, hx2⟩
      obtain ⟨q3, hq3, a2, rfl, hP3⟩ := paired_at hxs hx2
      have hP3' := nd6.im.sqt hP3
      have hbd := rcRow_in (List.mem_of_getElem? hq3)
      obtain ⟨y, t, v⟩ := q3
      refine ⟨a2, _, rfl, hP3', rfl, _, _, rfl, _, _, rfl, _, _, rfl, rfl, ?_⟩
      refine ⟨_, rfl, S, rfl, .inl ⟨_, .inl hsum6.at_⟩, _, rfl, fun E hE => ⟨_, DGet.i (Same.at (same_new hE) hsum6.at_) y, ?_⟩⟩
      have sE := same_new (o := .dK []) hE
      have hE0 : H1 E = none := Same.back sm6 hE
      have hsum7 := hsum6.keep sE
      have nES : E ≠ S := fun z => by rw [z, hsum6.at_] at hE; nomatch hE
      have hq : ∃ q O, ((getL L y).map V.ref).getD (.ref E) = .ref q ∧ H1 q = none ∧ q ≠ S ∧ upd H7 E (.dK []) q = some (.dK (enc V.int O)) ∧ (keysL O).Nodup ∧ (∀ t ∈ keysL O, 0 ≤ t ∧ t < 8) ∧ (∀ t, at0 O t = sC (rcAll last (rs.take i) ++ (rcRow last r).take j) y t) ∧ (∀ y', getL L y' = some q → y' = y) ∧ ∀ a, getL L y = some a → a = q := by
        cases hL : getL L y with
        | none =>
          refine ⟨E, [], rfl, hE0, nES, upd_same, List.nodup_nil, fun t h => (nomatch h), fun t => ?_, fun y' h => ?_, fun a h => (nomatch h)⟩
          · rw [hsum6.out y (getL_none.mp hL)]
            rfl
          · obtain ⟨_, _, O', b1, _⟩ := hsum6.own y' E h
            rw [b1] at hE
            nomatch hE
        | some a3 =>
          obtain ⟨b1, b2, O, b3, b4, b5, b6⟩ := hsum7.own y a3 hL
          exact ⟨a3, O, rfl, b1, b2, b3, b4, b5, b6, fun y' h => hsum6.inj y' y a3 h hL, fun a h => (Option.some.inj h).symm⟩
      obtain ⟨q, O, eq, c1, c2, c3, c4, c5, c6, c7, c8⟩ := hq
      rw [eq]
      refine ⟨_, rfl, q, rfl, .inl ⟨_, .inl c3⟩, _, rfl, _, DGet.i c3 t, ?_⟩
      rw [getD_int]
      have hOl : O.length ≤ 8 := by
        have := len_span (lo := 0) (n := 8) c4 fun x hx => ⟨(c5 x hx).1, by have := (c5 x hx).2; omega⟩
        unfold keysL at this
        rw [List.length_map] at this
        exact this
      refine ⟨_, rfl, _, _, rfl, rfl, _, rfl, _, rfl, q, _, rfl, DPut.i c3 t (at0 O t + v) rfl (by omega), ?_⟩
      have hS8 : upd (upd H7 E (.dK [])) q (.dK (enc V.int (putL O t (at0 O t + v)))) S = some (.dK (enc V.ref L)) := by
        rw [upd_ne (fun z => c2 z.symm)]
        exact hsum7.at_
      have hLl := hsum6.len
      refine ⟨_, rfl, _, rfl, _, rfl, S, _, rfl, DPut.i hS8 y q rfl (by omega), ?_⟩
      refine ⟨_, _, _, _, _, putL L y q, rfl, same_mut (same_mut (sm6.trans sE) c1) hS0, ?_, ?_⟩
      · exact (nd6.trans (Nd.of sE)).trans ((Nd.mut c3).trans (Nd.mut hS8))
      · refine hsum7.put (y := y) (t := t) (v := v) ⟨?_, ?_⟩ ⟨?_, ?_⟩ c1 c2 c3 c4 c5 c6 c7 c8 upd_same (by rw [upd_ne c2]; exact upd_same) ?_ _ ?_
        · have := hbd.1; simp only at this; omega
        · have := hbd.2.1; simp only at this; omega
        · exact hbd.2.2.1
        · have := hbd.2.2.2; simp only at this; omega
        · exact (Ex.mut (by simp)).trans (Ex.mut (by simp))
        · intro y' t'
          rw [take_succ_at (xs := rcRow last r) hq3, ← List.append_assoc, sC_app, sC_one]
    · rintro σ H6 ⟨e4, e5, e6, e7, e8, L, rfl, sm6, nd6, hsum6⟩
      refine ⟨_, _, _, _, _, _, L, rfl, sm6, ?_⟩
      rw [er]
      rw [Paired.length hxs, show (rcN r.1 r.2.2 last r.2.1.toNat r.2.1.toNat) = rcRow last r from rfl, List.take_length] at hsum6
      exact hsum6
  · rintro σ H3 ⟨e3, e4, e5, e6, e7, e8, L, rfl, sm, hsum⟩
    rw [Paired.length hlr, List.take_length] at hsum
    refine fun F hF => ⟨_, rfl, Addr, S, V.ref, L, rfl, (hsum.keep (same_new hF)).at_, Nat.lt_of_le_of_lt hsum.len (by decide), fun ks p hperm hp => ?_⟩
    have sF := same_new (o := .dK []) hF
    have sp := same_new (o := .lst (ks.map V.int)) hp
    have hsumB := hsum.keep (sF.trans sp)
    have hFB : upd (upd H3 F (.dK [])) p (.lst (ks.map V.int)) F = some (.dK (enc V.ref [])) := sp _ _ upd_same
    have hpB : upd (upd H3 F (.dK [])) p (.lst (ks.map V.int)) p = some (.lst (ks.map V.int)) := upd_same
    have nSF : S ≠ F := fun z => by rw [← z, hsum.at_] at hF; nomatch hF
    have npF : p ≠ F := fun z => by rw [z, upd_same] at hp; nomatch hp
    have hF3 := hF
    generalize upd (upd H3 F (.dK [])) p (.lst (ks.map V.int)) = HB at sp hsumB hFB hpB
    have smB := sm.trans (sF.trans sp)
    have ndk : ks.Nodup := hperm.nodup_iff.mpr hsum.nd
    refine ⟨p, rfl, ⟨_, .inl (.inl hpB)⟩, for_it walk_list (fun i σ H' => ∃ (e4 e5 e6 e7 : Option V) (L' : List (Int × Addr)), σ = [some (.ref lp), some (.ref ca), some (.ref S), e3, e4, e5, e6, e7, some (.ref F)] ∧ Ex [F] HB H' ∧ H' F = some (.dK (enc V.ref L')) ∧ (keysL L').Nodup ∧ (∀ y ∈ keysL L', y ∈ ks.take i) ∧ (∀ y a, getL L' y = some a → a ≠ F ∧ OwnOk H' a (sC (rcAll last rs) y)) ∧ ∀ y ∈ ks.take i, y ∉ keysL L' → ∀ t, sC (rcAll last rs) y t = 0)
      ⟨e4, e5, e6, e7, [], rfl, Ex.refl _ _, hFB, List.nodup_nil, fun y h => (nomatch h), fun y a h => (nomatch h), fun y h => (nomatch h)⟩ (fun i σ H' _ ⟨_, _, _, _, _, _, ex, _⟩ => .inl (.inl (ex p _ (by simp [npF]) hpB))) ?_ ?_⟩
    · rintro i x σ H4 H5 hi ⟨e4, e5, e6, e7, L', rfl, ex, hF4, nd4, sub4, own4, out4⟩ ⟨rfl, hx⟩
      obtain ⟨y, hy, rfl⟩ := at_map hx
      have hyk : y ∈ keysL L := hperm.mem_iff.mp (List.mem_of_getElem? hy)
      have hS5 : H5 S = some (.dK (enc V.ref L)) := ex S _ (by simp [nSF]) hsumB.at_
      cases hL : getL L y with
      | none => exact absurd hyk (getL_none.mp hL)
      | some a =>
        obtain ⟨_, naS, O, ha, hOn, hOs, hOg⟩ := hsumB.own y a hL
        have naF : a ≠ F := fun z => by
          obtain ⟨_, _, O2, ha2, _⟩ := hsum.own y a hL
          rw [z, hF3] at ha2
          nomatch ha2
        have ha5 : H5 a = some (.dK (enc V.int O)) := ex a _ (by simp [naF]) ha
        have hg5 : DGet H5 S (.int y) (some (.ref a)) := by
          have h := DGet.i hS5 y
          rw [hL] at h
          exact h
        have hOl : O.length ≤ 8 := by
          have := len_span (lo := 0) (n := 8) hOn fun x hx => ⟨(hOs x hx).1, by have := (hOs x hx).2; omega⟩
          unfold keysL at this
          rw [List.length_map] at this
          exact this
        refine ⟨_, rfl, _, rfl, S, _, rfl, hg5, Int, a, V.int, O, rfl, ha5, by omega, fun ks2 p2 hperm2 hp2 => ?_⟩
        have sp2 := same_new (o := .lst (ks2.map V.int)) hp2
        have hp2C : upd H5 p2 (.lst (ks2.map V.int)) p2 = some (.lst (ks2.map V.int)) := upd_same
        generalize upd H5 p2 (.lst (ks2.map V.int)) = HC at sp2 hp2C
        have nd2 : ks2.Nodup := hperm2.nodup_iff.mpr hOn
        refine ⟨p2, rfl, ⟨_, .inl (.inl hp2C)⟩, fun D hD => dcK_it walk_list (fun k H' => Same HC H' ∧ ∃ O', H' D = some (.dK (enc V.int O')) ∧ (keysL O').Nodup ∧ (∀ t ∈ keysL O', t ∈ ks2.take k) ∧ ∀ t ∈ ks2.take k, at0 O' t = at0 O t)
          ⟨same_new hD, [], upd_same, List.nodup_nil, fun t h => (nomatch h), fun t h => (nomatch h)⟩ (fun k H' _ ⟨e, _⟩ => .inl (.inl (e _ _ hp2C))) ?_ ?_⟩
        · rintro k x H6 H7 hk ⟨s6, O', hD6, nd6, sub6, eq6⟩ ⟨rfl, hx2⟩
          obtain ⟨t, ht, rfl⟩ := at_map hx2
          have sa := sp2.trans s6
          have hg7 : DGet H7 S (.int y) (some (.ref a)) := by
            have h := DGet.i (sa _ _ hS5) y
            rw [hL] at h
            exact h
          have htk : t ∈ keysL O := hperm2.mem_iff.mp (List.mem_of_getElem? ht)
          cases hO : getL O t with
          | none => exact absurd htk (getL_none.mp hO)
          | some z =>
            have hgt : DGet H7 a (.int t) (some (.int z)) := by
              have h := DGet.i (sa _ _ ha5) t
              rw [hO] at h
              exact h
            have hz : at0 O t = z := by unfold at0; rw [hO]; rfl
            refine ⟨rfl, _, rfl, _, rfl, S, _, rfl, hg7, _, rfl, a, _, rfl, hgt, rfl, _, rfl, ?_⟩
            have nt : t ∉ ks2.take k := by
              have h := nodup_next (f := id) (by rw [List.map_id]; exact nd2) ht
              rw [List.map_id] at h
              exact h
            have ntO : t ∉ keysL O' := fun h => nt (sub6 t h)
            rw [take_succ_at ht]
            by_cases c : z = 0
            · rw [show (!decide (V.int z = V.int 0)) = false by rw [c]; rfl]
              refine ⟨s6, O', hD6, nd6, fun t' h => List.mem_append_left _ (sub6 t' h), fun t' h => ?_⟩
              rcases List.mem_append.mp h with h | h
              · exact eq6 t' h
              · rw [List.mem_singleton.mp h, hz, c]
                unfold at0
                rw [getL_none.mpr ntO]
                rfl
            · rw [show (!decide (V.int z = V.int 0)) = true by rw [decide_eq_false (fun w => c (V.int.inj w))]; rfl]
              refine ⟨_, rfl, _, rfl, _, rfl, S, _, rfl, hg7, _, rfl, a, _, rfl, hgt, enc V.int O', Sum.inl t, rfl, hD6, ?_, same_mut s6 hD, putL O' t z, ?_, nd_put nd6, fun t' h => ?_, fun t' h => ?_⟩
              · rw [enc_len]
                have := len_sub (keysL O') ks2 nd6 fun w hw => List.mem_of_mem_take (sub6 w hw)
                have l2 := hperm2.length_eq
                unfold keysL at this l2
                rw [List.length_map] at this l2
                exact sz_of (by omega)
              · rw [putK_enc]
                exact upd_same
              · rcases mem_put.mp h with rfl | h
                · exact List.mem_append_right _ (List.mem_singleton.mpr rfl)
                · exact List.mem_append_left _ (sub6 t' h)
              · rw [at0_put]
                by_cases c2 : t' = t
                · rw [if_pos c2, c2, hz]
                · rw [if_neg c2]
                  rcases List.mem_append.mp h with h | h
                  · exact eq6 t' h
                  · exact absurd (List.mem_singleton.mp h) c2
        · rintro H6 ⟨s6, O', hD6, nd6, sub6, eq6⟩
          rw [List.length_map, List.take_length] at sub6 eq6
          have sa := sp2.trans s6
          have own' : OwnOk H6 D (sC (rcAll last rs) y) := by
            refine ⟨O', hD6, nd6, fun t h => hOs t (hperm2.mem_iff.mp (sub6 t h)), fun t => ?_⟩
            rw [← hOg t]
            by_cases c : t ∈ ks2
            · exact eq6 t c
            · have c1 : t ∉ keysL O' := fun h => c (sub6 t h)
              have c2 : t ∉ keysL O := fun h => c (hperm2.mem_iff.mpr h)
              unfold at0
              rw [getL_none.mpr c1, getL_none.mpr c2]
          have hDF : D ≠ F := fun z => by
            rw [z, Same.at sp2 hF4] at hD
            nomatch hD
          have hD5 : H5 D = none := Same.back sp2 hD
          refine ⟨_, rfl, fun Z hZ => ⟨D, Z, _, rfl, rfl, Same.at (same_new hZ) hD6, upd_same, _, rfl, ?_⟩⟩
          have sZ := same_new (o := .dK []) hZ
          have sb := sa.trans sZ
          have ny : y ∉ ks.take i := by
            have h := nodup_next (f := id) (by rw [List.map_id]; exact ndk) hy
            rw [List.map_id] at h
            exact h
          have nyL : y ∉ keysL L' := fun h => ny (sub4 y h)
          have hFZ := sb F _ hF4
          rw [take_succ_at hy]
          cases O' with
          | nil =>
            refine ⟨_, _, _, _, L', rfl, ex.trans (Ex.of sb), hFZ, nd4, fun z h => List.mem_append_left _ (sub4 z h), fun z a' h => ?_, fun z h hz => ?_⟩
            · obtain ⟨b1, O2, b2, b3⟩ := own4 z a' h
              exact ⟨b1, O2, sb _ _ b2, b3⟩
            · rcases List.mem_append.mp h with h | h
              · exact out4 z h hz
              · obtain ⟨O2, b2, _, _, b3⟩ := own'
                rw [hD6] at b2
                cases O2 with
                | nil =>
                  intro t
                  rw [List.mem_singleton.mp h, ← b3 t]
                  rfl
                | cons w O2 => nomatch b2
          | cons w O' =>
            have hLl : L'.length ≤ 60 := by
              have h1 := len_sub (keysL L') ks nd4 fun z hz => List.mem_of_mem_take (sub4 z hz)
              have h2 := hperm.length_eq
              have h3 := hsum.len
              unfold keysL at h1 h2
              rw [List.length_map] at h1 h2
              omega
            refine ⟨_, rfl, _, rfl, _, rfl, F, _, rfl, DPut.i hFZ y D rfl (by omega), ?_⟩
            refine ⟨_, _, _, _, putL L' y D, rfl, (ex.trans (Ex.of sb)).trans (Ex.mut (by simp)), upd_same, nd_put nd4, fun z h => ?_, fun z a' h => ?_, fun z h hz => ?_⟩
            · rcases mem_put.mp h with rfl | h
              · exact List.mem_append_right _ (List.mem_singleton.mpr rfl)
              · exact List.mem_append_left _ (sub4 z h)
            · rw [get_put] at h
              by_cases c : z = y
              · rw [if_pos c] at h
                cases h
                obtain ⟨O2, b2, b3⟩ := own'
                refine ⟨hDF, O2, ?_, by rw [c]; exact b3⟩
                rw [upd_ne hDF]
                exact sZ _ _ b2
              · rw [if_neg c] at h
                obtain ⟨b1, O2, b2, b3⟩ := own4 z a' h
                refine ⟨b1, O2, ?_, b3⟩
                rw [upd_ne b1]
                exact sb _ _ b2
            · have h1 : z ≠ y ∧ z ∉ keysL L' := ⟨fun c => hz (mem_put.mpr (.inl c)), fun c => hz (mem_put.mpr (.inr c))⟩
              rcases List.mem_append.mp h with h | h
              · exact out4 z h h1.2
              · exact absurd (List.mem_singleton.mp h) h1.1
    · rintro σ H4 ⟨e4, e5, e6, e7, L', rfl, ex, hF4, nd4, sub4, own4, out4⟩
      rw [List.length_map, List.take_length] at sub4 out4
      refine ⟨_, rfl, hQ _ _ (s1.trans (Ex.same smB (fun d hd => ?_) ex)) ⟨F, L', rfl, Same.back (s1.trans sm) hF3, hF4, nd4, fun y h => hsum.span y (hperm.mem_iff.mp (sub4 y h)), own4, fun y h => ?_⟩⟩
      · rw [List.mem_singleton.mp hd]
        exact Same.back sm hF3
      · by_cases c : y ∈ ks
        · exact out4 y c h
        · exact hsum.out y fun z => c (hperm.mem_iff.mpr z)
end
end K86
end
section
set_option Elab.async false
set_option linter.all false
set_option maxRecDepth 100000
namespace K86
open PySem PySem.Spec PyProof.Rows L2
open C8 (Cal Met Mak pe_c pe_mk pe_mt pe_mt0)
section
variable {P : Program} {w : World} {K : PySem.W.Frag} {mg : Str → Option Value} {base : Heap}
def spChangeIn (K : PySem.W.Frag) : Sp := fun vs H Q _ => ∃ (x : V) (rs : List (Int × Int × Int)) (last : Nat) (c n : Int), vs = [x, .int n] ∧ IsLook K H x rs last c ∧ last ≤ 8 ∧ RetV H Q (FrV K last n)
theorem ok_change_in (T : Txt P K mg) : Cal P w K mg base 2 "change_in" (spChangeIn K) [] := by
  have h_least_pair := ok_least_pair (P := P) (w := w) (base := base) T
  refine c_change_in T (fun vs H Q E h => ?_) fun cdv A outer s H vs Q E hr h => ?_
  · obtain ⟨x, rs, last, c, n, rfl, _⟩ := h
    rfl
  obtain ⟨x, rs, last, c, n, rfl, ⟨lp, ldx, lfs, lt, lts, rfl, hlp, fl1, fl2, fl3, hlt, hlr⟩, hl8, hQ⟩ := h
  refine ⟨_, (pss_one (ps_ret (pe_c h_least_pair hr (by decide) (by rfl) (pa_cons (pv 1) (pa_cons (pe_op op_shl pe_int (pe_fld (pv 0) rfl)) pa_nil))))), ?_⟩
  have h8 : (2 : Int) ^ last ≤ 2 ^ 8 := two_pow_le hl8
  have h0 : (0 : Int) < 2 ^ last := two_pos last
  refine ⟨_, rfl, _, rfl, lp, _, ldx, lfs, _, rfl, hlp, cl_Look T, no_Look_last T, fl2, _, _, rfl, rfl, ⟨by omega, by omega, by decide⟩, ?_⟩
  have e : (1 : Int) * 2 ^ ((last : Int)).toNat = 2 ^ last := by rw [Int.one_mul, Int.toNat_natCast]
  refine ⟨n, _, rfl, by rw [e]; exact h0, by rw [e]; omega, fun v H' s h => hQ v H' s ?_⟩
  rw [e] at h
  exact h
/-- one spot's chips' changes, by its turns -/
def csL (g : Int → Int → Int) (last : Nat) (c y : Int) : List Int := (List.range ((last + 1 - ((y + c) % 2).toNat) / 2)).map fun i => g y ((y + c) % 2 + (i : Nat) * 2)
theorem rg3 : ∀ n : Nat, n < 9 → RgC 0 n 2 ((n + 1) / 2) ∧ RgC 1 n 2 (n / 2) := by
  unfold RgC
  decide
def ItemV (K : PySem.W.Frag) (last : Nat) (c : Int) (g : Int → Int → Int) (x : V) (y : Int) (H : Hp) : Prop := ∃ (t l : Addr) (fs : List V), x = .ref t ∧ SqT K H t [.int y, .ref l] ∧ H l = some (.lst fs) ∧ FrL K last (csL g last c y) fs H
def ItemN (K : PySem.W.Frag) (F : Addr) (last : Nat) (c : Int) (g : Int → Int → Int) (x : V) (y : Int) (H : Hp) : Prop := ∃ (t l : Addr) (fs : List V), x = .ref t ∧ SqT K H t [.int y, .ref l] ∧ H l = some (.lst fs) ∧ FrL K last (csL g last c y) fs H ∧ l ≠ F
theorem FrL.im {k : Nat} {ns : List Int} {xs : List V} {H H' : Hp} (e : Im H H') (h : FrL K k ns xs H) : FrL K k ns xs H' := ⟨h.1, fun i v n h1 h2 => (h.2 i v n h1 h2).im e⟩
def SpsV (K : PySem.W.Frag) (H0 : Hp) (last : Nat) (c : Int) (g : Int → Int → Int) (v : V) (H : Hp) : Prop := ∃ (a : Addr) (xs : List V) (ys : List Int), v = .ref a ∧ H0 a = none ∧ H a = some (.lst xs) ∧ Paired (fun x y => ItemV K last c g x y H) xs ys ∧ ys.Nodup ∧ (∀ y ∈ ys, -30 ≤ y ∧ y < 30) ∧ ∀ y, y ∉ ys → ∀ t, g y t = 0
theorem ItemV.mono {last : Nat} {c : Int} {g : Int → Int → Int} {x : V} {y : Int} {H H' : Hp} (e : Same H H') (h : ItemV K last c g x y H) : ItemV K last c g x y H' := by
  obtain ⟨t, l, fs, rfl, h1, h2, h3⟩ := h
  exact ⟨t, l, fs, rfl, Same.sqt e h1, e _ _ h2, FrL.mono e h3⟩
def spSps (K : PySem.W.Frag) : Sp := fun vs H Q _ => ∃ (x : V) (rs : List (Int × Int × Int)) (last : Nat) (c : Int), vs = [x] ∧ IsLook K H x rs last c ∧ last ≤ 8 ∧ (∀ r ∈ rs, rowIn last r) ∧ RetV H Q (SpsV K H last c (sC (rcAll last rs)))
theorem ok_spots_changes (T : Txt P K mg) : Cal P w K mg base 3 "spots_changes" (spSps K) [] := by
  have h_all_changes := ok_all_changes (P := P) (w := w) (base := base) T
  have h_change_in := ok_change_in (P := P) (w := w) (base := base) T
  refine c_spots_changes T (fun vs H Q E h => ?_) fun cdv A outer s H vs Q E hr h => ?_
  · obtain ⟨x, rs, last, c, rfl, _⟩ := h
    rfl
  obtain ⟨x, rs, last, c, rfl, hlk, hl8, hrs, hQ⟩ := h
  refine ⟨_, (pss_cons (ps_set (i := 1) sc_spots_changes.nd rfl (by first | exact Or.inl rfl | exact Or.inr rfl) (pe_lst pa_nil))
      (pss_cons (ps_for PassesOwn.never rfl (pi_items (pe_freeze (pe_c h_all_changes hr (by decide) (by rfl) (pa_cons (pv 0) pa_nil)))) (pg_tup rfl (pgs_cons (pg_name (i := 2) sc_spots_changes.nd rfl (by first | exact Or.inl rfl | exact Or.inr rfl)) (pgs_cons (pg_name (i := 3) sc_spots_changes.nd rfl (by first | exact Or.inl rfl | exact Or.inr rfl)) pgs_nil)))
      (pss_cons (ps_set (i := 4) sc_spots_changes.nd rfl (by first | exact Or.inl rfl | exact Or.inr rfl) (pe_callTy cr_rng3 (by rfl) (z_range T) (by decide +kernel) (pa_cons (pe_op op_mod (pe_op op_add (pv 2) (pe_fld (pv 0) rfl)) pe_int) (pa_cons (pe_fld (pv 0) rfl) (pa_cons pe_int pa_nil)))))
      (pss_one (ps_expr (pe_bm PySem.F.plainAttrs_list PySem.F.slot_list_append PySem.F.type_list_append mt_append (pv 1) (pa_cons (pe_tup (pa_cons (pv 2) (pa_cons (pe_lc (own := [("tick", 5)]) (g := (gName 5)) (tt := tYes) rfl sc_spots_changes.nd (pi_rng (pv 4)) (blkOk_by (own := [("tick", 5)]) (N := n_spots_changes) (sc := defScope s_spots_changes) (by decide +kernel)) (fun _ _ _ _ _ => (pg_name (i := 5) sc_spots_changes.nd rfl (by first | exact Or.inl rfl | exact Or.inr rfl))) (fun _ _ _ _ _ => pts_nil) (fun _ _ _ _ _ => (pe_c h_change_in hr (by decide) (by rfl) (pa_cons (pv 0) (pa_cons (pe_dget2 (hu_of hr) (pv 3) (pv 5) pe_int ⟨rfl, rfl, rfl, rfl⟩) pa_nil))))) pa_nil))) pa_nil))))))
      (pss_one (ps_ret (pv 1))))), ?_⟩
  obtain ⟨lp, ldx, lfs, lt, lts, rfl, hlp, fl1, fl2, fl3, hlt, hlr⟩ := id hlk
  refine ⟨Nat.zero_le _, fun F hF => ?_⟩
  have sF := same_new (o := .lst []) hF
  refine ⟨_, rfl, .ref lp, rs, last, c, rfl, IsLook.mono sF hlk, hl8, hrs, ?_⟩
  rintro v H1 s1 ⟨D, L, rfl, hD0, hD, hnd, hsp, hown, hout⟩
  refine ⟨D, _, rfl, hD, True.intro, fun od => ⟨D, od, enc V.ref L, rfl, upd_same, ?_⟩⟩
  have sm1 := sF.trans s1
  have hF1 : H1 F = some (.lst []) := s1 _ _ upd_same
  have nFD : F ≠ D := fun z => by rw [z, hD] at hF1; nomatch hF1
  have smL : Same H (upd H1 D (.frz od (.dK (enc V.ref L)))) := same_mut sm1 (Same.back sF hD0)
  have hFL : upd H1 D (.frz od (.dK (enc V.ref L))) F = some (.lst []) := by rw [upd_ne nFD]; exact hF1
  have hDL : upd H1 D (.frz od (.dK (enc V.ref L))) D = some (.frz od (.dK (enc V.ref L))) := upd_same
  have howL : ∀ y a, getL L y = some a → OwnOk (upd H1 D (.frz od (.dK (enc V.ref L)))) a (sC (rcAll last rs) y) := fun y a h => by
    obtain ⟨n, O, h1, h2⟩ := hown y a h
    exact ⟨O, by rw [upd_ne n]; exact h1, h2⟩
  generalize upd H1 D (.frz od (.dK (enc V.ref L))) = HL at smL hFL hDL howL
  have hL60 : L.length ≤ 60 := by
    have := len_span (lo := -30) (n := 60) hnd fun x hx => ⟨(hsp x hx).1, by have := (hsp x hx).2; omega⟩
    unfold keysL at this
    rw [List.length_map] at this
    exact this
  refine for_it walk_items (fun i σ H' => ∃ (e2 e3 e4 e5 : Option V) (xs : List V), σ = [some (.ref lp), some (.ref F), e2, e3, e4, e5] ∧ Ex [F] HL H' ∧ H' F = some (.lst xs) ∧ xs.length = i ∧ Paired (fun x y => ItemN K F last c (sC (rcAll last rs)) x y H') xs ((keysL L).take i))
    ⟨none, none, none, none, [], rfl, Ex.refl _ _, hFL, rfl, .nil⟩ (fun i σ H' _ ⟨_, _, _, _, _, _, ex, _⟩ => ex D _ (by simp [Ne.symm nFD]) hDL) ?_ ?_
  · rintro i x σ H2 H3 hi ⟨e2, e3, e4, e5, xs, rfl, ex, hF2, hlen, hp⟩ ⟨T1, x1, y1, rfl, hT, rfl, ex1, ey1⟩
    obtain ⟨⟨y, a⟩, hya, rfl, rfl⟩ := enc_at ex1 ey1
    have hga := getL_of hnd (List.mem_of_getElem? hya)
    obtain ⟨O, hO1, hO2, hO3, hO4⟩ := howL y a hga
    have hF0 : H F = none := hF
    have sT := same_new (o := .tup [.int y, .ref a]) hT
    have smH : Same H H2 := Ex.same smL (fun d hd => by rw [List.mem_singleton.mp hd]; exact hF0) ex
    have naF : a ≠ F := fun z => by rw [z, hFL] at hO1; nomatch hO1
    have ha2 : H2 a = some (.dK (enc V.int O)) := ex a _ (by simp [naF]) hO1
    have hlp3 := (smH.trans sT) lp _ hlp
    refine ⟨T1, _, rfl, .inl (.inl upd_same), rfl, _, _, rfl, _, _, rfl, rfl, ?_⟩
    have rgn : ∃ n : Nat, RgC ((y + c) % 2) last 2 n ∧ n = (last + 1 - ((y + c) % 2).toNat) / 2 := by
      have h3 := rg3 last (by omega)
      rcases Int.emod_two_eq (y + c) with h | h
      · rw [h]; exact ⟨_, h3.1, rfl⟩
      · rw [h]; exact ⟨_, h3.2, rfl⟩
    obtain ⟨n, hrg, hn⟩ := rgn
    refine ⟨_, rfl, _, rfl, lp, _, ldx, lfs, _, rfl, hlp3, cl_Look T, no_Look_colour T, fl3, _, _, rfl, rfl, _, _, rfl, rfl, (by decide : (0 : Int) < 2), _, rfl, lp, _, ldx, lfs, _, rfl, hlp3, cl_Look T, no_Look_last T, fl2, _, _, _, n, rfl, hrg, fun R hR => ?_⟩
    have sR := same_new (o := RngO R ((y + c) % 2) last 2) hR
    refine ⟨_, rfl, .inl ⟨rfl, _, .inl (.inl (sR _ _ (sT _ _ hF2)))⟩, _, rfl, _, rfl, R, _, _, _, n, rfl, upd_same, hrg, fun D2 hD2 => ?_⟩
    have sTR := sT.trans sR
    refine lc_map walk_rangeC (fun j z H' => FrV K last (sC (rcAll last rs) y ((y + c) % 2 + (j : Nat) * 2)) z H') hD2 (fun j z Ha Hb e h => h.im e) (by omega) (fun _ _ => True.intro) ?_ ?_
    · rintro j x H5 H6 Nn Qq hj s5 ⟨rfl, rfl⟩ hdone
      have sA := sTR.trans s5
      refine ⟨rfl, tyes ?_⟩
      refine ⟨_, rfl, _, rfl, a, rfl, .inl ⟨_, .inl (sA _ _ ha2)⟩, _, rfl, _, DGet.i (sA _ _ ha2) _, ?_⟩
      rw [getD_int, hO4]
      exact ⟨.ref lp, rs, last, c, _, rfl, IsLook.mono (smH.trans sA) hlk, hl8, fun v H7 s7 h7 => hdone v H7 s7 h7⟩
    · rintro H5 acc s5 hD5 hal haf
      have sA := sTR.trans s5
      refine ⟨by show 2 ≤ sizeLine; decide, fun q hq => ?_⟩
      have sq := same_new (o := .tup [.int y, .ref D2]) hq
      have hFq := (sA.trans sq) F _ hF2
      have nFD2 : D2 ≠ F := fun z => by
        rw [z, Same.at sTR hF2] at hD2
        nomatch hD2
      refine ⟨F, xs, _, rfl, rfl, hFq, sz_of (by rw [hlen, enc_len] at *; omega), ?_⟩
      have imF : Im (upd H5 q (.tup [.int y, .ref D2])) (upd (upd H5 q (.tup [.int y, .ref D2])) F (.lst (xs ++ [.ref q]))) := Im.mut (by rw [hFq]; trivial)
      refine ⟨_, _, _, _, xs ++ [.ref q], rfl, (ex.trans (Ex.of (sA.trans sq))).trans (Ex.mut (by simp)), upd_same, by rw [List.length_append, hlen]; rfl, ?_⟩
      have hk : (keysL L)[i]? = some y := by
        unfold keysL
        rw [List.getElem?_map, hya]
        rfl
      rw [take_succ_at hk]
      have keepI : ∀ x z, ItemN K F last c (sC (rcAll last rs)) x z H2 → ItemN K F last c (sC (rcAll last rs)) x z (upd (upd H5 q (.tup [.int y, .ref D2])) F (.lst (xs ++ [.ref q]))) := by
        rintro x z ⟨t, l, fs, rfl, b1, b2, b3, b4⟩
        exact ⟨t, l, fs, rfl, imF.sqt (Same.sqt (sA.trans sq) b1), by rw [upd_ne b4]; exact (sA.trans sq) _ _ b2, (FrL.mono (sA.trans sq) b3).im imF, b4⟩
      refine paired_app (Paired.mapP hp keepI) (.cons ⟨q, D2, acc, rfl, imF.sqt (.inl (.inl upd_same)), ?_, ⟨?_, ?_⟩, nFD2⟩ .nil)
      · rw [upd_ne nFD2]
        exact sq _ _ hD5
      · unfold csL
        rw [List.length_map, List.length_range, hal, hn]
      · intro j v m h1 h2
        unfold csL at h2
        rw [List.getElem?_map] at h2
        obtain ⟨j', hj', rfl⟩ := Option.map_eq_some_iff.mp h2
        have hj2 := List.getElem?_eq_some_iff.mp hj'
        obtain ⟨hl, hv⟩ := hj2
        rw [List.getElem_range] at hv
        rw [← hv]
        exact ((haf j v h1).mono sq).im imF
  · rintro σ H2 ⟨e2, e3, e4, e5, xs, rfl, ex, hF2, hlen, hp⟩
    rw [enc_len, show L.length = (keysL L).length by unfold keysL; rw [List.length_map], List.take_length] at hp
    exact ⟨_, rfl, hQ _ _ (Ex.same smL (fun d hd => by rw [List.mem_singleton.mp hd]; exact hF) ex) ⟨F, xs, keysL L, rfl, hF, hF2, Paired.mapP hp fun x z ⟨t, l, fs, b0, b1, b2, b3, _⟩ => ⟨t, l, fs, b0, b1, b2, b3⟩, hnd, hsp, hout⟩⟩
theorem csL_zero {g : Int → Int → Int} {last : Nat} {c y : Int} (h : ∀ t, g y t = 0) : ∀ x ∈ csL g last c y, x = 0 := fun x hx => by
  obtain ⟨i, _, rfl⟩ := List.mem_map.mp hx
  exact h _
theorem csL_len {g : Int → Int → Int} {last : Nat} {c y : Int} (h : last ≤ 8) : (csL g last c y).length ≤ 5 := by
  unfold csL
  rw [List.length_map, List.length_range]
  omega
def reachI (g : Int → Int → Int) (last : Nat) (c : Int) : Int := wS fun y => (btEnd (csL g last c y)).1
def spReachIn (K : PySem.W.Frag) : Sp := fun vs H Q _ => ∃ (x : V) (rs : List (Int × Int × Int)) (last : Nat) (c : Int), vs = [x] ∧ IsLook K H x rs last c ∧ last ≤ 8 ∧ (∀ r ∈ rs, rowIn last r) ∧ RetV H Q (FrV K last (reachI (sC (rcAll last rs)) last c))
theorem ok_reach_in (T : Txt P K mg) : Cal P w K mg base 5 "reach_in" (spReachIn K) [] := by
  have h_total_of := ok_total_of (P := P) (w := w) (base := base) T
  have h_best_turns := ok_best_turns (P := P) (w := w) (base := base) T
  have h_spots_changes := ok_spots_changes (P := P) (w := w) (base := base) T
  refine c_reach_in T (fun vs H Q E h => ?_) fun cdv A outer s H vs Q E hr h => ?_
  · obtain ⟨x, rs, last, c, rfl, _⟩ := h
    rfl
  obtain ⟨x, rs, last, c, rfl, hlk, hl8, hrs, hQ⟩ := h
  refine ⟨_, (pss_one (ps_ret (pe_c h_total_of hr (by decide) (by rfl) (pa_cons (pe_lc (own := [("_", 1), ("numbers", 2)]) (g := (gTup K 2 (gCons (gName 1) (gCons (gName 2) gNil)))) (tt := tYes) rfl sc_reach_in.nd (pi_list (pe_c h_spots_changes hr (by decide) (by rfl) (pa_cons (pv 0) pa_nil))) (blkOk_by (own := [("_", 1), ("numbers", 2)]) (N := n_reach_in) (sc := defScope s_reach_in) (by decide +kernel)) (fun _ _ _ _ _ => (pg_tup rfl (pgs_cons (pg_name (i := 1) sc_reach_in.nd rfl (by first | exact Or.inl rfl | exact Or.inr rfl)) (pgs_cons (pg_name (i := 2) sc_reach_in.nd rfl (by first | exact Or.inl rfl | exact Or.inr rfl)) pgs_nil)))) (fun _ _ _ _ _ => pts_nil) (fun _ _ _ _ _ => (pe_ix (r := rIxT K) ix_tup (pe_c h_best_turns hr (by decide) (by rfl) (pa_cons (pv 2) pa_nil)) pe_int (fun _ _ => rfl)))) pa_nil)))), ?_⟩
  refine ⟨_, rfl, x, rs, last, c, rfl, hlk, hl8, hrs, ?_⟩
  rintro v H1 s1 ⟨a, xs, ys, rfl, _, ha, hxs, hnd, hsp, hout⟩
  have hl60 : xs.length ≤ 60 := by
    have := len_span (lo := -30) (n := 60) hnd fun x hx => ⟨(hsp x hx).1, by have := (hsp x hx).2; omega⟩
    rw [Paired.length hxs]
    exact this
  refine ⟨a, rfl, ⟨xs, .inl (.inl ha)⟩, fun D hD => lc_map walk_list (fun j z H' => ∀ y, ys[j]? = some y → FrV K last (btEnd (csL (sC (rcAll last rs)) last c y)).1 z H') hD (fun j z Ha Hb e h y hy => (h y hy).im e) (by omega) (fun H' e => e.seq (.inl (.inl ha))) ?_ ?_⟩
  · rintro j x H5 H6 Nn Qq hj s5 ⟨rfl, hx⟩ hdone
    obtain ⟨y, hy, hit⟩ := paired_at hxs hx
    obtain ⟨t, l, fs, rfl, h1, h2, h3⟩ := hit.mono s5
    refine ⟨t, _, rfl, h1, rfl, _, _, rfl, _, _, rfl, rfl, rfl, tyes ?_⟩
    refine ⟨_, rfl, last, l, fs, _, rfl, by omega, by have := csL_len (g := sC (rcAll last rs)) (c := c) (y := y) hl8; omega, .inl (.inl h2), h3, ?_⟩
    rintro v2 H7 s7 ⟨t2, g2, f2, rfl, b1, b2, b3⟩
    refine ⟨_, _, _, _, rfl, rfl, b1, rfl, hdone _ _ s7 fun y' hy' => ?_⟩
    rw [hy] at hy'
    cases hy'
    exact b2
  · rintro H5 acc s5 hD5 hal haf
    refine ⟨last, D, acc, ys.map fun y => (btEnd (csL (sC (rcAll last rs)) last c y)).1, rfl, by omega, .inl (.inl hD5), ⟨by rw [hal, List.length_map, Paired.length hxs], fun i v n h1 h2 => ?_⟩, fun v H6 s6 h6 => hQ v H6 (s1.trans (fun b u e => s6 b u (s5 b u e))) ?_⟩
    · rw [List.getElem?_map] at h2
      obtain ⟨y, hy, rfl⟩ := Option.map_eq_some_iff.mp h2
      exact haf i v h1 y hy
    · rw [wS_of hnd hsp fun y hy => btEnd_zero (csL_zero (hout y hy))] at h6
      exact h6
def spReachOf (K : PySem.W.Frag) : Sp := fun vs H Q E => spReachIn K vs H Q E
theorem ok_reach_of (T : Txt P K mg) : Cal P w K mg base 6 "reach_of" (spReachIn K) [] := by
  have h_need_look := ok_need_look (P := P) (w := w) (base := base) T
  have h_reach_in := ok_reach_in (P := P) (w := w) (base := base) T
  refine c_reach_of T (fun vs H Q E h => ?_) fun cdv A outer s H vs Q E hr h => ?_
  · obtain ⟨x, rs, last, c, rfl, _⟩ := h
    rfl
  obtain ⟨x, rs, last, c, rfl, hlk, hl8, hrs, hQ⟩ := h
  refine ⟨_, (pss_cons (ps_expr (pe_c h_need_look hr (by decide) (by rfl) (pa_cons (pv 0) pa_nil)))
      (pss_one (ps_ret (pe_c h_reach_in hr (by decide) (by rfl) (pa_cons (pv 0) pa_nil))))), ?_⟩
  obtain ⟨lp, ldx, lfs, lt, lts, rfl, hlp, fl1, fl2, fl3, hlt, hlr⟩ := id hlk
  refine ⟨_, rfl, lp, ldx, lfs, _, rfl, hlp, ?_⟩
  exact ⟨_, rfl, _, rs, last, c, rfl, hlk, hl8, hrs, hQ⟩
def sgOf (ns : List Int) (y : Int) : Int := if y ∈ ns then -1 else 1
theorem sgOf_or (ns : List Int) (y : Int) : sgOf ns y = 1 ∨ sgOf ns y = -1 := by
  unfold sgOf
  split
  · exact .inr rfl
  · exact .inl rfl
def lowI (g : Int → Int → Int) (last : Nat) (c : Int) (ns : List Int) : Int := wS fun y => -gf (-(sgOf ns y)) (csL g last c y)
def highI (g : Int → Int → Int) (last : Nat) (c : Int) (ns : List Int) : Int := wS fun y => gf (sgOf ns y) (csL g last c y)
def spReachBy (K : PySem.W.Frag) : Sp := fun vs H Q _ => ∃ (x : V) (rs : List (Int × Int × Int)) (last : Nat) (c : Int) (a : Addr) (b : Bool) (ns : List Int), vs = [x, .ref a] ∧ IsLook K H x rs last c ∧ last ≤ 8 ∧ (∀ r ∈ rs, rowIn last r) ∧ SqB K b H a (ns.map V.int) ∧ leftsOk ns ∧
  RetV H Q (BtwV K last (lowI (sC (rcAll last rs)) last c ns) (highI (sC (rcAll last rs)) last c ns))
theorem ok_reach_by (T : Txt P K mg) : Cal P w K mg base 7 "reach_by" (spReachBy K) [] := by
  have h_need_look := ok_need_look (P := P) (w := w) (base := base) T
  have h_need_lefts := ok_need_lefts (P := P) (w := w) (base := base) T
  have h_spots_changes := ok_spots_changes (P := P) (w := w) (base := base) T
  have h_between := ok_between (P := P) (w := w) (base := base) T
  have h_total_of := ok_total_of (P := P) (w := w) (base := base) T
  refine c_reach_by T (fun vs H Q E h => ?_) fun cdv A outer s H vs Q E hr h => ?_
  · obtain ⟨x, rs, last, c, a, b, ns, rfl, _⟩ := h
    rfl
  obtain ⟨x, rs, last, c, a, b, ns, rfl, hlk, hl8, hrs, ha, hns, hQ⟩ := h
  refine ⟨_, (pss_cons (ps_expr (pe_c h_need_look hr (by decide) (by rfl) (pa_cons (pv 0) pa_nil)))
      (pss_cons (ps_set (i := 2) sc_reach_by.nd rfl (by first | exact Or.inl rfl | exact Or.inr rfl) (pe_c h_need_lefts hr (by decide) (by rfl) (pa_cons (pv 1) pa_nil)))
      (pss_cons (ps_setLc (i := 3) (own := [("spot", 4), ("numbers", 5)]) (g := (gTup K 2 (gCons (gName 4) (gCons (gName 5) gNil)))) (tt := tYes) rfl sc_reach_by.nd rfl rfl (sw_true rfl rfl rfl (by decide +kernel)) (pi_list (pe_c h_spots_changes hr (by decide) (by rfl) (pa_cons (pv 0) pa_nil))) (blkOk_by (own := [("spot", 4), ("numbers", 5)]) (N := n_reach_by) (sc := defScope s_reach_by) (by decide +kernel)) (fun _ _ _ _ _ => (pg_tup rfl (pgs_cons (pg_name (i := 4) sc_reach_by.nd rfl (by first | exact Or.inl rfl | exact Or.inr rfl)) (pgs_cons (pg_name (i := 5) sc_reach_by.nd rfl (by first | exact Or.inl rfl | exact Or.inr rfl)) pgs_nil)))) (fun _ _ _ _ _ => pts_nil) (fun _ _ _ _ _ => (pe_c h_between hr (by decide) (by rfl) (pa_cons (pv 5) (pa_cons (pe_ifExp (pt_cmpR (r := rIn K false) op_in_seq (pv 4) (pv 2) rfl) (pe_un un_neg pe_int) pe_int) pa_nil)))))
      (pss_one (ps_ret (pe_tup (pa_cons (pe_c h_total_of hr (by decide) (by rfl) (pa_cons (pe_lc (own := [("least", 6), ("_", 7)]) (g := (gTup K 2 (gCons (gName 6) (gCons (gName 7) gNil)))) (tt := tYes) rfl sc_reach_by.nd (pi_list (pv 3)) (blkOk_by (own := [("least", 6), ("_", 7)]) (N := n_reach_by) (sc := defScope s_reach_by) (by decide +kernel)) (fun _ _ _ _ _ => (pg_tup rfl (pgs_cons (pg_name (i := 6) sc_reach_by.nd rfl (by first | exact Or.inl rfl | exact Or.inr rfl)) (pgs_cons (pg_name (i := 7) sc_reach_by.nd rfl (by first | exact Or.inl rfl | exact Or.inr rfl)) pgs_nil)))) (fun _ _ _ _ _ => pts_nil) (fun _ _ _ _ _ => (pv 6))) pa_nil)) (pa_cons (pe_c h_total_of hr (by decide) (by rfl) (pa_cons (pe_lc (own := [("_", 7), ("greatest", 8)]) (g := (gTup K 2 (gCons (gName 7) (gCons (gName 8) gNil)))) (tt := tYes) rfl sc_reach_by.nd (pi_list (pv 3)) (blkOk_by (own := [("_", 7), ("greatest", 8)]) (N := n_reach_by) (sc := defScope s_reach_by) (by decide +kernel)) (fun _ _ _ _ _ => (pg_tup rfl (pgs_cons (pg_name (i := 7) sc_reach_by.nd rfl (by first | exact Or.inl rfl | exact Or.inr rfl)) (pgs_cons (pg_name (i := 8) sc_reach_by.nd rfl (by first | exact Or.inl rfl | exact Or.inr rfl)) pgs_nil)))) (fun _ _ _ _ _ => pts_nil) (fun _ _ _ _ _ => (pv 8))) pa_nil)) pa_nil)))))))), ?_⟩
  obtain ⟨lp, ldx, lfs, lt, lts, rfl, hlp, fl1, fl2, fl3, hlt, hlr⟩ := id hlk
  refine ⟨_, rfl, lp, ldx, lfs, _, rfl, hlp, ?_⟩
  refine ⟨_, rfl, a, _, b, ns, rfl, ha, hns, ?_⟩
  rintro v H1 s1 ⟨ns', hperm, t, rfl, ht⟩
  refine ⟨_, rfl, _, rs, last, c, rfl, IsLook.mono s1 hlk, hl8, hrs, ?_⟩
  rintro v H2 s2 ⟨D, xs, ys, rfl, _, hD, hxs, hnd, hsp, hout⟩
  have hl60 : xs.length ≤ 60 := by
    have := len_span (lo := -30) (n := 60) hnd fun x hx => ⟨(hsp x hx).1, by have := (hsp x hx).2; omega⟩
    rw [Paired.length hxs]
    exact this
  have ht2 := Same.sqt s2 ht
  have esg : ∀ y, (if y ∈ ns' then (-1 : Int) else 1) = sgOf ns y := fun y => by
    unfold sgOf
    by_cases c : y ∈ ns
    · rw [if_pos c, if_pos (hperm.mem_iff.mpr c)]
    · rw [if_neg c, if_neg (fun z => c (hperm.mem_iff.mp z))]
  refine ⟨D, rfl, ⟨xs, .inl (.inl hD)⟩, fun F hF => lc_map walk_list (fun j z H' => ∀ y, ys[j]? = some y → BtwV K last (-gf (-(sgOf ns y)) (csL (sC (rcAll last rs)) last c y)) (gf (sgOf ns y) (csL (sC (rcAll last rs)) last c y)) z H') hF (fun j z Ha Hb e h y hy => (h y hy).im e) (by omega) (fun H' e => e.seq (.inl (.inl hD))) ?_ ?_⟩
  · rintro j x H5 H6 Nn Qq hj s5 ⟨rfl, hx⟩ hdone
    obtain ⟨y, hy, hit⟩ := paired_at hxs hx
    obtain ⟨t2, l, fs, rfl, h1, h2, h3⟩ := hit.mono s5
    refine ⟨t2, _, rfl, h1, rfl, _, _, rfl, _, _, rfl, rfl, rfl, tyes ?_⟩
    refine ⟨_, rfl, _, rfl, _, rfl, t, _, rfl, .inr (Same.sqt s5 ht2), rfl, flat_ints, _, rfl, ?_⟩
    have fin : ∀ sg : Int, sg = sgOf ns y → spBetween K [.ref l, .int sg] H6 Qq C8.E0 := by
      rintro sg rfl
      refine ⟨last, l, fs, _, sgOf ns y, rfl, sgOf_or ns y, by omega, by have := csL_len (g := sC (rcAll last rs)) (c := c) (y := y) hl8; omega, .inl (.inl h2), h3, fun v7 H7 s7 h7 => hdone _ _ s7 fun y' hy' => ?_⟩
      rw [hy] at hy'
      cases hy'
      exact h7
    have e1 := esg y
    show (if inV (V.int y) (ns'.map V.int) = true then _ else _)
    rw [inV_ints]
    by_cases cy : y ∈ ns'
    · rw [if_pos (decide_eq_true cy)]
      rw [if_pos cy] at e1
      exact ⟨_, rfl, fin _ e1⟩
    · rw [if_neg (by rw [decide_eq_false cy]; decide)]
      rw [if_neg cy] at e1
      exact fin _ e1
  · rintro H5 acc s5 hD5 hal haf
    have e45 := s1.trans (s2.trans (show Same H2 H5 from s5))
    have hacl : acc.length ≤ 60 := by omega
    have ln : ∀ f : Int → Int, (ys.map f).length = acc.length := fun f => by rw [hal, List.length_map, Paired.length hxs]
    refine ⟨_, rfl, F, rfl, ⟨acc, .inl (.inl hD5)⟩, fun D1 hD1 => lc_map walk_list (fun j z H' => ∀ y, ys[j]? = some y → FrV K last (-gf (-(sgOf ns y)) (csL (sC (rcAll last rs)) last c y)) z H') hD1 (fun j z Ha Hb e h y hy => (h y hy).im e) (by omega) (fun H' e => e.seq (.inl (.inl hD5))) ?_ ?_⟩
    · rintro j x H6 H7 Nn Qq hj s6 ⟨rfl, hx⟩ hdone
      have hj2 : j < ys.length := by have := ln id; rw [List.length_map] at this; omega
      obtain ⟨t3, a3, b3, rfl, c1, c2, c3⟩ := BtwV.im (Im.of s6) (haf j x hx ys[j] (List.getElem?_eq_getElem hj2))
      refine ⟨t3, _, rfl, c1, rfl, _, _, rfl, _, _, rfl, rfl, rfl, tyes ⟨_, rfl, hdone _ _ (Same.refl _) fun y hy => ?_⟩⟩
      rw [List.getElem?_eq_getElem hj2] at hy
      cases hy
      exact c2
    rintro H6 ac1 s6 hD6 hal6 haf6
    refine ⟨last, D1, ac1, ys.map fun y => -gf (-(sgOf ns y)) (csL (sC (rcAll last rs)) last c y), rfl, by omega, .inl (.inl hD6), ⟨by rw [hal6]; exact (ln _).symm, fun i v n h1 h2 => ?_⟩, fun v1 H7 s7 h7 => ?_⟩
    · rw [List.getElem?_map] at h2
      obtain ⟨y, hy, rfl⟩ := Option.map_eq_some_iff.mp h2
      exact haf6 i v h1 y hy
    have s57 : Same H5 H7 := fun b u e => s7 b u (s6 b u e)
    rw [wS_of (f := fun y => -gf (-(sgOf ns y)) (csL (sC (rcAll last rs)) last c y)) hnd hsp fun y hy => by rw [gf_zero (csL_zero (hout y hy))]; rfl] at h7
    refine ⟨_, rfl, F, rfl, ⟨acc, s57.seq (.inl (.inl hD5))⟩, fun D2 hD2 => lc_map walk_list (fun j z H' => ∀ y, ys[j]? = some y → FrV K last (gf (sgOf ns y) (csL (sC (rcAll last rs)) last c y)) z H') hD2 (fun j z Ha Hb e h y hy => (h y hy).im e) (by omega) (fun H' e => (s57.trans e).seq (.inl (.inl hD5))) ?_ ?_⟩
    · rintro j x H8 H9 Nn Qq hj s8 ⟨rfl, hx⟩ hdone
      have hj2 : j < ys.length := by have := ln id; rw [List.length_map] at this; omega
      obtain ⟨t3, a3, b3, rfl, c1, c2, c3⟩ := BtwV.im (Im.of (s57.trans s8)) (haf j x hx ys[j] (List.getElem?_eq_getElem hj2))
      refine ⟨t3, _, rfl, c1, rfl, _, _, rfl, _, _, rfl, rfl, rfl, tyes ⟨_, rfl, hdone _ _ (Same.refl _) fun y hy => ?_⟩⟩
      rw [List.getElem?_eq_getElem hj2] at hy
      cases hy
      exact c3
    rintro H8 ac2 s8 hD8 hal8 haf8
    refine ⟨last, D2, ac2, ys.map fun y => gf (sgOf ns y) (csL (sC (rcAll last rs)) last c y), rfl, by omega, .inl (.inl hD8), ⟨by rw [hal8]; exact (ln _).symm, fun i v n h1 h2 => ?_⟩, fun v2 H9 s9 h9 => ?_⟩
    · rw [List.getElem?_map] at h2
      obtain ⟨y, hy, rfl⟩ := Option.map_eq_some_iff.mp h2
      exact haf8 i v h1 y hy
    rw [wS_of (f := fun y => gf (sgOf ns y) (csL (sC (rcAll last rs)) last c y)) hnd hsp fun y hy => gf_zero (csL_zero (hout y hy))] at h9
    have s79 : Same H7 H9 := fun b u e => s9 b u (s8 b u e)
    refine ⟨by show 2 ≤ sizeLine; decide, fun q hq => ?_⟩
    have sq := same_new (o := .tup [v1, v2]) hq
    exact hQ _ _ (e45.trans (s57.trans (s79.trans sq))) ⟨q, v1, v2, rfl, .inl (.inl upd_same), h7.mono (s79.trans sq), h9.mono sq⟩
end
end K86
end
section
set_option Elab.async false
set_option linter.all false
set_option maxRecDepth 100000
namespace K86
open PySem PySem.Spec PyProof.Rows L2
open C8 (Cal Met Mak pe_c pe_mk pe_mt pe_mt0)
/-- the heaps of a list, as a number at each spot -/
structure HpsOk (B : Nat) (ps : List (Int × Int)) (h : Int → Int) : Prop where
  nd : (keysL ps).Nodup
  at_ : ∀ y, at0 ps y = h y
  nn : ∀ y, 0 ≤ h y
  span : ∀ y ∈ keysL ps, -(B : Int) ≤ y ∧ y ≤ B
structure LfsOk (B : Nat) (ns : List Int) (L : Int → Bool) : Prop where
  nd : ns.Nodup
  at_ : ∀ y, y ∈ ns ↔ L y = true
  span : ∀ y ∈ ns, -(B : Int) ≤ y ∧ y ≤ B
theorem span_len {l : List Int} {B : Nat} (hn : l.Nodup) (h : ∀ y ∈ l, -(B : Int) ≤ y ∧ y ≤ B) : l.length ≤ 2 * B + 1 := len_span (lo := -(B : Int)) hn fun x hx => ⟨(h x hx).1, by have := (h x hx).2; omega⟩
theorem HpsOk.len {B : Nat} {ps : List (Int × Int)} {h : Int → Int} (o : HpsOk B ps h) : ps.length ≤ 2 * B + 1 := by
  have := span_len o.nd o.span
  unfold keysL at this
  rw [List.length_map] at this
  exact this
theorem HpsOk.mem {B : Nat} {ps : List (Int × Int)} {h : Int → Int} (o : HpsOk B ps h) {p : Int × Int} (hp : p ∈ ps) : p.2 = h p.1 := by
  rw [← o.at_]
  unfold at0
  rw [getL_of o.nd (k := p.1) (v := p.2) hp]
  rfl
theorem HpsOk.zero {B : Nat} {ps : List (Int × Int)} {h : Int → Int} (o : HpsOk B ps h) {y : Int} (hy : y ∉ keysL ps) : h y = 0 := by
  rw [← o.at_]
  unfold at0
  rw [getL_none.mpr hy]
  rfl
section
variable {P : Program} {w : World} {K : PySem.W.Frag} {mg : Str → Option Value} {base : Heap}
theorem keys_tr {ns : List Int} {b : Bool} : keysL (ns.map fun y => (y, b)) = ns := by
  unfold keysL
  rw [List.map_map]
  exact List.map_id _
theorem isSome_tr {B : Nat} {ns : List Int} {L : Int → Bool} (o : LfsOk B ns L) (y : Int) : ((getL (ns.map fun y => (y, true)) y).map V.bl).isSome = L y := by
  cases e : getL (ns.map fun y => (y, true)) y with
  | none =>
    have h := getL_none.mp e
    rw [keys_tr] at h
    cases q : L y with
    | false => rfl
    | true => exact absurd ((o.at_ y).mpr q) h
  | some v =>
    have h : y ∈ ns := by
      have h2 : y ∈ keysL (ns.map fun y => (y, true)) := List.mem_map.mpr ⟨(y, v), getL_mem e, rfl⟩
      rw [keys_tr] at h2
      exact h2
    rw [(o.at_ y).mp h]
    rfl
def trip (h : Int → Int) (L : Int → Bool) (p : Int × Int) : Int × Int × Int := (p.1, lft h L p.1, rgt h L p.1)
def spSent (K : PySem.W.Frag) : Sp := fun vs H Q _ => ∃ (t1 t2 : Addr) (xs : List V) (ps : List (Int × Int)) (ns : List Int) (B : Nat) (h : Int → Int) (L : Int → Bool), vs = [.ref t1, .ref t2] ∧ B ≤ 1000 ∧ SqT K H t1 xs ∧ PrL K H xs ps ∧ SqT K H t2 (ns.map V.int) ∧ HpsOk B ps h ∧ LfsOk B ns L ∧
  RetV H Q fun v H' => ∃ (a : Addr) (ys : List V), v = .ref a ∧ H a = none ∧ H' a = some (.lst ys) ∧ RwL K H' ys (ps.map (trip h L))
theorem ok_sent_on (T : Txt P K mg) : Cal P w K mg base 1 "sent_on" (spSent K) [] := by
  refine c_sent_on T (fun vs H Q E h => ?_) fun cdv A outer s H vs Q E hr h => ?_
  · obtain ⟨t1, t2, xs, ps, ns, B, h, L, rfl, _⟩ := h
    rfl
  obtain ⟨t1, t2, xs, ps, ns, B, h, L, rfl, hB, ht1, hps, ht2, hh, hL, hQ⟩ := h
  refine ⟨_, (pss_cons (ps_par (i := 2) (j := 3) rfl sc_sent_on.nd rfl rfl (by decide) rfl rfl (pa_cons (pe_dc (own := [("spot", 4)]) (g := (gName 4)) (tt := tYes) rfl sc_sent_on.nd (pi_tup (pv 1)) (blkOk_by (own := [("spot", 4)]) (N := n_sent_on) (sc := defScope s_sent_on) (by decide +kernel)) (fun _ _ _ _ _ => (pg_name (i := 4) sc_sent_on.nd rfl (by first | exact Or.inl rfl | exact Or.inr rfl))) (fun _ _ _ _ _ => pts_nil) (fun _ _ _ _ _ => (pv 4)) (fun _ _ _ _ _ => pe_bl)) (pa_cons (pe_lst pa_nil) pa_nil)) (by rfl))
      (pss_cons (ps_for PassesOwn.never rfl (pi_tup (pv 0)) (pg_tup rfl (pgs_cons (pg_name (i := 4) sc_sent_on.nd rfl (by first | exact Or.inl rfl | exact Or.inr rfl)) (pgs_cons (pg_name (i := 5) sc_sent_on.nd rfl (by first | exact Or.inl rfl | exact Or.inr rfl)) pgs_nil)))
      (pss_cons (ps_set (i := 6) sc_sent_on.nd rfl (by first | exact Or.inl rfl | exact Or.inr rfl) (pe_op op_sub (pv 5) (pe_op op_fdiv (pv 5) pe_int)))
      (pss_one (ps_expr (pe_bm PySem.F.plainAttrs_list PySem.F.slot_list_append PySem.F.type_list_append mt_append (pv 3) (pa_cons (pe_ifExp (pt_cmp (pc_din (hu_of hr) (pv 4) (pv 2))) (pe_tup (pa_cons (pv 4) (pa_cons (pv 6) (pa_cons (pe_op op_fdiv (pv 5) pe_int) pa_nil)))) (pe_tup (pa_cons (pv 4) (pa_cons (pe_op op_fdiv (pv 5) pe_int) (pa_cons (pv 6) pa_nil))))) pa_nil))))))
      (pss_one (ps_ret (pv 3))))), ?_⟩
  have hnl := span_len hL.nd hL.span
  have hpl := hh.len
  refine ⟨_, rfl, t2, rfl, ⟨_, ht2⟩, fun D hD => dcK_it walk_tup (fun i H' => Same H H' ∧ H' D = some (.dK (enc V.bl ((ns.take i).map fun y => (y, true))))) ⟨same_new hD, upd_same⟩ (fun i H' _ ⟨e, _⟩ => Same.sqt e ht2) ?_ ?_⟩
  · rintro i x H1 H2 hi ⟨sm, hD1⟩ ⟨rfl, hx⟩
    obtain ⟨y, hy, rfl⟩ := at_map hx
    refine ⟨rfl, tyes ⟨_, rfl, enc V.bl ((ns.take i).map fun y => (y, true)), Sum.inl y, rfl, hD1, ?_, same_mut sm hD, ?_⟩⟩
    · rw [enc_len, List.length_map]
      have := List.length_take_le' i ns
      exact sz_of (by omega)
    · rw [show V.bl true = V.bl (true : Bool) from rfl, putK_enc, putL_new, take_succ_at hy, List.map_append]
      · exact upd_same
      · intro z
        obtain ⟨q, hq, e⟩ := List.mem_map.mp z
        obtain ⟨u, hu, rfl⟩ := List.mem_map.mp hq
        have n := nodup_next (f := id) (by rw [List.map_id]; exact hL.nd) hy
        rw [List.map_id] at n
        exact n (by rw [← show u = y from e]; exact hu)
  · rintro H1 ⟨sm, hD1⟩
    rw [List.length_map, List.take_length] at hD1
    refine ⟨Nat.zero_le _, fun F hF => ?_⟩
    have sF := same_new (o := .lst []) hF
    have hF0 : H F = none := Same.back sm hF
    refine ⟨_, _, rfl, _, rfl, t1, rfl, ⟨xs, Same.sqt (sm.trans sF) ht1⟩, for_it walk_tup (fun i σ H' => ∃ (e4 e5 e6 : Option V) (ys : List V), σ = [some (.ref t1), some (.ref t2), some (.ref D), some (.ref F), e4, e5, e6] ∧ Same H H' ∧ H' D = some (.dK (enc V.bl (ns.map fun y => (y, true)))) ∧ H' F = some (.lst ys) ∧ RwL K H' ys ((ps.take i).map (trip h L)))
      ⟨none, none, none, [], rfl, sm.trans sF, sF _ _ hD1, upd_same, .nil⟩ (fun i σ H' _ ⟨_, _, _, _, _, e, _⟩ => Same.sqt e ht1) ?_ ?_⟩
    · rintro i x σ H2 H3 hi ⟨e4, e5, e6, ys, rfl, sm2, hD2, hF2, hys⟩ ⟨rfl, hx⟩
      obtain ⟨q, hq, a, rfl, hP⟩ := paired_at hps hx
      have hP2 := Same.sqt sm2 hP
      have nDF : D ≠ F := fun z => by rw [z, hF2] at hD2; nomatch hD2
      have hql := List.mem_of_getElem? hq
      have hqv := hh.mem hql
      have hlen : ys.length ≤ 3000 := by
        have h1 := Paired.length hys
        rw [List.length_map] at h1
        have := List.length_take_le' i ps
        omega
      refine ⟨a, _, rfl, hP2, rfl, _, _, rfl, _, _, rfl, rfl, ?_⟩
      refine ⟨_, rfl, _, rfl, _, _, rfl, rfl, ⟨by decide, by decide⟩, _, _, rfl, rfl, ?_⟩
      refine ⟨_, rfl, .inl ⟨rfl, _, .inl (.inl hF2)⟩, _, rfl, _, rfl, D, _, rfl, DGet.i hD2 q.1, ?_⟩
      rw [isSome_tr hL]
      refine ⟨_, rfl, ?_⟩
      have fin : ∀ T1, H3 T1 = none → F ≠ T1 ∧ Im (upd H3 T1 (.tup [.int q.1, .int (lft h L q.1), .int (rgt h L q.1)])) (upd (upd H3 T1 (.tup [.int q.1, .int (lft h L q.1), .int (rgt h L q.1)])) F (.lst (ys ++ [.ref T1]))) ∧ RwL K (upd (upd H3 T1 (.tup [.int q.1, .int (lft h L q.1), .int (rgt h L q.1)])) F (.lst (ys ++ [.ref T1]))) (ys ++ [.ref T1]) ((ps.take (i + 1)).map (trip h L)) := by
        intro T1 hT1
        have n : F ≠ T1 := ne_of_none hF2 hT1
        have im : Im (upd H3 T1 (.tup [.int q.1, .int (lft h L q.1), .int (rgt h L q.1)])) (upd (upd H3 T1 (.tup [.int q.1, .int (lft h L q.1), .int (rgt h L q.1)])) F (.lst (ys ++ [.ref T1]))) := Im.mut (by rw [upd_ne n, hF2]; trivial)
        refine ⟨n, im, ?_⟩
        rw [take_succ_at hq, List.map_append]
        exact paired_app (hys.im ((Im.new hT1).trans im)) (.cons ⟨T1, rfl, im.sqt (.inl (.inl upd_same))⟩ .nil)
      cases hLq : L q.1 with
      | true =>
        have ev : lft h L q.1 = q.2 - q.2 / 2 ∧ rgt h L q.1 = q.2 / 2 := by
          unfold rgt lft
          rw [hLq, if_pos rfl, ← hqv]
          omega
        refine iteT ⟨_, rfl, _, rfl, _, rfl, _, _, rfl, rfl, ⟨by decide, by decide⟩, by show 3 ≤ sizeLine; decide, fun T1 hT1 => ?_⟩
        obtain ⟨n, im, f⟩ := fin T1 hT1
        rw [ev.1, ev.2] at f
        refine ⟨F, ys, _, rfl, rfl, by rw [upd_ne n]; exact hF2, sz_of (by omega), _, _, _, _, rfl, same_mut (sm2.trans (same_new hT1)) hF0, ?_, upd_same, f⟩
        rw [upd_ne nDF, upd_ne (ne_of_none hD2 hT1)]
        exact hD2
      | false =>
        have ev : lft h L q.1 = q.2 / 2 ∧ rgt h L q.1 = q.2 - q.2 / 2 := by
          unfold rgt lft
          rw [hLq, if_neg (by decide), ← hqv]
          omega
        refine iteF ⟨_, rfl, _, rfl, _, _, rfl, rfl, ⟨by decide, by decide⟩, _, rfl, by show 3 ≤ sizeLine; decide, fun T1 hT1 => ?_⟩
        obtain ⟨n, im, f⟩ := fin T1 hT1
        rw [ev.1, ev.2] at f
        refine ⟨F, ys, _, rfl, rfl, by rw [upd_ne n]; exact hF2, sz_of (by omega), _, _, _, _, rfl, same_mut (sm2.trans (same_new hT1)) hF0, ?_, upd_same, f⟩
        rw [upd_ne nDF, upd_ne (ne_of_none hD2 hT1)]
        exact hD2
    · rintro σ H2 ⟨e4, e5, e6, ys, rfl, sm2, hD2, hF2, hys⟩
      rw [show xs.length = ps.length from Paired.length hps, List.take_length] at hys
      exact ⟨_, rfl, hQ _ _ sm2 ⟨F, ys, rfl, hF0, hF2, hys⟩⟩
/-! the line -/
def lineF (a b c : V) : List (Str × V) := [(("tick" : Str), a), (("heaps" : Str), b), (("lefts" : Str), c)]
theorem s_th : ¬ (("tick" : Str) = ("heaps" : Str)) := by decide +kernel
theorem s_tl : ¬ (("tick" : Str) = ("lefts" : Str)) := by decide +kernel
theorem s_hl : ¬ (("heaps" : Str) = ("lefts" : Str)) := by decide +kernel
theorem pf_1 {a : V} : putF ("tick" : Str) a [] = [(("tick" : Str), a)] := rfl
theorem pf_2 {a b : V} : putF ("heaps" : Str) b [(("tick" : Str), a)] = [(("tick" : Str), a), (("heaps" : Str), b)] := by
  unfold putF
  rw [if_neg s_th]
  rfl
theorem pf_3 {a b c : V} : putF ("lefts" : Str) c [(("tick" : Str), a), (("heaps" : Str), b)] = lineF a b c := by
  unfold putF
  rw [if_neg s_tl]
  unfold putF
  rw [if_neg s_hl]
  rfl
theorem pf_t {a b c d : V} : putF ("tick" : Str) d (lineF a b c) = lineF d b c := by
  unfold lineF putF
  rw [if_pos rfl]
theorem pf_h {a b c d : V} : putF ("heaps" : Str) d (lineF a b c) = lineF a d c := by
  unfold lineF putF
  rw [if_neg s_th]
  unfold putF
  rw [if_pos rfl]
theorem pf_l {a b c d : V} : putF ("lefts" : Str) d (lineF a b c) = lineF a b d := by
  unfold lineF putF
  rw [if_neg s_tl]
  unfold putF
  rw [if_neg s_hl]
  unfold putF
  rw [if_pos rfl]
theorem lf_t {a b c : V} : (lineF a b c).lookup ("tick" : Str) = some a := rfl
theorem lf_h {a b c : V} : (lineF a b c).lookup ("heaps" : Str) = some b := rfl
theorem lf_l {a b c : V} : (lineF a b c).lookup ("lefts" : Str) = some c := rfl
theorem lf_ad {a b c : V} : (lineF a b c).lookup ("advance" : Str) = none := rfl
theorem lf_fo {a b c : V} : (lineF a b c).lookup ("forward" : Str) = none := rfl
theorem lf_ha {a b c : V} : (lineF a b c).lookup ("heap_at" : Str) = none := rfl
def IsLine (K : PySem.W.Frag) (H : Hp) (p : Addr) (tick : Int) (ps : List (Int × Int)) (ns : List Int) : Prop := ∃ (dx : Addr) (u v : V), H p = some (.ins (He.ga K "Line") dx (lineF (.int tick) u v)) ∧ HpV K H u ps ∧ InT K H v ns
theorem IsLine.mono {H H' : Hp} {p : Addr} {tick : Int} {ps : List (Int × Int)} {ns : List Int} (e : Same H H') (h : IsLine K H p tick ps ns) : IsLine K H' p tick ps ns := by
  obtain ⟨dx, u, v, h1, h2, h3⟩ := h
  exact ⟨dx, u, v, e _ _ h1, h2.im (Im.of e), h3.im (Im.of e)⟩
def spLineInit (K : PySem.W.Frag) : Sp := fun vs H Q _ => ∃ (x dx a : Addr) (b : Bool) (xs : List V) (ps : List (Int × Int)) (c : Int) (a2 : Addr) (b2 : Bool) (ns : List Int), vs = [.ref x, .ref a, .ref a2] ∧ H x = some (.ins (He.ga K "Line") dx []) ∧ SqB K b H a xs ∧ PrL K H xs ps ∧ SqB K b2 H a2 (ns.map V.int) ∧ startOk ps c ns ∧
  ∀ (H' : Hp) (ps' : List (Int × Int)) (ns' : List Int), (∀ b o, b ≠ x → H b = some o → H' b = some o) → ps'.Perm ps → ns'.Perm ns → IsLine K H' x 0 ps' ns' → Q .non H'
theorem ok_Line_init (T : Txt P K mg) : Mak P w K mg base 7 "Line" (He.ga K "Line") (spLineInit K) [] := by
  have h_need_start := ok_need_start (P := P) (w := w) (base := base) T
  refine c_Line_init T (fun vs H Q E h => ?_) fun cdv A outer s H vs Q E hr h => ?_
  · obtain ⟨x, dx, a, b, xs, ps, c, a2, b2, ns, rfl, _⟩ := h
    rfl
  obtain ⟨x, dx, a, b, xs, ps, c, a2, b2, ns, rfl, hx0, ha, hp, hn, ho, hQ⟩ := h
  refine ⟨_, (pss_cons (ps_asg (pe_c h_need_start hr (by decide) (by rfl) (pa_cons (pv 1) (pa_cons (pv 2) pa_nil))) (pg_tup rfl (pgs_cons (pg_name (i := 3) sc_Line_init.nd rfl (by first | exact Or.inl rfl | exact Or.inr rfl)) (pgs_cons (pg_name (i := 4) sc_Line_init.nd rfl (by first | exact Or.inl rfl | exact Or.inr rfl)) pgs_nil))))
      (pss_cons (ps_fld (pv 0) pe_int rfl)
      (pss_cons (ps_fld (pv 0) (pv 3) rfl)
      (pss_one (ps_fld (pv 0) (pv 4) rfl))))), ?_⟩
  refine ⟨_, rfl, _, rfl, a, b, xs, ps, c, a2, b2, ns, rfl, ha, hp, hn, ho, ?_⟩
  rintro v H1 s1 ⟨t, u1, u2, ps', ns', rfl, ht, pm, h1, qm, h2⟩
  refine ⟨t, _, rfl, ht, rfl, _, _, rfl, _, _, rfl, rfl, ?_⟩
  have hx1 := s1 _ _ hx0
  refine ⟨_, rfl, x, _, dx, [], rfl, hx1, cl_Line T, no_Line_tick T, by show 0 < 1000; decide, ?_⟩
  rw [pf_1]
  refine ⟨_, rfl, _, rfl, x, _, dx, _, rfl, upd_same, cl_Line T, no_Line_heaps T, by show 1 < 1000; decide, ?_⟩
  rw [pf_2, upd_upd]
  refine ⟨_, rfl, _, rfl, x, _, dx, _, rfl, upd_same, cl_Line T, no_Line_lefts T, by show 2 < 1000; decide, ?_⟩
  rw [pf_3, upd_upd]
  have im : Im H1 (upd H1 x (.ins (He.ga K "Line") dx (lineF (.int 0) u1 u2))) := Im.mut (by rw [hx1]; trivial)
  exact hQ _ ps' ns' (fun b o hb e => by rw [upd_ne hb]; exact s1 _ _ e) pm qm ⟨dx, u1, u2, upd_same, h1.im im, h2.im im⟩
def spHeapAt (K : PySem.W.Frag) : Sp := fun vs H Q _ => ∃ (p : Addr) (y tick : Int) (ps : List (Int × Int)) (ns : List Int), vs = [.ref p, .int y] ∧ IsLine K H p tick ps ns ∧ (keysL ps).Nodup ∧ ps.length ≤ 10000 ∧ RetV H Q fun v _ => v = .int (at0 ps y)
theorem ok_Line_heap_at (T : Txt P K mg) : Met P w K mg base 4 (He.ga K "Line") "heap_at" (spHeapAt K) [] := by
  have h_need_number := ok_need_number (P := P) (w := w) (base := base) T
  refine c_Line_heap_at T (fun vs H Q E h => ?_) fun cdv A outer s H vs Q E hr h => ?_
  · obtain ⟨p, y, tick, ps, ns, rfl, _⟩ := h
    rfl
  obtain ⟨p, y, tick, ps, ns, rfl, ⟨dx, u, v, hp, ⟨t, ys, rfl, ht, hys⟩, h2⟩, hnd, hl, hQ⟩ := h
  refine ⟨_, (pss_cons (ps_expr (pe_c h_need_number hr (by decide) (by rfl) (pa_cons (pv 1) (pa_cons pe_str (pa_cons pe_non (pa_cons pe_non pa_nil))))))
      (pss_one (ps_ret (pe_dget2 (hu_of hr) (pe_callTy (cr_dictB rfl) (by rfl) (z_dict T) (by decide +kernel) (pa_cons (pe_fld (pv 0) rfl) pa_nil)) (pv 1) pe_int ⟨rfl, rfl, rfl, rfl⟩)))), ?_⟩
  refine ⟨_, rfl, y, _, none, none, rfl, rfl, ?_⟩
  refine ⟨_, rfl, p, _, dx, _, _, rfl, hp, cl_Line T, no_Line_heaps T, lf_h, t, ys, ps, rfl, .inr ht, hys, hnd, hl, fun d hd => ?_⟩
  refine ⟨d, rfl, .inl ⟨_, .inl upd_same⟩, _, rfl, _, DGet.i upd_same y, ?_⟩
  rw [getD_int]
  exact hQ _ _ (same_new hd) rfl
def spLineAt (K : PySem.W.Frag) : Sp := fun vs H Q _ => ∃ (tick : Int) (u v : V) (ps : List (Int × Int)) (ns : List Int), vs = [.int tick, u, v] ∧ HpV K H u ps ∧ InT K H v ns ∧ ∀ (p : Addr) (H' : Hp), H p = none → Same H H' → IsLine K H' p tick ps ns → Q (.ref p) H'
theorem ok_line_at (T : Txt P K mg) : Cal P w K mg base 9 "line_at" (spLineAt K) [] := by
  have h_Line := ok_Line_init (P := P) (w := w) (base := base) T
  refine c_line_at T (fun vs H Q E h => ?_) fun cdv A outer s H vs Q E hr h => ?_
  · obtain ⟨tick, u, v, ps, ns, rfl, _⟩ := h
    rfl
  obtain ⟨tick, u, v, ps, ns, rfl, ⟨t, ys, rfl, ht, hys⟩, ⟨t2, rfl, ht2⟩, hQ⟩ := h
  refine ⟨_, (pss_cons (ps_set (i := 3) sc_line_at.nd rfl (by first | exact Or.inl rfl | exact Or.inr rfl) (pe_mk h_Line hr (by decide) (by rfl) (pa_cons (pe_tup pa_nil) (pa_cons (pe_tup pa_nil) pa_nil))))
      (pss_cons (ps_fld (pv 3) (pv 0) rfl)
      (pss_cons (ps_fld (pv 3) (pe_callTy call_tuple_of (by rfl) (z_tuple T) (by decide +kernel) (pa_cons (pv 1) pa_nil)) rfl)
      (pss_cons (ps_fld (pv 3) (pe_callTy call_tuple_of (by rfl) (z_tuple T) (by decide +kernel) (pa_cons (pv 2) pa_nil)) rfl)
      (pss_one (ps_ret (pv 3))))))), ?_⟩
  refine ⟨Nat.zero_le _, fun a ha => ⟨Nat.zero_le _, fun a2 ha2 x dx hx hdx hne => ?_⟩⟩
  have sA := same_new (o := .tup []) ha
  have sB := same_new (o := .tup []) ha2
  have sD := same_new (o := .own x) hdx
  have hx' : upd (upd (upd H a (.tup [])) a2 (.tup [])) dx (.own x) x = none := by rw [upd_ne hne.symm]; exact hx
  have sX := same_new (o := .ins (He.ga K "Line") dx []) hx'
  have s4 := (sA.trans sB).trans (sD.trans sX)
  have hx0 : H x = none := Same.back (sA.trans sB) hx
  refine ⟨x, dx, a, false, [], [], 0, a2, false, [], rfl, upd_same, .inl (.inl ((sB.trans (sD.trans sX)) _ _ upd_same)), .nil, .inl (.inl ((sD.trans sX) _ _ upd_same)), ⟨⟨by decide, fun p h => (nomatch h), List.nodup_nil⟩, fun p h => (nomatch h), ⟨by decide, fun p h => (nomatch h), List.nodup_nil⟩⟩, ?_⟩
  rintro H1 ps' ns' keep pm qm ⟨dx2, u2, v2, hp1, h1, h2⟩
  refine ⟨rfl, ?_⟩
  have s1 : Same H H1 := fun b o e => keep b o (ne_of_none e hx0) (s4 b o e)
  have hpt : SqT K H1 t ys := Same.sqt s1 ht.sq
  have htX := ht.mono s1
  have hys1 := hys.im (Im.of s1)
  have ht21 := Same.sqt s1 ht2
  have im : ∀ fs, Im H1 (upd H1 x (.ins (He.ga K "Line") dx2 fs)) := fun fs => Im.mut (by rw [hp1]; trivial)
  refine ⟨_, rfl, _, rfl, x, _, dx2, _, rfl, hp1, cl_Line T, no_Line_tick T, by show 3 < 1000; decide, ?_⟩
  rw [pf_t]
  refine ⟨_, rfl, t, ys, rfl, .inr ⟨(im _).sqt hpt, ?_⟩⟩
  refine ⟨_, rfl, x, _, dx2, _, rfl, upd_same, cl_Line T, no_Line_heaps T, by show 3 < 1000; decide, ?_⟩
  rw [pf_h, upd_upd]
  refine ⟨_, rfl, t2, _, rfl, .inr ⟨(im _).sqt ht21, ?_⟩⟩
  refine ⟨_, rfl, x, _, dx2, _, rfl, upd_same, cl_Line T, no_Line_lefts T, by show 3 < 1000; decide, ?_⟩
  rw [pf_l, upd_upd]
  exact ⟨_, rfl, hQ x _ hx0 (same_mut s1 hx0) ⟨dx2, .ref t, .ref t2, upd_same, ⟨t, ys, rfl, htX.im (im _), hys1.im (im _)⟩, ⟨t2, rfl, (im _).sqt ht21⟩⟩⟩
theorem getL_perm {β : Type} {L M : List (Int × β)} (p : M.Perm L) (hn : (keysL L).Nodup) (k : Int) : getL M k = getL L k := by
  have pk : (keysL M).Perm (keysL L) := p.map _
  have hm : (keysL M).Nodup := pk.nodup_iff.mpr hn
  cases e : getL L k with
  | none => exact getL_none.mpr fun z => getL_none.mp e (pk.mem_iff.mp z)
  | some v => exact getL_of hm (p.mem_iff.mpr (getL_mem e))
theorem at0_perm {L M : List (Int × Int)} (p : M.Perm L) (hn : (keysL L).Nodup) (k : Int) : at0 M k = at0 L k := by
  unfold at0
  rw [getL_perm p hn]
theorem HpsOk.perm {B : Nat} {ps ps' : List (Int × Int)} {h : Int → Int} (o : HpsOk B ps h) (p : ps'.Perm ps) : HpsOk B ps' h :=
  ⟨(List.Perm.nodup_iff (p.map _)).mpr o.nd, fun y => (at0_perm p o.nd y).trans (o.at_ y), o.nn, fun y hy => o.span y ((List.Perm.mem_iff (p.map _)).mp hy)⟩
theorem LfsOk.perm {B : Nat} {ns ns' : List Int} {L : Int → Bool} (o : LfsOk B ns L) (p : ns'.Perm ns) : LfsOk B ns' L :=
  ⟨p.nodup_iff.mpr o.nd, fun y => p.mem_iff.trans (o.at_ y), fun y hy => o.span y (p.mem_iff.mp hy)⟩
theorem nd_filter {β : Type} {L : List (Int × β)} {f : Int × β → Bool} (h : (keysL L).Nodup) : (keysL (L.filter f)).Nodup := h.sublist (List.Sublist.map _ List.filter_sublist)
theorem keys_filter {β : Type} {L : List (Int × β)} {f : Int × β → Bool} {y : Int} (h : y ∈ keysL (L.filter f)) : y ∈ keysL L := by
  obtain ⟨p, hp, e⟩ := List.mem_map.mp h
  exact List.mem_map.mpr ⟨p, (List.mem_filter.mp hp).1, e⟩
theorem at0_filter {L : List (Int × Int)} (hn : (keysL L).Nodup) (nn : ∀ y, 0 ≤ at0 L y) (y : Int) : at0 (L.filter fun p => decide (0 < p.2)) y = at0 L y := by
  have key : ∀ v, getL L y = some v → at0 L y = v := fun v e => by unfold at0; rw [e]; rfl
  cases e : getL (L.filter fun p => decide (0 < p.2)) y with
  | some v =>
    have m := List.mem_filter.mp (getL_mem e)
    rw [key v (getL_of hn m.1)]
    unfold at0
    rw [e]
    rfl
  | none =>
    have z : at0 (L.filter fun p => decide (0 < p.2)) y = 0 := by unfold at0; rw [e]; rfl
    rw [z]
    cases e2 : getL L y with
    | none => unfold at0; rw [e2]; rfl
    | some v =>
      rw [key v e2]
      have n := getL_none.mp e
      have h0 := nn y
      rw [key v e2] at h0
      by_cases c : 0 < v
      · exact absurd (List.mem_map.mpr ⟨(y, v), List.mem_filter.mpr ⟨getL_mem e2, decide_eq_true c⟩, rfl⟩) n
      · omega
/-- midway: done the spots whose chips are sent -/
structure AdvS (H : Hp) (D1 D2 : Addr) (B : Nat) (g : Int → Int) (b : Int → Bool) (LT : List (Int × Int)) (LF : List (Int × Bool)) : Prop where
  h1 : H D1 = some (.dK (enc V.int LT))
  h2 : H D2 = some (.dK (enc V.bl LF))
  n1 : (keysL LT).Nodup
  n2 : (keysL LF).Nodup
  a1 : ∀ y, at0 LT y = g y
  a2 : ∀ y, (getL LF y).getD false = b y
  s1 : ∀ y ∈ keysL LT, -((B + 1 : Nat) : Int) ≤ y ∧ y ≤ (B + 1 : Nat)
  s2 : ∀ y ∈ keysL LF, -(B : Int) ≤ y ∧ y ≤ B
theorem AdvS.put1 {H : Hp} {D1 D2 : Addr} {B : Nat} {g : Int → Int} {b : Int → Bool} {LT : List (Int × Int)} {LF : List (Int × Bool)} (a : AdvS H D1 D2 B g b LT LF) (n : D1 ≠ D2) {k v : Int} (hk : -((B + 1 : Nat) : Int) ≤ k ∧ k ≤ (B + 1 : Nat)) :
    AdvS (upd H D1 (.dK (enc V.int (putL LT k (at0 LT k + v))))) D1 D2 B (fun z => g z + if k = z then v else 0) b (putL LT k (at0 LT k + v)) LF := by
  refine ⟨upd_same, by rw [upd_ne n.symm]; exact a.h2, nd_put a.n1, a.n2, fun y => ?_, a.a2, fun y hy => ?_, a.s2⟩
  · rw [at0_put, a.a1, a.a1]
    by_cases c : y = k
    · rw [if_pos c, if_pos c.symm, c]
    · rw [if_neg c, if_neg (fun z => c z.symm), Int.add_zero]
  · rcases mem_put.mp hy with rfl | hy
    · exact hk
    · exact a.s1 y hy
theorem AdvS.put2 {H : Hp} {D1 D2 : Addr} {B : Nat} {g : Int → Int} {b : Int → Bool} {LT : List (Int × Int)} {LF : List (Int × Bool)} (a : AdvS H D1 D2 B g b LT LF) (n : D1 ≠ D2) {k : Int} {v : Bool} (hk : -(B : Int) ≤ k ∧ k ≤ B) :
    AdvS (upd H D2 (.dK (enc V.bl (putL LF k v)))) D1 D2 B g (fun z => if z = k then v else b z) LT (putL LF k v) := by
  refine ⟨by rw [upd_ne n]; exact a.h1, upd_same, a.n1, nd_put a.n2, a.a1, fun y => ?_, a.s1, fun y hy => ?_⟩
  · rw [get_put]
    by_cases c : y = k
    · rw [if_pos c, if_pos c]
      rfl
    · rw [if_neg c, if_neg c]
      exact a.a2 y
  · rcases mem_put.mp hy with rfl | hy
    · exact hk
    · exact a.s2 y hy
theorem AdvS.same {H H' : Hp} {D1 D2 : Addr} {B : Nat} {g : Int → Int} {b : Int → Bool} {LT : List (Int × Int)} {LF : List (Int × Bool)} (a : AdvS H D1 D2 B g b LT LF) (e : Same H H') : AdvS H' D1 D2 B g b LT LF := ⟨e _ _ a.h1, e _ _ a.h2, a.n1, a.n2, a.a1, a.a2, a.s1, a.s2⟩
theorem AdvS.to {H : Hp} {D1 D2 : Addr} {B : Nat} {g g' : Int → Int} {b b' : Int → Bool} {LT : List (Int × Int)} {LF : List (Int × Bool)} (a : AdvS H D1 D2 B g b LT LF) (e1 : ∀ y, g y = g' y) (e2 : ∀ y, b y = b' y) : AdvS H D1 D2 B g' b' LT LF := ⟨a.h1, a.h2, a.n1, a.n2, fun y => (a.a1 y).trans (e1 y), fun y => (a.a2 y).trans (e2 y), a.s1, a.s2⟩
theorem AdvS.len {H : Hp} {D1 D2 : Addr} {B : Nat} {g : Int → Int} {b : Int → Bool} {LT : List (Int × Int)} {LF : List (Int × Bool)} (a : AdvS H D1 D2 B g b LT LF) : LT.length ≤ 2 * (B + 1) + 1 ∧ LF.length ≤ 2 * B + 1 := by
  have h1 := span_len a.n1 a.s1
  have h2 := span_len a.n2 a.s2
  unfold keysL at h1 h2
  rw [List.length_map] at h1 h2
  exact ⟨h1, h2⟩
def turnL (h : Int → Int) (L : Int → Bool) (done : List Int) (y : Int) : Bool := if y ∈ done ∧ h y % 2 = 1 then !L y else L y
theorem getD_bl {LF : List (Int × Bool)} {y : Int} : (((getL LF y).map V.bl).getD (.bl false)) = .bl ((getL LF y).getD false) := by
  cases getL LF y <;> rfl
def spAdvance (K : PySem.W.Frag) : Sp := fun vs H Q _ => ∃ (p : Addr) (tick : Int) (ps : List (Int × Int)) (ns : List Int) (B : Nat) (h : Int → Int) (L : Int → Bool), vs = [.ref p] ∧ IsLine K H p tick ps ns ∧ B ≤ 100 ∧ HpsOk B ps h ∧ LfsOk B ns L ∧
  ∀ (H' : Hp) (ps' : List (Int × Int)) (ns' : List Int), Ex [p] H H' → IsLine K H' p (tick + 1) ps' ns' → HpsOk (B + 1) ps' (stepH h L) → LfsOk B ns' (stepL h L) → Q (.int (tick + 1)) H'
theorem ok_Line_advance (T : Txt P K mg) : Met P w K mg base 2 (He.ga K "Line") "advance" (spAdvance K) [] := by
  have h_sent_on := ok_sent_on (P := P) (w := w) (base := base) T
  refine c_Line_advance T (fun vs H Q E h => ?_) fun cdv A outer s H vs Q E hr h => ?_
  · obtain ⟨p, tick, ps, ns, B, h, L, rfl, _⟩ := h
    rfl
  obtain ⟨p, tick, ps, ns, B, h, L, rfl, ⟨dx, u, v, hp, ⟨t, ys, rfl, ht, hys⟩, ⟨t2, rfl, ht2⟩⟩, hB, hh, hL, hQ⟩ := h
  refine ⟨_, (pss_cons (ps_par (i := 1) (j := 2) rfl sc_Line_advance.nd rfl rfl (by decide) rfl rfl (pa_cons pe_dnewK (pa_cons (pe_dc (own := [("spot", 3)]) (g := (gName 3)) (tt := tYes) rfl sc_Line_advance.nd (pi_tup (pe_fld (pv 0) rfl)) (blkOk_by (own := [("spot", 3)]) (N := n_Line_advance) (sc := defScope s_Line_advance) (by decide +kernel)) (fun _ _ _ _ _ => (pg_name (i := 3) sc_Line_advance.nd rfl (by first | exact Or.inl rfl | exact Or.inr rfl))) (fun _ _ _ _ _ => pts_nil) (fun _ _ _ _ _ => (pv 3)) (fun _ _ _ _ _ => pe_bl)) pa_nil)) (by rfl))
      (pss_cons (ps_for PassesOwn.never rfl (pi_list (pe_c h_sent_on hr (by decide) (by rfl) (pa_cons (pe_fld (pv 0) rfl) (pa_cons (pe_fld (pv 0) rfl) pa_nil)))) (pg_tup rfl (pgs_cons (pg_name (i := 3) sc_Line_advance.nd rfl (by first | exact Or.inl rfl | exact Or.inr rfl)) (pgs_cons (pg_name (i := 4) sc_Line_advance.nd rfl (by first | exact Or.inl rfl | exact Or.inr rfl)) (pgs_cons (pg_name (i := 5) sc_Line_advance.nd rfl (by first | exact Or.inl rfl | exact Or.inr rfl)) pgs_nil))))
      (pss_cons (ps_for PassesOwn.never rfl (pi_tup (pe_tup (pa_cons (pe_tup (pa_cons (pe_op op_sub (pv 3) pe_int) (pa_cons (pv 4) pa_nil))) (pa_cons (pe_tup (pa_cons (pe_op op_add (pv 3) pe_int) (pa_cons (pv 5) pa_nil))) pa_nil)))) (pg_tup rfl (pgs_cons (pg_name (i := 6) sc_Line_advance.nd rfl (by first | exact Or.inl rfl | exact Or.inr rfl)) (pgs_cons (pg_name (i := 7) sc_Line_advance.nd rfl (by first | exact Or.inl rfl | exact Or.inr rfl)) pgs_nil)))
      (pss_one (ps_dput (hu_of hr) (pv 1) (pv 6) (pe_op op_add (pe_dget2 (hu_of hr) (pv 1) (pv 6) pe_int ⟨rfl, rfl, rfl, rfl⟩) (pv 7)) rfl)))
      (pss_one (ps_if (pt_cmpR op_ne (pv 4) (pv 5) (nomark _)) (pss_one (ps_dput (hu_of hr) (pv 2) (pv 3) (pe_not (pe_dget2 (hu_of hr) (pv 2) (pv 3) pe_bl ⟨rfl, rfl, rfl, rfl⟩)) rfl)) pss_nil))))
      (pss_cons (ps_fld (pv 0) (pe_callTy cr_tupX (by rfl) (z_tuple T) (by decide +kernel) (pa_cons (pe_callB cr_sortedP (by rfl) (z_sorted T) (by decide +kernel) (pa_cons (pe_lock (pe_lc (own := [("spot", 3), ("many", 7)]) (g := (gTup K 2 (gCons (gName 3) (gCons (gName 7) gNil)))) rfl sc_Line_advance.nd (pi_items (pv 1)) (blkOk_by (own := [("spot", 3), ("many", 7)]) (N := n_Line_advance) (sc := defScope s_Line_advance) (by decide +kernel)) (fun _ _ _ _ _ => (pg_tup rfl (pgs_cons (pg_name (i := 3) sc_Line_advance.nd rfl (by first | exact Or.inl rfl | exact Or.inr rfl)) (pgs_cons (pg_name (i := 7) sc_Line_advance.nd rfl (by first | exact Or.inl rfl | exact Or.inr rfl)) pgs_nil)))) (fun _ _ _ _ _ => (pts_one (pt_cmpR op_gt (pv 7) pe_int (nomark _)))) (fun _ _ _ _ _ => (pe_tup (pa_cons (pv 3) (pa_cons (pv 7) pa_nil)))))) pa_nil)) pa_nil)) rfl)
      (pss_cons (ps_fld (pv 0) (pe_callTy call_tuple_of (by rfl) (z_tuple T) (by decide +kernel) (pa_cons (pe_callB cr_sortedI (by rfl) (z_sorted T) (by decide +kernel) (pa_cons (pe_lock (pe_lc (own := [("spot", 3), ("is_left", 8)]) (g := (gTup K 2 (gCons (gName 3) (gCons (gName 8) gNil)))) rfl sc_Line_advance.nd (pi_items (pv 2)) (blkOk_by (own := [("spot", 3), ("is_left", 8)]) (N := n_Line_advance) (sc := defScope s_Line_advance) (by decide +kernel)) (fun _ _ _ _ _ => (pg_tup rfl (pgs_cons (pg_name (i := 3) sc_Line_advance.nd rfl (by first | exact Or.inl rfl | exact Or.inr rfl)) (pgs_cons (pg_name (i := 8) sc_Line_advance.nd rfl (by first | exact Or.inl rfl | exact Or.inr rfl)) pgs_nil)))) (fun _ _ _ _ _ => (pts_one (pt_val (pv 8)))) (fun _ _ _ _ _ => (pv 3)))) pa_nil)) pa_nil)) rfl)
      (pss_cons (ps_fld (pv 0) (pe_op op_add (pe_fld (pv 0) rfl) pe_int) rfl)
      (pss_one (ps_ret (pe_fld (pv 0) rfl)))))))), ?_⟩
  have hnl := span_len hL.nd hL.span
  have hpl := hh.len
  refine fun D1 hD1 => ?_
  have sD := same_new (o := .dK []) hD1
  refine ⟨_, rfl, p, _, dx, _, _, rfl, sD _ _ hp, cl_Line T, no_Line_lefts T, lf_l, t2, rfl, ⟨_, Same.sqt sD ht2⟩, fun D2 hD2 => dcK_it walk_tup (fun i H' => Same (upd H D1 (.dK [])) H' ∧ H' D2 = some (.dK (enc V.bl ((ns.take i).map fun y => (y, true))))) ⟨same_new hD2, upd_same⟩ (fun i H' _ ⟨e, _⟩ => Same.sqt (sD.trans e) ht2) ?_ ?_⟩
  · rintro i x H1 H2 hi ⟨sm, hD2'⟩ ⟨rfl, hx⟩
    obtain ⟨y, hy, rfl⟩ := at_map hx
    refine ⟨rfl, tyes ⟨_, rfl, enc V.bl ((ns.take i).map fun y => (y, true)), Sum.inl y, rfl, hD2', ?_, same_mut sm hD2, ?_⟩⟩
    · rw [enc_len, List.length_map]
      have := List.length_take_le' i ns
      exact sz_of (by omega)
    · rw [show V.bl true = V.bl (true : Bool) from rfl, putK_enc, putL_new, take_succ_at hy, List.map_append]
      · exact upd_same
      · intro z
        obtain ⟨q, hq, e⟩ := List.mem_map.mp z
        obtain ⟨u, hu, rfl⟩ := List.mem_map.mp hq
        have n := nodup_next (f := id) (by rw [List.map_id]; exact hL.nd) hy
        rw [List.map_id] at n
        exact n (by rw [← show u = y from e]; exact hu)
  rintro H1 ⟨sm, hD2'⟩
  rw [List.length_map, List.take_length] at hD2'
  have s01 : Same H H1 := sD.trans sm
  have hD11 : H1 D1 = some (.dK []) := sm _ _ upd_same
  have hD20 : H D2 = none := Same.back sD hD2
  have nD : D1 ≠ D2 := fun z => by rw [← z, upd_same] at hD2; nomatch hD2
  have adv0 : AdvS H1 D1 D2 B (sentTo h L []) (turnL h L []) [] (ns.map fun y => (y, true)) := by
    refine ⟨hD11, hD2', List.nodup_nil, by rw [keys_tr]; exact hL.nd, fun y => rfl, fun y => ?_, fun y hy => (nomatch hy), fun y hy => hL.span y (by rw [keys_tr] at hy; exact hy)⟩
    have e := isSome_tr hL y
    unfold turnL
    rw [if_neg (fun z => nomatch z.1)]
    cases q : getL (ns.map fun y => (y, true)) y with
    | none => rw [q] at e; exact e
    | some v =>
      rw [q] at e
      have m := getL_mem q
      obtain ⟨z, _, ez⟩ := List.mem_map.mp m
      cases ez
      exact e
  refine ⟨_, _, rfl, ?_⟩
  have hp1 := s01 _ _ hp
  refine ⟨_, rfl, p, _, dx, _, _, rfl, hp1, cl_Line T, no_Line_heaps T, lf_h, _, rfl, p, _, dx, _, _, rfl, hp1, cl_Line T, no_Line_lefts T, lf_l, ?_⟩
  refine ⟨t, t2, ys, ps, ns, B, h, L, rfl, by omega, Same.sqt s01 ht.sq, hys.im (Im.of s01), Same.sqt s01 ht2, hh, hL, ?_⟩
  rintro v H2 s2 ⟨a, zs, rfl, ha0, ha, hzs⟩
  have s02 := s01.trans s2
  have adv1 : AdvS H2 D1 D2 B (sentTo h L []) (turnL h L []) [] (ns.map fun y => (y, true)) := ⟨s2 _ _ adv0.h1, s2 _ _ adv0.h2, adv0.n1, adv0.n2, adv0.a1, adv0.a2, adv0.s1, adv0.s2⟩
  have hzl : zs.length = ps.length := by rw [Paired.length hzs, List.length_map]
  refine ⟨a, rfl, ⟨zs, .inl (.inl ha)⟩, for_it walk_list (fun i σ H' => ∃ (e3 e4 e5 e6 e7 e8 : Option V) (LT : List (Int × Int)) (LF : List (Int × Bool)), σ = [some (.ref p), some (.ref D1), some (.ref D2), e3, e4, e5, e6, e7, e8] ∧ Nd H2 H' ∧ Same H H' ∧ AdvS H' D1 D2 B (sentTo h L ((keysL ps).take i)) (turnL h L ((keysL ps).take i)) LT LF)
    ⟨none, none, none, none, none, none, _, _, rfl, Nd.refl _, s02, adv1⟩ (fun i σ H' _ ⟨_, _, _, _, _, _, _, _, _, e, _⟩ => .inl (.inl (e a _ (fun m z => by nomatch z) ha))) ?_ ?_⟩
  · rintro i x σ H3 H4 hi ⟨e3, e4, e5, e6, e7, e8, LT, LF, rfl, nd3, sm3, adv⟩ ⟨rfl, hx⟩
    obtain ⟨r, hr1, xa, rfl, hP⟩ := paired_at hzs hx
    rw [List.getElem?_map] at hr1
    obtain ⟨q, hq, rfl⟩ := Option.map_eq_some_iff.mp hr1
    have hky : (keysL ps)[i]? = some q.1 := by unfold keysL; rw [List.getElem?_map, hq]; rfl
    have hys1 := hh.span q.1 (List.mem_of_getElem? hky)
    have hP4 := nd3.im.sqt hP
    generalize hyv : q.1 = y at hky hys1
    have hP4 : SqT K H4 xa [.int y, .int (lft h L y), .int (rgt h L y)] := by rw [← hyv]; exact hP4
    refine ⟨xa, _, rfl, hP4, rfl, _, _, rfl, _, _, rfl, _, _, rfl, rfl, ?_⟩
    refine ⟨_, rfl, _, _, rfl, rfl, _, rfl, by show 2 ≤ sizeLine; decide, fun a1 ha1 => ⟨_, rfl, _, _, rfl, rfl, _, rfl, by show 2 ≤ sizeLine; decide, fun a2 ha2 => ⟨by show 2 ≤ sizeLine; decide, fun a3 ha3 => ?_⟩⟩⟩
    have z1 := same_new (o := .tup [.int (y - 1), .int (lft h L y)]) ha1
    have z2 := same_new (o := .tup [.int (y + 1), .int (rgt h L y)]) ha2
    have z3 := same_new (o := .tup [.ref a1, .ref a2]) ha3
    have zz := z1.trans (z2.trans z3)
    have hprs : PrL K (upd (upd (upd H4 a1 (.tup [.int (y - 1), .int (lft h L y)])) a2 (.tup [.int (y + 1), .int (rgt h L y)])) a3 (.tup [.ref a1, .ref a2])) [.ref a1, .ref a2] [(y - 1, lft h L y), (y + 1, rgt h L y)] :=
      .cons ⟨a1, rfl, Same.sqt (z2.trans z3) (.inl (.inl upd_same))⟩ (.cons ⟨a2, rfl, Same.sqt z3 (.inl (.inl upd_same))⟩ .nil)
    have h3t : SqT K (upd (upd (upd H4 a1 (.tup [.int (y - 1), .int (lft h L y)])) a2 (.tup [.int (y + 1), .int (rgt h L y)])) a3 (.tup [.ref a1, .ref a2])) a3 [.ref a1, .ref a2] := .inl (.inl upd_same)
    refine ⟨a3, rfl, ⟨_, h3t⟩, ?_⟩
    have adv5 := adv.same zz
    have sm5 := sm3.trans zz
    have nd5 := nd3.trans (Nd.of zz)
    generalize upd (upd (upd H4 a1 (.tup [.int (y - 1), .int (lft h L y)])) a2 (.tup [.int (y + 1), .int (rgt h L y)])) a3 (.tup [.ref a1, .ref a2]) = H5 at hprs h3t adv5 sm5 nd5
    generalize hprd : [(y - 1, lft h L y), (y + 1, rgt h L y)] = prs at hprs
    have hbnd : ∀ pr ∈ prs, -((B + 1 : Nat) : Int) ≤ pr.1 ∧ pr.1 ≤ (B + 1 : Nat) := by
      rw [← hprd]
      intro pr hpr
      rcases List.mem_cons.mp hpr with rfl | hpr
      · simp only; omega
      · rw [List.mem_singleton.mp hpr]; simp only; omega
    refine for_it walk_tup (fun j σ H' => ∃ (e6 e7 : Option V) (LT' : List (Int × Int)), σ = [some (.ref p), some (.ref D1), some (.ref D2), some (.int y), some (.int (lft h L y)), some (.int (rgt h L y)), e6, e7, e8] ∧ Nd H5 H' ∧ Same H H' ∧ AdvS H' D1 D2 B (fun z => sentTo h L ((keysL ps).take i) z + ((prs.take j).map fun pr => if pr.1 = z then pr.2 else 0).sum) (turnL h L ((keysL ps).take i)) LT' LF)
      ⟨e6, e7, LT, rfl, Nd.refl _, sm5, adv5.to (fun z => by simp) (fun _ => rfl)⟩ (fun j σ H' _ ⟨_, _, _, _, e, _⟩ => e.im.sqt h3t) ?_ ?_
    · rintro j x σ H6 H7 hj ⟨e6, e7, LT', rfl, nd6, sm6, adv6⟩ ⟨rfl, hx⟩
      obtain ⟨pr, hpr, xa2, rfl, hP2⟩ := paired_at hprs hx
      have hP6 := nd6.im.sqt hP2
      have hbp := hbnd pr (List.mem_of_getElem? hpr)
      have hl6 := adv6.len
      refine ⟨xa2, _, rfl, hP6, rfl, _, _, rfl, _, _, rfl, rfl, ?_⟩
      refine ⟨_, rfl, D1, rfl, .inl ⟨_, .inl adv6.h1⟩, _, rfl, _, DGet.i adv6.h1 pr.1, ?_⟩
      rw [getD_int]
      refine ⟨_, rfl, _, _, rfl, rfl, _, rfl, _, rfl, D1, _, rfl, DPut.i adv6.h1 pr.1 (at0 LT' pr.1 + pr.2) rfl (by omega), ?_⟩
      refine ⟨_, _, putL LT' pr.1 (at0 LT' pr.1 + pr.2), rfl, nd6.trans (Nd.mut adv6.h1), same_mut sm6 hD1, (adv6.put1 nD hbp).to (fun z => ?_) (fun _ => rfl)⟩
      rw [take_succ_at hpr, List.map_append, List.sum_append]
      simp only [List.map_cons, List.map_nil, List.sum_cons, List.sum_nil]
      omega
    · rintro σ H6 ⟨e6, e7, LT', rfl, nd6, sm6, adv6⟩
      have adv7 : AdvS H6 D1 D2 B (sentTo h L ((keysL ps).take (i + 1))) (turnL h L ((keysL ps).take i)) LT' LF := adv6.to (fun z => by
        rw [take_succ_at hky, sentTo_snoc]
        rw [← hprd]
        simp only [List.length_cons, List.length_nil, List.take, List.map_cons, List.map_nil, List.sum_cons, List.sum_nil]
        omega) (fun _ => rfl)
      have hl6 := adv7.len
      refine ⟨_, rfl, _, rfl, rfl, _, rfl, ?_⟩
      have ny : y ∉ (keysL ps).take i := by
        have n := nodup_next (f := id) (by rw [List.map_id]; exact hh.nd) hky
        rw [List.map_id] at n
        exact n
      by_cases c : h y % 2 = 1
      · have ne := lr_ne (h := h) (L := L) (y := y)
        rw [show (!decide (V.int (lft h L y) = V.int (rgt h L y))) = true by rw [decide_eq_false (fun w => ne.mpr c (V.int.inj w))]; rfl]
        refine iteT ⟨_, rfl, D2, rfl, .inl ⟨_, .inl adv7.h2⟩, _, rfl, _, DGet.i adv7.h2 y, ?_⟩
        rw [getD_bl, adv7.a2]
        refine ⟨_, rfl, _, rfl, _, rfl, D2, _, rfl, DPut.i adv7.h2 y (!turnL h L ((keysL ps).take i) y) rfl (by omega), ?_⟩
        refine ⟨_, _, _, _, _, _, LT', putL LF y (!turnL h L ((keysL ps).take i) y), rfl, nd5.trans (nd6.trans (Nd.mut adv7.h2)), same_mut sm6 hD20, (adv7.put2 nD hys1).to (fun _ => rfl) (fun z => ?_)⟩
        rw [take_succ_at hky]
        by_cases cz : z = y
        · rw [if_pos cz, cz]
          unfold turnL
          rw [if_neg (fun w => ny w.1), if_pos ⟨List.mem_append_right _ (List.mem_singleton.mpr rfl), c⟩]
        · rw [if_neg cz]
          unfold turnL
          by_cases cd : z ∈ (keysL ps).take i ∧ h z % 2 = 1
          · rw [if_pos cd, if_pos ⟨List.mem_append_left _ cd.1, cd.2⟩]
          · rw [if_neg cd, if_neg (fun w => cd ⟨(List.mem_append.mp w.1).elim id (fun v => absurd (List.mem_singleton.mp v) cz), w.2⟩)]
      · have ne := lr_ne (h := h) (L := L) (y := y)
        rw [show (!decide (V.int (lft h L y) = V.int (rgt h L y))) = false by rw [decide_eq_true (by rw [Decidable.not_not.mp (fun w => c (ne.mp w))])]; rfl]
        refine iteF ⟨_, _, _, _, _, _, LT', LF, rfl, nd5.trans nd6, sm6, adv7.to (fun _ => rfl) (fun z => ?_)⟩
        rw [take_succ_at hky]
        unfold turnL
        by_cases cd : z ∈ (keysL ps).take i ∧ h z % 2 = 1
        · rw [if_pos cd, if_pos ⟨List.mem_append_left _ cd.1, cd.2⟩]
        · rw [if_neg cd, if_neg (fun w => cd ⟨(List.mem_append.mp w.1).elim id (fun v => absurd (by rw [← List.mem_singleton.mp v]; exact w.2) c), w.2⟩)]
  · rintro σ H3 ⟨e3, e4, e5, e6, e7, e8, LT, LF, rfl, nd3, sm3, adv⟩
    rw [show zs.length = (keysL ps).length by rw [hzl]; unfold keysL; rw [List.length_map], List.take_length] at adv
    have hadv : AdvS H3 D1 D2 B (stepH h L) (stepL h L) LT LF := adv.to (fun y => sentTo_all hh.nd (fun z hz => hh.zero hz) y) (fun y => by
      unfold turnL stepL
      by_cases c : h y % 2 = 1
      · have hy : y ∈ keysL ps := Decidable.by_contra fun z => by rw [hh.zero z] at c; nomatch c
        rw [if_pos ⟨hy, c⟩, if_pos c]
      · rw [if_neg (fun w => c w.2), if_neg c])
    have hl := hadv.len
    have hp3 := sm3 _ _ hp
    have npD1 : p ≠ D1 := ne_of_none hp hD1
    have npD2 : p ≠ D2 := ne_of_none hp hD20
    -- the heaps
    refine ⟨D1, _, hadv.h1, True.intro, fun od => ⟨_, rfl, D1, od, enc V.int LT, rfl, upd_same, fun Dn hDn => ?_⟩⟩
    have hDL : upd H3 D1 (.frz od (.dK (enc V.int LT))) D1 = some (.frz od (.dK (enc V.int LT))) := upd_same
    have exL : Ex [D1] H3 (upd H3 D1 (.frz od (.dK (enc V.int LT)))) := Ex.mut (by simp)
    generalize upd H3 D1 (.frz od (.dK (enc V.int LT))) = HL at hDn hDL exL
    refine lc_it walk_items (fun i H' => Same HL H' ∧ ∃ acc, H' Dn = some (.lst acc) ∧ acc.length ≤ i ∧ PrL K H' acc ((LT.take i).filter fun pr => decide (0 < pr.2)) ∧ ∀ x ∈ acc, ∃ tt i j, x = V.ref tt ∧ H' tt = some (.tup [.int i, .int j]))
      ⟨same_new hDn, [], upd_same, Nat.le_refl _, .nil, fun x h => (nomatch h)⟩ (fun i H' _ ⟨e, _⟩ => e _ _ hDL) ?_ ?_
    · rintro i x H4 H5 hi ⟨s4, acc, hacc, hal, hpr, hall⟩ ⟨U, x1, y1, rfl, hU, rfl, ex1, ey1⟩
      obtain ⟨q, hq, rfl, rfl⟩ := enc_at ex1 ey1
      rw [enc_len] at hi
      have sU := same_new (o := .tup [.int q.1, .int q.2]) hU
      refine ⟨U, _, rfl, .inl (.inl upd_same), rfl, _, _, rfl, _, _, rfl, rfl, rfl, ?_⟩
      refine ⟨_, rfl, _, _, rfl, rfl, _, rfl, ?_⟩
      by_cases c : 0 < q.2
      · rw [decide_eq_true c]
        refine iteT ⟨_, rfl, _, rfl, by show 2 ≤ sizeLine; decide, fun U2 hU2 => ?_⟩
        have sU2 := same_new (o := .tup [.int q.1, .int q.2]) hU2
        have hD5 := (sU.trans sU2) _ _ hacc
        refine ⟨acc, hD5, sz_of (by omega), same_mut (s4.trans (sU.trans sU2)) hDn, acc ++ [.ref U2], upd_same, by rw [List.length_append]; exact Nat.succ_le_succ hal, ?_, ?_⟩
        · have im : Im (upd (upd H4 U (.tup [.int q.1, .int q.2])) U2 (.tup [.int q.1, .int q.2])) (upd (upd (upd H4 U (.tup [.int q.1, .int q.2])) U2 (.tup [.int q.1, .int q.2])) Dn (.lst (acc ++ [.ref U2]))) := Im.mut (by rw [hD5]; trivial)
          rw [take_succ_at hq, List.filter_append, List.filter_cons, decide_eq_true c]
          exact paired_app ((hpr.im (Im.of (sU.trans sU2))).im im) (.cons ⟨U2, rfl, im.sqt (.inl (.inl upd_same))⟩ .nil)
        · intro x hx
          have n2 : ∀ tt : Addr, (∃ i j, upd (upd H4 U (.tup [.int q.1, .int q.2])) U2 (.tup [.int q.1, .int q.2]) tt = some (.tup [.int i, .int j])) → tt ≠ Dn := fun tt ⟨i, j, e⟩ z => by rw [z, hD5] at e; nomatch e
          rcases List.mem_append.mp hx with hx | hx
          · obtain ⟨tt, i, j, rfl, e⟩ := hall x hx
            have e2 := (sU.trans sU2) _ _ e
            exact ⟨tt, i, j, rfl, by rw [upd_ne (n2 tt ⟨i, j, e2⟩)]; exact e2⟩
          · rw [List.mem_singleton.mp hx]
            exact ⟨U2, q.1, q.2, rfl, by rw [upd_ne (n2 U2 ⟨q.1, q.2, upd_same⟩)]; exact upd_same⟩
      · rw [decide_eq_false c]
        refine iteF ⟨s4.trans sU, acc, sU _ _ hacc, by omega, ?_, fun x hx => let ⟨tt, i, j, e1, e2⟩ := hall x hx; ⟨tt, i, j, e1, sU _ _ e2⟩⟩
        rw [take_succ_at hq, List.filter_append, List.filter_cons, decide_eq_false c]
        rw [show (if false = true then q :: List.filter (fun pr : Int × Int => decide (0 < pr.2)) [] else List.filter (fun pr : Int × Int => decide (0 < pr.2)) []) = [] from rfl, List.append_nil]
        exact hpr.im (Im.of sU)
    rintro H4 ⟨s4, acc, hacc, hal, hpr, hall⟩
    rw [enc_len, List.take_length] at hpr
    have hD14 : H4 D1 = some (.frz od (.dK (enc V.int LT))) := s4 _ _ hDL
    refine ⟨hD14, ?_⟩
    have imU : Im H4 (upd H4 D1 (.dK (enc V.int LT))) := Im.unl hD14
    have nDn : Dn ≠ D1 := fun z => by rw [z, hD14] at hacc; nomatch hacc
    have ex4 : Ex [] H3 (upd H4 D1 (.dK (enc V.int LT))) := Ex.unlock hadv.h1 (exL.trans (Ex.of s4))
    have s34 : Same H3 (upd H4 D1 (.dK (enc V.int LT))) := fun b u e => ex4 b u (by simp) e
    have hacc4 : upd H4 D1 (.dK (enc V.int LT)) Dn = some (.lst acc) := by rw [upd_ne nDn]; exact hacc
    refine ⟨Dn, acc, rfl, .inl (.inl hacc4), fun x hx => let ⟨tt, i, j, e1, e2⟩ := hall x hx; ⟨tt, i, j, e1, imU.1 _ _ e2⟩, ?_⟩
    have hpr4 := hpr.im imU
    generalize upd H4 D1 (.dK (enc V.int LT)) = HU at s34 hacc4 hpr4
    intro srt py hsp hpy
    obtain ⟨ps', hps', pm⟩ := paired_perm hsp hpr4
    refine ⟨py, srt, rfl, .inl ⟨.inl (.inl upd_same), fun ty ob hob hty => ?_⟩⟩
    have sy1 := same_new (o := .lst srt) hpy
    have sy2 := same_new (o := .frz ob (.tup srt)) hty
    have sU := s34.trans (sy1.trans sy2)
    have hpU := sU _ _ hp3
    have hps5 := PrL.im (Im.of (sy1.trans sy2)) hps'
    have hty5 : TupX (upd (upd HU py (.lst srt)) ty (.frz ob (.tup srt))) ty srt := TupX.new hob
    have h25 := sU _ _ hadv.h2
    generalize upd (upd HU py (.lst srt)) ty (.frz ob (.tup srt)) = H5 at sU hpU hps5 hty5 h25
    refine ⟨_, rfl, p, _, dx, _, rfl, hpU, cl_Line T, no_Line_heaps T, by show 3 < 1000; decide, ?_⟩
    rw [pf_h]
    have imP : ∀ fs, Im H5 (upd H5 p (.ins (He.ga K "Line") dx fs)) := fun fs => Im.mut (by rw [hpU]; trivial)
    have hps6 := hps5.im (imP (lineF (.int tick) (.ref ty) (.ref t2)))
    have hty6 := hty5.im (imP (lineF (.int tick) (.ref ty) (.ref t2)))
    have hp6 : upd H5 p (.ins (He.ga K "Line") dx (lineF (.int tick) (.ref ty) (.ref t2))) p = some (.ins (He.ga K "Line") dx (lineF (.int tick) (.ref ty) (.ref t2))) := upd_same
    have h26 : upd H5 p (.ins (He.ga K "Line") dx (lineF (.int tick) (.ref ty) (.ref t2))) D2 = some (.dK (enc V.bl LF)) := by rw [upd_ne npD2.symm]; exact h25
    have ex6 : Ex [p] H (upd H5 p (.ins (He.ga K "Line") dx (lineF (.int tick) (.ref ty) (.ref t2)))) := (Ex.of (sm3.trans sU)).trans (Ex.mut (by simp))
    generalize upd H5 p (.ins (He.ga K "Line") dx (lineF (.int tick) (.ref ty) (.ref t2))) = H6 at hps6 hty6 hp6 h26 ex6
    -- the lefts
    refine ⟨D2, _, h26, True.intro, fun od2 => ⟨_, rfl, D2, od2, enc V.bl LF, rfl, upd_same, fun Dm hDm => ?_⟩⟩
    have hDL2 : upd H6 D2 (.frz od2 (.dK (enc V.bl LF))) D2 = some (.frz od2 (.dK (enc V.bl LF))) := upd_same
    have exL2 : Ex [D2] H6 (upd H6 D2 (.frz od2 (.dK (enc V.bl LF)))) := Ex.mut (by simp)
    generalize upd H6 D2 (.frz od2 (.dK (enc V.bl LF))) = HM at hDm hDL2 exL2
    refine lc_it walk_items (fun i H' => Same HM H' ∧ ∃ acc : List Int, H' Dm = some (.lst (acc.map V.int)) ∧ acc = keysL ((LF.take i).filter fun pr => pr.2))
      ⟨same_new hDm, [], upd_same, rfl⟩ (fun i H' _ ⟨e, _⟩ => e _ _ hDL2) ?_ ?_
    · rintro i x H7 H8 hi ⟨s7, acc2, hacc2, he⟩ ⟨U, x1, y1, rfl, hU, rfl, ex1, ey1⟩
      obtain ⟨q, hq, rfl, rfl⟩ := enc_at ex1 ey1
      rw [enc_len] at hi
      have sU := same_new (o := .tup [.int q.1, .bl q.2]) hU
      refine ⟨U, _, rfl, .inl (.inl upd_same), rfl, _, _, rfl, _, _, rfl, rfl, rfl, ?_⟩
      refine ⟨_, rfl, _, rfl, ?_⟩
      have hlen : acc2.length ≤ 1000 := by
        rw [he]
        unfold keysL
        rw [List.length_map]
        have h1 := List.length_filter_le (fun pr : Int × Bool => pr.2) (LF.take i)
        have h2 := List.length_take_le' i LF
        omega
      cases hq2 : q.2 with
      | true =>
        rw [hq2] at sU
        refine iteT ⟨_, rfl, acc2.map V.int, sU _ _ hacc2, by rw [List.length_map]; exact sz_of (by omega), same_mut (s7.trans sU) hDm, acc2 ++ [q.1], by rw [List.map_append]; exact upd_same, ?_⟩
        rw [take_succ_at hq, List.filter_append, he]
        unfold keysL
        rw [List.map_append, List.filter_cons, hq2]
        rfl
      | false =>
        rw [hq2] at sU
        refine iteF ⟨s7.trans sU, acc2, sU _ _ hacc2, ?_⟩
        rw [take_succ_at hq, List.filter_append, he]
        unfold keysL
        rw [List.map_append, List.filter_cons, hq2]
        simp
    rintro H7 ⟨s7, acc2, hacc2, he⟩
    rw [enc_len, List.take_length] at he
    have hD27 : H7 D2 = some (.frz od2 (.dK (enc V.bl LF))) := s7 _ _ hDL2
    refine ⟨hD27, ?_⟩
    have nDm : Dm ≠ D2 := fun z => by rw [z, hD27] at hacc2; nomatch hacc2
    have ex7 : Ex [] H6 (upd H7 D2 (.dK (enc V.bl LF))) := Ex.unlock h26 (exL2.trans (Ex.of s7))
    have s67 : Same H6 (upd H7 D2 (.dK (enc V.bl LF))) := fun b u e => ex7 b u (by simp) e
    have hacc7 : upd H7 D2 (.dK (enc V.bl LF)) Dm = some (.lst (acc2.map V.int)) := by rw [upd_ne nDm]; exact hacc2
    refine ⟨Dm, acc2, rfl, .inl (.inl hacc7), ?_⟩
    generalize upd H7 D2 (.dK (enc V.bl LF)) = HV at s67 hacc7
    intro ns' pz hnp _ hpz
    refine ⟨pz, _, rfl, .inl ⟨.inl (.inl upd_same), fun tz htz => ?_⟩⟩
    have sz1 := same_new (o := .lst (ns'.map V.int)) hpz
    have sz2 := same_new (o := .tup (ns'.map V.int)) htz
    have sV := s67.trans (sz1.trans sz2)
    have hpV := sV _ _ hp6
    have htzV : SqT K (upd (upd HV pz (.lst (ns'.map V.int))) tz (.tup (ns'.map V.int))) tz (ns'.map V.int) := .inl (.inl upd_same)
    generalize upd (upd HV pz (.lst (ns'.map V.int))) tz (.tup (ns'.map V.int)) = H8 at sV hpV htzV
    refine ⟨_, rfl, p, _, dx, _, rfl, hpV, cl_Line T, no_Line_lefts T, by show 3 < 1000; decide, ?_⟩
    rw [pf_l]
    refine ⟨_, rfl, p, _, dx, _, _, rfl, upd_same, cl_Line T, no_Line_tick T, lf_t, _, _, rfl, rfl, _, rfl, p, _, dx, _, rfl, upd_same, cl_Line T, no_Line_tick T, by show 3 < 1000; decide, ?_⟩
    rw [pf_t, upd_upd]
    have imQ : Im H8 (upd H8 p (.ins (He.ga K "Line") dx (lineF (.int (tick + 1)) (.ref ty) (.ref tz)))) := Im.mut (by rw [hpV]; trivial)
    refine ⟨_, rfl, p, _, dx, _, _, rfl, upd_same, cl_Line T, no_Line_tick T, lf_t, ?_⟩
    refine hQ _ ps' ns' ((ex6.trans (Ex.of sV)).trans (Ex.mut (by simp))) ⟨dx, _, _, upd_same, ⟨ty, srt, rfl, (hty6.mono sV).im imQ, (hps6.im (Im.of sV)).im imQ⟩, ⟨tz, rfl, imQ.sqt htzV⟩⟩ ?_ ?_
    · have o1 : HpsOk (B + 1) (LT.filter fun pr => decide (0 < pr.2)) (stepH h L) := ⟨nd_filter hadv.n1, fun y => by
        rw [at0_filter hadv.n1 (fun z => by rw [hadv.a1]; exact stepH_nn hh.nn z), hadv.a1], stepH_nn hh.nn, fun y hy => hadv.s1 y (keys_filter hy)⟩
      exact o1.perm pm
    · have o2 : LfsOk B acc2 (stepL h L) := by
        rw [he]
        refine ⟨nd_filter hadv.n2, fun y => ?_, fun y hy => hadv.s2 y (keys_filter hy)⟩
        rw [← hadv.a2]
        constructor
        · intro hy
          obtain ⟨pr, hpr, e⟩ := List.mem_map.mp hy
          have m := List.mem_filter.mp hpr
          rw [getL_of hadv.n2 (k := y) (v := pr.2) (by rw [← e]; exact m.1)]
          exact m.2
        · intro hy
          cases e : getL LF y with
          | none => rw [e] at hy; nomatch hy
          | some v =>
            rw [e] at hy
            exact List.mem_map.mpr ⟨(y, v), List.mem_filter.mpr ⟨getL_mem e, hy⟩, rfl⟩
      exact o2.perm hnp
theorem LfsOk.up {B B' : Nat} {ns : List Int} {L : Int → Bool} (o : LfsOk B ns L) (h : B ≤ B') : LfsOk B' ns L := ⟨o.nd, o.at_, fun y hy => by have := o.span y hy; omega⟩
theorem HpsOk.up {B B' : Nat} {ps : List (Int × Int)} {h : Int → Int} (o : HpsOk B ps h) (hb : B ≤ B') : HpsOk B' ps h := ⟨o.nd, o.at_, o.nn, fun y hy => by have := o.span y hy; omega⟩
def spForward (K : PySem.W.Frag) : Sp := fun vs H Q _ => ∃ (p : Addr) (n : Nat) (tick : Int) (ps : List (Int × Int)) (ns : List Int) (B : Nat) (h : Int → Int) (L : Int → Bool), vs = [.ref p, .int n] ∧ n ≤ 20 ∧ IsLine K H p tick ps ns ∧ B + n ≤ 100 ∧ HpsOk B ps h ∧ LfsOk B ns L ∧
  ∀ (H' : Hp) (ps' : List (Int × Int)) (ns' : List Int), Ex [p] H H' → IsLine K H' p (tick + n) ps' ns' → HpsOk (B + n) ps' (runS h L n).1 → LfsOk (B + n) ns' (runS h L n).2 → Q (.int (tick + n)) H'
theorem ok_Line_forward (T : Txt P K mg) : Met P w K mg base 4 (He.ga K "Line") "forward" (spForward K) [] := by
  have h_need_number := ok_need_number (P := P) (w := w) (base := base) T
  have h_Line_advance := ok_Line_advance (P := P) (w := w) (base := base) T
  refine c_Line_forward T (fun vs H Q E h => ?_) fun cdv A outer s H vs Q E hr h => ?_
  · obtain ⟨p, n, tick, ps, ns, B, h, L, rfl, _⟩ := h
    rfl
  obtain ⟨p, n, tick, ps, ns, B, h, L, rfl, hn, hln, hB, hh, hL, hQ⟩ := h
  refine ⟨_, (pss_cons (ps_expr (pe_c h_need_number hr (by decide) (by rfl) (pa_cons (pv 1) (pa_cons pe_str (pa_cons pe_int (pa_cons (pe_gi rfl (i_MOST_TICKS T)) pa_nil))))))
      (pss_cons (ps_for PassesOwn.never rfl (pi_range1 rfl (z_range T) (pa_cons (pv 1) pa_nil)) (pg_name (i := 2) sc_Line_forward.nd rfl (by first | exact Or.inl rfl | exact Or.inr rfl))
      (pss_one (ps_expr (pe_mt0 h_Line_advance hr (by decide) (pv 0)))))
      (pss_one (ps_ret (pe_fld (pv 0) rfl))))), ?_⟩
  refine ⟨_, rfl, n, _, some 0, some 200, rfl, ?_, ?_⟩
  · show inB (n : Int) (some 0) (some 200) = true
    unfold inB
    simp only [Bool.and_eq_true, decide_eq_true_eq]
    omega
  refine ⟨_, rfl, n, rfl, by omega, by omega, ?_⟩
  rw [Int.toNat_natCast]
  refine for_it walk_range (fun i σ H' => ∃ (e2 : Option V) (ps' : List (Int × Int)) (ns' : List Int), σ = [some (.ref p), some (.int n), e2] ∧ Ex [p] H H' ∧ IsLine K H' p (tick + i) ps' ns' ∧ HpsOk (B + i) ps' (runS h L i).1 ∧ LfsOk (B + i) ns' (runS h L i).2)
    ⟨none, ps, ns, rfl, Ex.refl _ _, by rw [show tick + ((0 : Nat) : Int) = tick by omega]; exact hln, hh, hL⟩ (fun _ _ _ _ _ => True.intro) ?_ ?_
  · rintro i x σ H1 H2 hi ⟨e2, ps', ns', rfl, ex, hl1, hh1, hL1⟩ ⟨rfl, rfl⟩
    obtain ⟨dx, u, v, hp, h1, h2⟩ := id hl1
    refine ⟨_, rfl, p, dx, _, rfl, hp, lf_ad, p, _, ps', ns', B + i, _, _, rfl, hl1, by omega, hh1, hL1, ?_⟩
    intro H3 ps3 ns3 ex3 hl3 hh3 hL3
    exact ⟨_, ps3, ns3, rfl, ex.trans ex3, by rw [show tick + ((i + 1 : Nat) : Int) = tick + (i : Int) + 1 by omega]; exact hl3, hh3, hL3.up (by omega)⟩
  · rintro σ H1 ⟨e2, ps', ns', rfl, ex, hl1, hh1, hL1⟩
    obtain ⟨dx, u, v, hp, h1, h2⟩ := id hl1
    exact ⟨_, rfl, p, _, dx, _, _, rfl, hp, cl_Line T, no_Line_tick T, lf_t, hQ _ _ _ ex hl1 hh1 hL1⟩
end
end K86
end
section
set_option Elab.async false
set_option linter.all false
set_option maxRecDepth 100000
namespace K86
open PySem PySem.Spec PyProof.Rows L2
open C8 (Cal Met Mak pe_c pe_mk pe_mt pe_mt0)
def chs (n : Nat) : Nat → Int
  | 0 => 1
  | k + 1 => chs n k * ((n : Int) - k) / ((k : Int) + 1)
theorem chs_P : ∀ n : Nat, n < 9 → ∀ k : Nat, k < 5 → 2 * k ≤ n → chs n k = P n ((n : Int) - 2 * k) := by decide
theorem acc_ints : ∀ {acc : List V} {ns : List Int}, acc.length = ns.length → (∀ (i : Nat) y, acc[i]? = some y → ∀ n, ns[i]? = some n → y = .int n) → acc = ns.map V.int
  | [], [], _, _ => rfl
  | x :: acc, n :: ns, hl, h => by
    rw [List.map_cons, h 0 x rfl n rfl, acc_ints (Nat.succ.inj hl) fun i y e m e2 => h (i + 1) y e m e2]
  | [], _ :: _, hl, _ => by cases hl
  | _ :: _, [], hl, _ => by cases hl
def ways := P
theorem ways_zero {n : Nat} {f : Int} (h : (n : Int) < (if f < 0 then -f else f) ∨ (f + n) % 2 = 1) : ways n f = 0 := by
  rcases h with h | h
  · by_cases c : f < 0
    · rw [if_pos c] at h
      rw [show ways n f = P n (-f) from (P_sym n f).symm]
      exact P_far n _ h
    · rw [if_neg c] at h
      exact P_far n f h
  · exact P_par n f (by omega)
theorem ways_chs {n : Nat} {f : Int} (hn : n ≤ 8) (h1 : ¬ (n : Int) < (if f < 0 then -f else f)) (h2 : ¬ (f + n) % 2 = 1) : ∃ k : Nat, ((n : Int) - (if f < 0 then -f else f)) / 2 = k ∧ k ≤ 60 ∧ chs n k = ways n f := by
  by_cases c : f < 0
  · rw [if_pos c] at h1 ⊢
    refine ⟨(((n : Int) - -f) / 2).toNat, by omega, by omega, ?_⟩
    rw [chs_P n (by omega) _ (by omega) (by omega), show ways n f = P n (-f) from (P_sym n f).symm]
    congr 1
    omega
  · rw [if_neg c] at h1 ⊢
    refine ⟨(((n : Int) - f) / 2).toNat, by omega, by omega, ?_⟩
    rw [chs_P n (by omega) _ (by omega) (by omega)]
    show P n _ = P n f
    congr 1
    omega
section
variable {P : Program} {w : World} {K : PySem.W.Frag} {mg : Str → Option Value} {base : Heap}
def spChoices : Sp := fun vs H Q _ => ∃ (n k : Nat), vs = [.int n, .int k] ∧ n ≤ 60 ∧ k ≤ 60 ∧ Q (.int (chs n k)) H
theorem ok_choices (T : Txt P K mg) : Cal P w K mg base 1 "choices" spChoices [] := by
  refine c_choices T (fun vs H Q E h => ?_) fun cdv A outer s H vs Q E hr h => ?_
  · obtain ⟨n, k, rfl, _⟩ := h
    rfl
  obtain ⟨n, k, rfl, hn, hk, hQ⟩ := h
  refine ⟨_, (pss_cons (ps_set (i := 2) sc_choices.nd rfl (by first | exact Or.inl rfl | exact Or.inr rfl) pe_int)
      (pss_cons (ps_for PassesOwn.never rfl (pi_range1 rfl (z_range T) (pa_cons (pv 1) pa_nil)) (pg_name (i := 3) sc_choices.nd rfl (by first | exact Or.inl rfl | exact Or.inr rfl))
      (pss_one (ps_set (i := 2) sc_choices.nd rfl (by first | exact Or.inl rfl | exact Or.inr rfl) (pe_op op_fdiv (pe_op op_mul (pv 2) (pe_op op_sub (pv 0) (pv 3))) (pe_op op_add (pv 3) pe_int)))))
      (pss_one (ps_ret (pv 2))))), ?_⟩
  refine ⟨_, rfl, k, rfl, by omega, by omega, ?_⟩
  rw [Int.toNat_natCast]
  refine for_it walk_range (fun i σ H' => ∃ (e3 : Option V), σ = [some (.int n), some (.int k), some (.int (chs n i)), e3] ∧ H' = H)
    ⟨none, rfl, rfl⟩ (fun _ _ _ _ _ => True.intro) ?_ ?_
  · rintro i x σ H1 H2 hi ⟨e3, rfl, rfl⟩ ⟨rfl, hx⟩
    obtain rfl : x = .int i := by rw [hx]; show V.int (0 + (i : Int)) = _; rw [Int.zero_add]
    refine ⟨_, rfl, _, rfl, _, rfl, _, _, rfl, rfl, _, _, rfl, rfl, .inr ⟨by omega, by omega⟩, _, rfl, _, _, rfl, rfl, _, _, rfl, rfl, ⟨by omega, by omega⟩, ?_⟩
    exact ⟨_, rfl, rfl⟩
  · rintro σ H1 ⟨e3, rfl, rfl⟩
    exact ⟨_, rfl, hQ⟩
def spRowsTo : Sp := fun vs H Q _ => ∃ (f : Int) (n : Nat), vs = [.int f, .int n] ∧ n ≤ 8 ∧ Q (.int (ways n f)) H
theorem ok_rows_to (T : Txt P K mg) : Cal P w K mg base 2 "rows_to" spRowsTo [] := by
  have h_choices := ok_choices (P := P) (w := w) (base := base) T
  refine c_rows_to T (fun vs H Q E h => ?_) fun cdv A outer s H vs Q E hr h => ?_
  · obtain ⟨f, n, rfl, _⟩ := h
    rfl
  obtain ⟨f, n, rfl, hn, hQ⟩ := h
  refine ⟨_, (pss_cons (ps_if (PW.pt (pw_or (pt_cmpR op_gt (pe_callB call_abs (by rfl) (z_abs T) (by decide +kernel) (pa_cons (pv 0) pa_nil)) (pv 1) (nomark _)) (pw_or1 (pt_cmpR op_eq (pe_op op_mod (pe_op op_add (pv 0) (pv 1)) pe_int) pe_int (nomark _))))) (pss_one (ps_ret pe_int)) pss_nil)
      (pss_one (ps_ret (pe_c h_choices hr (by decide) (by rfl) (pa_cons (pv 1) (pa_cons (pe_op op_fdiv (pe_op op_sub (pv 1) (pe_callB call_abs (by rfl) (z_abs T) (by decide +kernel) (pa_cons (pv 0) pa_nil))) pe_int) pa_nil)))))), ?_⟩
  refine ⟨_, rfl, f, rfl, _, rfl, _, _, rfl, rfl, _, rfl, ?_⟩
  by_cases c1 : (n : Int) < (if f < 0 then -f else f)
  · rw [ways_zero (.inl c1)] at hQ
    rw [decide_eq_true c1]
    exact iteT hQ
  rw [decide_eq_false c1]
  refine iteF ⟨_, rfl, _, rfl, _, _, rfl, rfl, _, _, rfl, rfl, (by decide : (0 : Int) < 2), rfl, _, rfl, ?_⟩
  by_cases c2 : (f + (n : Int)) % 2 = 1
  · rw [ways_zero (.inr c2)] at hQ
    rw [decide_eq_true (show V.int ((f + (n : Int)) % 2) = V.int 1 by rw [c2])]
    exact iteT hQ
  rw [decide_eq_false (show ¬ V.int ((f + (n : Int)) % 2) = V.int 1 from fun z => c2 (V.int.inj z))]
  obtain ⟨k, e1, e2, e3⟩ := ways_chs hn c1 c2
  rw [← e3] at hQ
  refine iteF ⟨_, rfl, _, rfl, _, rfl, f, rfl, _, _, rfl, rfl, _, _, rfl, rfl, ⟨by decide, by decide⟩, n, k, ?_, by omega, e2, hQ⟩
  show [V.int n, V.int (((n : Int) - (if f < 0 then -f else f)) / 2)] = _
  rw [e1]
def meanI (ps : List (Int × Int)) (y : Int) (n : Nat) : Int := (ps.map fun p => p.2 * ways n (y - p.1)).sum
def spMeanIn (K : PySem.W.Frag) : Sp := fun vs H Q _ => ∃ (v : V) (ps : List (Int × Int)) (y : Int) (n : Nat), vs = [v, .int y, .int n] ∧ HpV K H v ps ∧ ps.length ≤ 1000 ∧ n ≤ 8 ∧ RetV H Q (FrV K n (meanI ps y n))
theorem ok_mean_in (T : Txt P K mg) : Cal P w K mg base 3 "mean_in" (spMeanIn K) [] := by
  have h_rows_to := ok_rows_to (P := P) (w := w) (base := base) T
  have h_least_pair := ok_least_pair (P := P) (w := w) (base := base) T
  refine c_mean_in T (fun vs H Q E h => ?_) fun cdv A outer s H vs Q E hr h => ?_
  · obtain ⟨v, ps, y, n, rfl, _⟩ := h
    rfl
  obtain ⟨v, ps, y, n, rfl, ⟨t, xs, rfl, ht, hps⟩, hl, hn, hQ⟩ := h
  have ht : SqT K H t xs := ht.sq
  refine ⟨_, (pss_cons (ps_set (i := 3) sc_mean_in.nd rfl (by first | exact Or.inl rfl | exact Or.inr rfl) (pe_callB (cr_sum rfl) (by rfl) (z_sum T) (by decide +kernel) (pa_cons (pe_lc (own := [("begin", 4), ("many", 5)]) (g := (gTup K 2 (gCons (gName 4) (gCons (gName 5) gNil)))) (tt := tYes) rfl sc_mean_in.nd (pi_tup (pv 0)) (blkOk_by (own := [("begin", 4), ("many", 5)]) (N := n_mean_in) (sc := defScope s_mean_in) (by decide +kernel)) (fun _ _ _ _ _ => (pg_tup rfl (pgs_cons (pg_name (i := 4) sc_mean_in.nd rfl (by first | exact Or.inl rfl | exact Or.inr rfl)) (pgs_cons (pg_name (i := 5) sc_mean_in.nd rfl (by first | exact Or.inl rfl | exact Or.inr rfl)) pgs_nil)))) (fun _ _ _ _ _ => pts_nil) (fun _ _ _ _ _ => (pe_op op_mul (pv 5) (pe_c h_rows_to hr (by decide) (by rfl) (pa_cons (pe_op op_sub (pv 1) (pv 4)) (pa_cons (pv 2) pa_nil)))))) pa_nil)))
      (pss_one (ps_ret (pe_c h_least_pair hr (by decide) (by rfl) (pa_cons (pv 3) (pa_cons (pe_op op_shl pe_int (pv 2)) pa_nil)))))), ?_⟩
  have hxl : xs.length = ps.length := Paired.length hps
  refine ⟨_, rfl, t, rfl, ⟨_, ht⟩, fun D hD => lc_map walk_tup (fun i z _ => ∀ p, ps[i]? = some p → z = .int (p.2 * ways n (y - p.1))) hD (fun _ _ _ _ _ h => h) (by omega) (fun H' e => Same.sqt e ht) ?_ ?_⟩
  · rintro i x H1 H2 N Q1 hi sm ⟨rfl, hx⟩ hq
    obtain ⟨p, hp, a, rfl, hP⟩ := paired_at hps hx
    have hw0 := P_nonneg n (y - p.1)
    have hw1 : ways n (y - p.1) ≤ 2 ^ 8 := Int.le_trans (P_le n _) (two_pow_le hn)
    have hw2 : (2 : Int) ^ 8 = 256 := by decide
    refine ⟨a, _, rfl, Same.sqt sm hP, rfl, _, _, rfl, _, _, rfl, rfl, rfl, tyes ?_⟩
    refine ⟨_, rfl, _, rfl, _, rfl, _, _, rfl, rfl, _, rfl, y - p.1, n, rfl, hn, _, _, rfl, rfl, .inr ⟨?_, ?_⟩, hq _ _ (Same.refl _) fun p' hp' => ?_⟩
    · have : (0 : Int) ≤ ways n (y - p.1) := hw0
      omega
    · omega
    · rw [hp] at hp'
      cases hp'
      rfl
  · rintro H1 acc sm hacc hal hf
    have e : acc = (ps.map fun p => p.2 * ways n (y - p.1)).map V.int := acc_ints (by rw [hal, List.length_map, hxl]) fun i z hz m hm => by
      rw [List.getElem?_map] at hm
      obtain ⟨p, hp, rfl⟩ := Option.map_eq_some_iff.mp hm
      exact hf i z hz p hp
    rw [e] at hacc
    refine ⟨D, _, rfl, .inl (.inl hacc), ?_⟩
    have h8 : (2 : Int) ^ n ≤ 2 ^ 8 := two_pow_le hn
    have h0 : (0 : Int) < 2 ^ n := two_pos n
    refine ⟨_, rfl, _, rfl, _, _, rfl, rfl, ⟨by omega, by omega, by decide⟩, ?_⟩
    have e1 : (1 : Int) * 2 ^ ((n : Int)).toNat = 2 ^ n := by rw [Int.one_mul, Int.toNat_natCast]
    refine ⟨_, _, rfl, by rw [e1]; exact h0, by rw [e1]; omega, fun v H' s h => hQ v H' (fun b u q => s b u (sm b u q)) ?_⟩
    rw [e1] at h
    exact h
end
end K86
end
section
set_option Elab.async false
set_option linter.all false
set_option maxRecDepth 100000
namespace K86
open PySem PySem.Spec PyProof.Rows L2
open C8 (Cal Met Mak pe_c pe_mk pe_mt pe_mt0)
section
variable {P : Program} {w : World} {K : PySem.W.Frag} {mg : Str → Option Value} {base : Heap}
def worthI (rs : List (Int × Int × Int)) (h : Int → Int) (L : Int → Bool) : Int := (rs.map fun r => r.2.2 * (runS h L r.2.1.toNat).1 r.1).sum
def spWorth (K : PySem.W.Frag) : Sp := fun vs H Q _ => ∃ (x : V) (rs : List (Int × Int × Int)) (last : Nat) (c : Int) (a : Addr) (b : Bool) (xs : List V) (ps : List (Int × Int)) (a2 : Addr) (b2 : Bool) (ns : List Int) (c' : Int) (B : Nat) (h : Int → Int) (L : Int → Bool), vs = [x, .ref a, .ref a2] ∧
  IsLook K H x rs last c ∧ last ≤ 8 ∧ (∀ r ∈ rs, rowIn last r) ∧ rs.Pairwise rwLe ∧ SqB K b H a xs ∧ PrL K H xs ps ∧ SqB K b2 H a2 (ns.map V.int) ∧ startOk ps c' ns ∧ B ≤ 80 ∧ HpsOk B ps h ∧ LfsOk B ns L ∧ RetV H Q fun v _ => v = .int (worthI rs h L)
theorem ok_worth_in (T : Txt P K mg) : Cal P w K mg base 9 "worth_in" (spWorth K) [] := by
  have h_Line := ok_Line_init (P := P) (w := w) (base := base) T
  have h_Line_forward := ok_Line_forward (P := P) (w := w) (base := base) T
  have h_Line_heap_at := ok_Line_heap_at (P := P) (w := w) (base := base) T
  refine c_worth_in T (fun vs H Q E h => ?_) fun cdv A outer s H vs Q E hr h => ?_
  · obtain ⟨x, rs, last, c, a, b, xs, ps, a2, b2, ns, c', B, h, L, rfl, _⟩ := h
    rfl
  obtain ⟨x, rs, last, c, a, b, xs, ps, a2, b2, ns, c', B, h, L, rfl, hlk, hl8, hrs, hsrt, ha, hps, ha2, hst, hB, hh, hL, hQ⟩ := h
  refine ⟨_, (pss_cons (ps_par (i := 3) (j := 4) rfl sc_worth_in.nd rfl rfl (by decide) rfl rfl (pa_cons (pe_mk h_Line hr (by decide) (by rfl) (pa_cons (pv 1) (pa_cons (pv 2) pa_nil))) (pa_cons pe_int pa_nil)) (by rfl))
      (pss_cons (ps_for PassesOwn.never rfl (pi_tup (pe_fld (pv 0) rfl)) (pg_tup rfl (pgs_cons (pg_name (i := 5) sc_worth_in.nd rfl (by first | exact Or.inl rfl | exact Or.inr rfl)) (pgs_cons (pg_name (i := 6) sc_worth_in.nd rfl (by first | exact Or.inl rfl | exact Or.inr rfl)) (pgs_cons (pg_name (i := 7) sc_worth_in.nd rfl (by first | exact Or.inl rfl | exact Or.inr rfl)) pgs_nil))))
      (pss_cons (ps_expr (pe_mt h_Line_forward hr (by decide) (pv 3) (pa_cons (pe_op op_sub (pv 6) (pe_fld (pv 3) rfl)) pa_nil)))
      (pss_one (ps_set (i := 4) sc_worth_in.nd rfl (by first | exact Or.inl rfl | exact Or.inr rfl) (pe_op op_add (pv 4) (pe_op op_mul (pv 7) (pe_mt h_Line_heap_at hr (by decide) (pv 3) (pa_cons (pv 5) pa_nil))))))))
      (pss_one (ps_ret (pv 4))))), ?_⟩
  obtain ⟨lp, ldx, lfs, lt, lts, rfl, hlp, fl1, fl2, fl3, hlt, hlr⟩ := hlk
  refine ⟨_, rfl, _, rfl, fun p dx hp hdx hne => ?_⟩
  have sD := same_new (o := .own p) hdx
  have hp' : upd H dx (.own p) p = none := by rw [upd_ne hne.symm]; exact hp
  have sX := same_new (o := .ins (He.ga K "Line") dx []) hp'
  have s2 := sD.trans sX
  refine ⟨p, dx, a, b, xs, ps, c', a2, b2, ns, rfl, upd_same, ha.mono s2, hps.im (Im.of s2), ha2.mono s2, hst, ?_⟩
  rintro H1 ps' ns' keep pm qm hl1
  have s1 : Same H H1 := fun b o e => keep b o (ne_of_none e hp) (s2 b o e)
  refine ⟨rfl, _, _, rfl, ?_⟩
  refine ⟨_, rfl, lp, _, ldx, lfs, _, rfl, s1 _ _ hlp, cl_Look T, no_Look_rows T, fl1, lt, rfl, ⟨lts, Same.sqt s1 hlt⟩, for_it walk_tup (fun i σ H' => ∃ (e5 e6 e7 : Option V) (tk : Nat) (ps' : List (Int × Int)) (ns' : List Int), σ = [some (.ref lp), some (.ref a), some (.ref a2), some (.ref p), some (.int (worthI (rs.take i) h L)), e5, e6, e7] ∧ Same H H' ∧ IsLine K H' p tk ps' ns' ∧ tk ≤ 8 ∧ (∀ r ∈ rs.drop i, (tk : Int) ≤ r.2.1) ∧ HpsOk (B + tk) ps' (runS h L tk).1 ∧ LfsOk (B + tk) ns' (runS h L tk).2)
    ⟨none, none, none, 0, ps', ns', rfl, s1, hl1, by decide, fun r hr => (hrs r hr).2.2.1, hh.perm pm, hL.perm qm⟩ (fun i σ H' _ ⟨_, _, _, _, _, _, _, e, _⟩ => Same.sqt e hlt) ?_ ?_⟩
  · rintro i x σ H2 H3 hi ⟨e5, e6, e7, tk, ps2, ns2, rfl, sm, hl2, htk, hdr, hh2, hL2⟩ ⟨rfl, hx⟩
    obtain ⟨r, hr1, xa, rfl, hP⟩ := paired_at hlr hx
    have hP2 := Same.sqt sm hP
    obtain ⟨i1, i2, i3, i4, i5, i6⟩ := hrs r (List.mem_of_getElem? hr1)
    have hil : i < rs.length := (List.getElem?_eq_some_iff.mp hr1).1
    have hdc : rs.drop i = r :: rs.drop (i + 1) := by
      rw [List.drop_eq_getElem_cons hil]
      congr 1
      exact (List.getElem?_eq_some_iff.mp hr1).2
    have htr : (tk : Int) ≤ r.2.1 := hdr r (by rw [hdc]; exact List.mem_cons_self)
    obtain ⟨n, hn⟩ : ∃ n : Nat, r.2.1 - tk = n := ⟨(r.2.1 - tk).toNat, by omega⟩
    obtain ⟨dx2, u, v, hp2, h1, h2⟩ := id hl2
    refine ⟨xa, _, rfl, hP2, rfl, _, _, rfl, _, _, rfl, _, _, rfl, rfl, ?_⟩
    refine ⟨_, rfl, p, dx2, _, rfl, hp2, lf_fo, _, rfl, _, rfl, p, _, dx2, _, _, rfl, hp2, cl_Line T, no_Line_tick T, lf_t, _, _, rfl, rfl, ?_⟩
    refine ⟨p, n, tk, ps2, ns2, B + tk, _, _, by rw [← hn]; rfl, by omega, hl2, by omega, hh2, hL2, ?_⟩
    intro H4 ps4 ns4 ex4 hl4 hh4 hL4
    rw [runS_add] at hh4 hL4
    have ent : tk + n = r.2.1.toNat := by omega
    have hp0 : H p = none := hp
    have sm4 : Same H H4 := Ex.same sm (fun d hd => by rw [List.mem_singleton.mp hd]; exact hp0) ex4
    obtain ⟨dx4, u4, v4, hp4, h14, h24⟩ := id hl4
    have hlen4 := hh4.len
    refine ⟨_, rfl, _, rfl, _, rfl, p, dx4, _, rfl, hp4, lf_ha, _, rfl, p, r.1, _, ps4, ns4, rfl, hl4, hh4.nd, by omega, fun v5 H5 s5 hv5 => ?_⟩
    subst hv5
    refine ⟨_, _, rfl, rfl, .inl ⟨by omega, by omega⟩, _, _, rfl, rfl, ?_⟩
    refine ⟨some (.int r.1), some (.int r.2.1), some (.int r.2.2), tk + n, ps4, ns4, ?_, sm4.trans s5, ?_, by omega, fun r' hr' => ?_, ?_, ?_⟩
    · rw [hh4.at_, ent]
      have e : worthI (rs.take (i + 1)) h L = worthI (rs.take i) h L + r.2.2 * (runS h L r.2.1.toNat).1 r.1 := by
        unfold worthI
        rw [take_succ_at hr1, List.map_append, List.sum_append]
        simp
      rw [e]
      rfl
    · rw [show ((tk + n : Nat) : Int) = (tk : Int) + n by omega]
      exact hl4.mono s5
    · have hps := hsrt.sublist (List.drop_sublist i rs)
      rw [hdc] at hps
      rcases (List.pairwise_cons.mp hps).1 r' hr' with c | c <;> omega
    · rw [← Nat.add_assoc]; exact hh4
    · rw [← Nat.add_assoc]; exact hL4
  · rintro σ H2 ⟨e5, e6, e7, tk, ps2, ns2, rfl, sm, _⟩
    rw [Paired.length hlr, List.take_length]
    exact ⟨_, rfl, hQ _ _ sm rfl⟩
/-- the mean of the look, at scale last -/
def meanLk (last : Nat) (rs : List (Int × Int × Int)) (ps : List (Int × Int)) : Int := (rs.map fun r => r.2.2 * (meanI ps r.1 r.2.1.toNat * 2 ^ (last - r.2.1.toNat))).sum
def spMeanLk (K : PySem.W.Frag) : Sp := fun vs H Q _ => ∃ (x v : V) (rs : List (Int × Int × Int)) (last : Nat) (c : Int) (ps : List (Int × Int)), vs = [x, v] ∧ IsLook K H x rs last c ∧ last ≤ 8 ∧ (∀ r ∈ rs, rowIn last r) ∧ rs.length ≤ 40 ∧ HpV K H v ps ∧ ps.length ≤ 1000 ∧ RetV H Q (FrV K last (meanLk last rs ps))
theorem ok_mean_of_look (T : Txt P K mg) : Cal P w K mg base 4 "mean_of_look" (spMeanLk K) [] := by
  have h_mean_in := ok_mean_in (P := P) (w := w) (base := base) T
  have h_times := ok_times (P := P) (w := w) (base := base) T
  have h_total_of := ok_total_of (P := P) (w := w) (base := base) T
  refine c_mean_of_look T (fun vs H Q E h => ?_) fun cdv A outer s H vs Q E hr h => ?_
  · obtain ⟨x, v, rs, last, c, ps, rfl, _⟩ := h
    rfl
  obtain ⟨x, v, rs, last, c, ps, rfl, ⟨lp, ldx, lfs, lt, lts, rfl, hlp, fl1, fl2, fl3, hlt, hlr⟩, hl8, hrs, hrl, hv, hpl, hQ⟩ := h
  refine ⟨_, (pss_one (ps_ret (pe_c h_total_of hr (by decide) (by rfl) (pa_cons (pe_lc (own := [("spot", 2), ("tick", 3), ("weight", 4)]) (g := (gTup K 3 (gCons (gName 2) (gCons (gName 3) (gCons (gName 4) gNil))))) (tt := tYes) rfl sc_mean_of_look.nd (pi_tup (pe_fld (pv 0) rfl)) (blkOk_by (own := [("spot", 2), ("tick", 3), ("weight", 4)]) (N := n_mean_of_look) (sc := defScope s_mean_of_look) (by decide +kernel)) (fun _ _ _ _ _ => (pg_tup rfl (pgs_cons (pg_name (i := 2) sc_mean_of_look.nd rfl (by first | exact Or.inl rfl | exact Or.inr rfl)) (pgs_cons (pg_name (i := 3) sc_mean_of_look.nd rfl (by first | exact Or.inl rfl | exact Or.inr rfl)) (pgs_cons (pg_name (i := 4) sc_mean_of_look.nd rfl (by first | exact Or.inl rfl | exact Or.inr rfl)) pgs_nil))))) (fun _ _ _ _ _ => pts_nil) (fun _ _ _ _ _ => (pe_c h_times hr (by decide) (by rfl) (pa_cons (pe_tup (pa_cons (pv 4) (pa_cons pe_int pa_nil))) (pa_cons (pe_c h_mean_in hr (by decide) (by rfl) (pa_cons (pv 1) (pa_cons (pv 2) (pa_cons (pv 3) pa_nil)))) pa_nil))))) pa_nil)))), ?_⟩
  have hxl : lts.length = rs.length := Paired.length hlr
  refine ⟨_, rfl, lp, _, ldx, lfs, _, rfl, hlp, cl_Look T, no_Look_rows T, fl1, lt, rfl, ⟨lts, hlt⟩, fun D hD => lc_map walk_tup (fun i z H' => ∀ r, rs[i]? = some r → FrV K last (r.2.2 * (meanI ps r.1 r.2.1.toNat * 2 ^ (last - r.2.1.toNat))) z H') hD (fun _ _ _ _ e h r hr => (h r hr).im e) (by omega) (fun H' e => Same.sqt e hlt) ?_ ?_⟩
  · rintro i x H1 H2 N Q1 hi sm ⟨rfl, hx⟩ hq
    obtain ⟨r, hr1, xa, rfl, hP⟩ := paired_at hlr hx
    obtain ⟨i1, i2, i3, i4, i5, i6⟩ := hrs r (List.mem_of_getElem? hr1)
    obtain ⟨n, hn⟩ : ∃ n : Nat, r.2.1 = n := ⟨r.2.1.toNat, by omega⟩
    have hnl : n ≤ last := by omega
    have hP2 : SqT K H2 xa [.int r.1, .int n, .int r.2.2] := by rw [← hn]; exact Same.sqt sm hP
    refine ⟨xa, _, rfl, hP2, rfl, _, _, rfl, _, _, rfl, _, _, rfl, rfl, rfl, tyes ?_⟩
    refine ⟨_, rfl, by show 2 ≤ sizeLine; decide, fun q hq2 => ?_⟩
    have sq := same_new (o := .tup [.int r.2.2, .int 1]) hq2
    refine ⟨_, rfl, _, rfl, _, rfl, v, ps, r.1, n, rfl, (hv.im (Im.of sm)).im (Im.of sq), hpl, by omega, fun v3 H3 s3 h3 => ?_⟩
    have h3' : FrV K last (meanI ps r.1 n * 2 ^ (last - n)) v3 H3 := by
      have e := frac_up_scale n (last - n) (meanI ps r.1 n)
      rw [Nat.add_sub_cancel' hnl] at e
      unfold FrV at h3 ⊢
      rw [e]
      exact h3
    refine ⟨last, r.2.2, _, .ref q, v3, rfl, by omega, i5, i6, ?_, h3', fun v4 H4 s4 h4 => hq v4 H4 (sq.trans (s3.trans s4)) fun r' hr' => ?_⟩
    · unfold FrV
      rw [frac_zero]
      exact ⟨q, rfl, Same.sqt s3 (.inl (.inl upd_same))⟩
    · rw [hr1] at hr'
      cases hr'
      rw [show r.2.1.toNat = n by omega]
      exact h4
  · rintro H1 acc sm hacc hal hf
    refine ⟨last, D, acc, _, rfl, by omega, .inl (.inl hacc), ⟨by rw [hal, hxl]; exact (List.length_map ..).symm, fun i z n h1 h2 => ?_⟩, fun v2 H2 s2 h2 => hQ v2 H2 (fun b u e => s2 b u (sm b u e)) h2⟩
    rw [List.getElem?_map] at h2
    obtain ⟨r, hr1, rfl⟩ := Option.map_eq_some_iff.mp h2
    exact hf i z h1 r hr1
def spNeedFit (K : PySem.W.Frag) : Sp := fun vs H Q _ => ∃ (x v : V) (rs : List (Int × Int × Int)) (last : Nat) (c : Int) (ps : List (Int × Int)), vs = [x, v] ∧ IsLook K H x rs last c ∧ HpV K H v ps ∧ ps.length ≤ 1000 ∧ (∀ p ∈ ps, p.1 % 2 = c) ∧ RetV H Q fun v _ => v = .non
theorem ok_need_fit (T : Txt P K mg) : Cal P w K mg base 3 "need_fit" (spNeedFit K) [] := by
  have h_need_colour := ok_need_colour (P := P) (w := w) (base := base) T
  have h_spots_of := ok_spots_of (P := P) (w := w) (base := base) T
  refine c_need_fit T (fun vs H Q E h => ?_) fun cdv A outer s H vs Q E hr h => ?_
  · obtain ⟨x, v, rs, last, c, ps, rfl, _⟩ := h
    rfl
  obtain ⟨x, v, rs, last, c, ps, rfl, ⟨lp, ldx, lfs, lt, lts, rfl, hlp, fl1, fl2, fl3, hlt, hlr⟩, ⟨t, ys, rfl, ht, hys⟩, hpl, hc, hQ⟩ := h
  have ht : SqT K H t ys := ht.sq
  refine ⟨_, (pss_cons (ps_expr (pe_c h_need_colour hr (by decide) (by rfl) (pa_cons (pe_c h_spots_of hr (by decide) (by rfl) (pa_cons (pv 1) pa_nil)) pa_nil)))
      (pss_one (ps_if (pt_not (pt_val (pe_callB (cr_all rfl) (by rfl) (z_all T) (by decide +kernel) (pa_cons (pe_lc (own := [("spot", 2)]) (g := (gName 2)) (tt := tYes) rfl sc_need_fit.nd (pi_list (pe_c h_spots_of hr (by decide) (by rfl) (pa_cons (pv 1) pa_nil))) (blkOk_by (own := [("spot", 2)]) (N := n_need_fit) (sc := defScope s_need_fit) (by decide +kernel)) (fun _ _ _ _ _ => (pg_name (i := 2) sc_need_fit.nd rfl (by first | exact Or.inl rfl | exact Or.inr rfl))) (fun _ _ _ _ _ => pts_nil) (fun _ _ _ _ _ => (pe_cmpR op_eq (pe_op op_mod (pv 2) pe_int) (pe_fldK (K := K) rfl (pv 0) rfl) (nomark _)))) pa_nil)))) (pss_one ps_never) pss_nil))), ?_⟩
  have hcc : ∀ n ∈ ps.map (·.1), n % 2 = c := fun n hn => by
    obtain ⟨p, hp, rfl⟩ := List.mem_map.mp hn
    exact hc p hp
  refine ⟨_, rfl, t, false, ys, ps, rfl, ht, hys, by omega, fun p1 H1 hp1 s1 h1 => ?_⟩
  refine ⟨p1, c, _, rfl, .inl (.inl h1), by rw [List.length_map]; omega, hcc, fun v2 H2 s2 h2 => ?_⟩
  have s12 := s1.trans s2
  refine ⟨_, rfl, t, false, ys, ps, rfl, Same.sqt s12 ht, hys.im (Im.of s12), by omega, fun p3 H3 hp3 s3 h3 => ?_⟩
  have s13 := s12.trans s3
  refine ⟨p3, rfl, ⟨_, .inl (.inl h3)⟩, fun D hD => lc_map walk_list (fun i z _ => z = .bl true) hD (fun _ _ _ _ _ h => h) (by rw [List.length_map, List.length_map]; omega) (fun H' e => e.seq (.inl (.inl h3))) ?_ ?_⟩
  · rintro i x H4 H5 N Q1 hi sm ⟨rfl, hx⟩ hq
    obtain ⟨n, hn, rfl⟩ := at_map hx
    have hn2 := hcc n (List.mem_of_getElem? hn)
    refine ⟨rfl, tyes ⟨_, rfl, _, _, rfl, rfl, (by decide : (0 : Int) < 2), _, rfl, lp, _, ldx, lfs, _, rfl, (s13.trans sm) _ _ hlp, cl_Look T, no_Look_colour T, fl3, rfl, ?_⟩⟩
    exact Qdec (show V.int (n % 2) = V.int c by rw [hn2]) (hq _ _ (Same.refl _) rfl)
  · rintro H4 acc sm hacc hal hf
    obtain ⟨bs, b1, b2⟩ := all_bs (K := K) hacc hf
    refine ⟨D, bs, rfl, b1, ?_⟩
    rw [b2]
    exact ⟨true, rfl, iteF (hQ _ _ (s13.trans (fun b u e => sm b u e)) rfl)⟩
theorem meanI_perm {ps ps' : List (Int × Int)} (p : ps'.Perm ps) (y : Int) (n : Nat) : meanI ps' y n = meanI ps y n := sum_perm p
theorem meanLk_perm {ps ps' : List (Int × Int)} (p : ps'.Perm ps) (last : Nat) (rs : List (Int × Int × Int)) : meanLk last rs ps' = meanLk last rs ps := by
  unfold meanLk
  congr 1
  refine List.map_congr_left fun r _ => ?_
  rw [meanI_perm p]
theorem FrV.whole {k : Nat} {n : Int} {q : Addr} {H : Hp} (h : SqT K H q [.int n, .int 1]) : FrV K k (n * 2 ^ k) (.ref q) H := by
  have e := frac_up_scale 0 k n
  rw [Nat.zero_add] at e
  unfold FrV
  rw [e, frac_zero]
  exact ⟨q, rfl, h⟩
def gapI (last : Nat) (rs : List (Int × Int × Int)) (ps : List (Int × Int)) (h : Int → Int) (L : Int → Bool) : Int := worthI rs h L * 2 ^ last + -meanLk last rs ps
def spGap (K : PySem.W.Frag) : Sp := fun vs H Q _ => ∃ (x : V) (rs : List (Int × Int × Int)) (last : Nat) (c : Int) (a : Addr) (b : Bool) (xs : List V) (ps : List (Int × Int)) (a2 : Addr) (b2 : Bool) (ns : List Int) (B : Nat) (h : Int → Int) (L : Int → Bool), vs = [x, .ref a, .ref a2] ∧
  IsLook K H x rs last c ∧ last ≤ 8 ∧ (∀ r ∈ rs, rowIn last r) ∧ rs.Pairwise rwLe ∧ rs.length ≤ 40 ∧ SqB K b H a xs ∧ PrL K H xs ps ∧ SqB K b2 H a2 (ns.map V.int) ∧ startOk ps c ns ∧ B ≤ 80 ∧ HpsOk B ps h ∧ LfsOk B ns L ∧ RetV H Q (FrV K last (gapI last rs ps h L))
theorem ok_look_gap (T : Txt P K mg) : Cal P w K mg base 10 "look_gap" (spGap K) [] := by
  have h_need_look := ok_need_look (P := P) (w := w) (base := base) T
  have h_need_heaps := ok_need_heaps (P := P) (w := w) (base := base) T
  have h_need_lefts := ok_need_lefts (P := P) (w := w) (base := base) T
  have h_need_fit := ok_need_fit (P := P) (w := w) (base := base) T
  have h_both := ok_both (P := P) (w := w) (base := base) T
  have h_worth_in := ok_worth_in (P := P) (w := w) (base := base) T
  have h_turned := ok_turned (P := P) (w := w) (base := base) T
  have h_mean_of_look := ok_mean_of_look (P := P) (w := w) (base := base) T
  refine c_look_gap T (fun vs H Q E h => ?_) fun cdv A outer s H vs Q E hr h => ?_
  · obtain ⟨x, rs, last, c, a, b, xs, ps, a2, b2, ns, B, h, L, rfl, _⟩ := h
    rfl
  obtain ⟨x, rs, last, c, a, b, xs, ps, a2, b2, ns, B, h, L, rfl, hlk, hl8, hrs, hsrt, hrl, ha, hps, ha2, hst, hB, hh, hL, hQ⟩ := h
  refine ⟨_, (pss_cons (ps_expr (pe_c h_need_look hr (by decide) (by rfl) (pa_cons (pv 0) pa_nil)))
      (pss_cons (ps_par (i := 3) (j := 4) rfl sc_look_gap.nd rfl rfl (by decide) rfl rfl (pa_cons (pe_c h_need_heaps hr (by decide) (by rfl) (pa_cons (pv 1) (pa_cons pe_str pa_nil))) (pa_cons (pe_c h_need_lefts hr (by decide) (by rfl) (pa_cons (pv 2) pa_nil)) pa_nil)) (by rfl))
      (pss_cons (ps_expr (pe_c h_need_fit hr (by decide) (by rfl) (pa_cons (pv 0) (pa_cons (pv 3) pa_nil))))
      (pss_one (ps_ret (pe_c h_both hr (by decide) (by rfl) (pa_cons (pe_tup (pa_cons (pe_c h_worth_in hr (by decide) (by rfl) (pa_cons (pv 0) (pa_cons (pv 3) (pa_cons (pv 4) pa_nil)))) (pa_cons pe_int pa_nil))) (pa_cons (pe_c h_turned hr (by decide) (by rfl) (pa_cons (pe_c h_mean_of_look hr (by decide) (by rfl) (pa_cons (pv 0) (pa_cons (pv 3) pa_nil))) pa_nil)) pa_nil)))))))), ?_⟩
  obtain ⟨lp, ldx, lfs, lt, lts, rfl, hlp, fl1, fl2, fl3, hlt, hlr⟩ := id hlk
  refine ⟨_, rfl, lp, ldx, lfs, _, rfl, hlp, ?_⟩
  refine ⟨_, rfl, a, _, b, xs, ps, rfl, ha, hps, hst.1, fun v1 H1 s1 ⟨ps', pm, h1⟩ => ?_⟩
  refine ⟨_, rfl, a2, _, b2, ns, rfl, ha2.mono s1, hst.2.2, fun v2 H2 s2 ⟨ns', qm, h2⟩ => ?_⟩
  have s02 := s1.trans s2
  have h12 := h1.im (Im.of s2)
  have hpl : ps'.length ≤ 60 := by rw [pm.length_eq]; exact hst.1.1
  refine ⟨_, _, rfl, ?_⟩
  refine ⟨_, rfl, _, rfl, .ref lp, v1, rs, last, c, ps', rfl, IsLook.mono s02 hlk, h12, by omega, fun p hp => hst.2.1 p (pm.mem_iff.mp hp), fun v3 H3 s3 h3 => ?_⟩
  have s03 := s02.trans s3
  have h13 := h12.im (Im.of s3)
  have h23 := h2.im (Im.of s3)
  obtain ⟨t1, ys, rfl, ht1, hys⟩ := id h13
  have ht1 : SqT K H3 t1 ys := ht1.sq
  obtain ⟨t2, rfl, ht2⟩ := id h23
  have hst' : startOk ps' c ns' := ⟨⟨hpl, fun p hp => hst.1.2.1 p (pm.mem_iff.mp hp), (List.Perm.nodup_iff (pm.map _)).mpr hst.1.2.2⟩, fun p hp => hst.2.1 p (pm.mem_iff.mp hp), ⟨by rw [qm.length_eq]; exact hst.2.2.1, fun n hn => hst.2.2.2.1 n (qm.mem_iff.mp hn), qm.nodup_iff.mpr hst.2.2.2.2⟩⟩
  refine ⟨_, rfl, _, rfl, _, rfl, .ref lp, rs, last, c, t1, false, ys, ps', t2, false, ns', c, B, h, L, rfl, IsLook.mono s03 hlk, hl8, hrs, hsrt, ht1, hys, ht2, hst', hB, hh.perm pm, hL.perm qm, fun v4 H4 s4 h4 => ?_⟩
  subst h4
  refine ⟨by show 2 ≤ sizeLine; decide, fun q hq => ?_⟩
  have sq := same_new (o := .tup [.int (worthI rs h L), .int 1]) hq
  have s05 := s03.trans (s4.trans sq)
  refine ⟨_, rfl, _, rfl, .ref lp, .ref t1, rs, last, c, ps', rfl, IsLook.mono s05 hlk, hl8, hrs, hrl, h13.im (Im.of (s4.trans sq)), by omega, fun v6 H6 s6 h6 => ?_⟩
  refine ⟨last, _, v6, rfl, h6, fun v7 H7 s7 h7 => ?_⟩
  refine ⟨last, worthI rs h L * 2 ^ last, _, .ref q, v7, rfl, by omega, FrV.whole (Same.sqt (s6.trans s7) (.inl (.inl upd_same))), h7, fun v8 H8 s8 h8 => ?_⟩
  refine hQ v8 H8 (s05.trans ((s6.trans s7).trans s8)) ?_
  rw [meanLk_perm pm] at h8
  exact h8
end
end K86
end
section
set_option Elab.async false
set_option linter.all false
set_option maxRecDepth 100000
namespace K86
open PySem PySem.Spec PyProof.Rows L2
open C8 (Cal Met Mak pe_c pe_mk pe_mt pe_mt0)
section
variable {P : Program} {w : World} {K : PySem.W.Frag} {mg : Str → Option Value} {base : Heap}
def spIsStart (K : PySem.W.Frag) : Sp := fun vs H Q _ => ∃ (x : V) (rs : List (Int × Int × Int)) (last : Nat) (c : Int) (a : Addr) (b : Bool) (xs : List V) (ps : List (Int × Int)) (a2 : Addr) (b2 : Bool) (ns : List Int), vs = [x, .ref a, .ref a2] ∧
  IsLook K H x rs last c ∧ SqB K b H a xs ∧ PrL K H xs ps ∧ SqB K b2 H a2 (ns.map V.int) ∧ startOk ps c ns ∧ RetV H Q fun v _ => v = .bl true
theorem ok_is_start (T : Txt P K mg) : Cal P w K mg base 5 "is_start" (spIsStart K) [] := by
  have h_need_lefts := ok_need_lefts (P := P) (w := w) (base := base) T
  have h_are_heaps := ok_are_heaps (P := P) (w := w) (base := base) T
  have h_spots_of := ok_spots_of (P := P) (w := w) (base := base) T
  refine c_is_start T (fun vs H Q E h => ?_) fun cdv A outer s H vs Q E hr h => ?_
  · obtain ⟨x, rs, last, c, a, b, xs, ps, a2, b2, ns, rfl, _⟩ := h
    rfl
  obtain ⟨x, rs, last, c, a, b, xs, ps, a2, b2, ns, rfl, hlk, ha, hps, ha2, hst, hQ⟩ := h
  refine ⟨_, (pss_cons (ps_try_only rfl rfl ⟨rfl, by decide, .inl (g_BadNumber T)⟩ takes0 (fun W pn xe tk _ => (pss_one (ps_expr (pe_c h_need_lefts hr (by decide) (by rfl) (pa_cons (pv 2) pa_nil))))) (fun a oe cls d pn _ _ => (pss_one (ps_ret pe_bl))))
      (pss_one (ps_ret (pe_and (pe_c h_are_heaps hr (by decide) (by rfl) (pa_cons (pv 1) pa_nil)) (pe_one (pe_callB (cr_all rfl) (by rfl) (z_all T) (by decide +kernel) (pa_cons (pe_lc (own := [("spot", 3)]) (g := (gName 3)) (tt := tYes) rfl sc_is_start.nd (pi_list (pe_c h_spots_of hr (by decide) (by rfl) (pa_cons (pv 1) pa_nil))) (blkOk_by (own := [("spot", 3)]) (N := n_is_start) (sc := defScope s_is_start) (by decide +kernel)) (fun _ _ _ _ _ => (pg_name (i := 3) sc_is_start.nd rfl (by first | exact Or.inl rfl | exact Or.inr rfl))) (fun _ _ _ _ _ => pts_nil) (fun _ _ _ _ _ => (pe_cmpR op_eq (pe_op op_mod (pv 3) pe_int) (pe_fldK (K := K) rfl (pv 0) rfl) (nomark _)))) pa_nil))))))), ?_⟩
  obtain ⟨lp, ldx, lfs, lt, lts, rfl, hlp, fl1, fl2, fl3, hlt, hlr⟩ := hlk
  refine ⟨_, rfl, a2, _, b2, ns, rfl, ha2, hst.2.2, fun v1 H1 s1 _ => ?_⟩
  refine ⟨_, rfl, a, b, xs, ps, rfl, ha.mono s1, hps.im (Im.of s1), hst.1, fun v2 H2 s2 h2 => ?_⟩
  subst h2
  have s02 := s1.trans s2
  have hpl := hst.1.1
  refine ⟨true, rfl, ?_⟩
  refine ⟨_, rfl, a, b, xs, ps, rfl, ha.mono s02, hps.im (Im.of s02), by omega, fun p3 H3 hp3 s3 h3 => ?_⟩
  have s03 := s02.trans s3
  refine ⟨p3, rfl, ⟨_, .inl (.inl h3)⟩, fun D hD => lc_map walk_list (fun i z _ => z = .bl true) hD (fun _ _ _ _ _ h => h) (by rw [List.length_map, List.length_map]; omega) (fun H' e => e.seq (.inl (.inl h3))) ?_ ?_⟩
  · rintro i x H4 H5 N Q1 hi sm ⟨rfl, hx⟩ hq
    obtain ⟨n, hn, rfl⟩ := at_map hx
    have hn2 : n % 2 = c := by
      obtain ⟨p, hp, rfl⟩ := List.mem_map.mp (List.mem_of_getElem? hn)
      exact hst.2.1 p hp
    refine ⟨rfl, tyes ⟨_, rfl, _, _, rfl, rfl, (by decide : (0 : Int) < 2), _, rfl, lp, _, ldx, lfs, _, rfl, (s03.trans sm) _ _ hlp, cl_Look T, no_Look_colour T, fl3, rfl, ?_⟩⟩
    exact Qdec (show V.int (n % 2) = V.int c by rw [hn2]) (hq _ _ (Same.refl _) rfl)
  · rintro H4 acc sm hacc hal hf
    obtain ⟨bs, b1, b2⟩ := all_bs (K := K) hacc hf
    refine ⟨D, bs, rfl, b1, ?_⟩
    rw [b2]
    exact hQ _ _ (s03.trans (fun b u e => sm b u e)) rfl
/-- a worst start, or any other start laid down as one -/
def IsWorst (K : PySem.W.Frag) (H : Hp) (v : V) (ps : List (Int × Int)) (ns : List Int) : Prop := ∃ (p dx : Addr) (fs : List (Str × V)) (u u2 : V), v = .ref p ∧ H p = some (.ins (He.ga K "Worst") dx fs) ∧ Fld fs "heaps" u ∧ Fld fs "lefts" u2 ∧ HpV K H u ps ∧ InT K H u2 ns
theorem IsWorst.mono {H H' : Hp} {v : V} {ps : List (Int × Int)} {ns : List Int} (e : Same H H') (h : IsWorst K H v ps ns) : IsWorst K H' v ps ns := by
  obtain ⟨p, dx, fs, u, u2, rfl, h1, h2, h3, h4, h5⟩ := h
  exact ⟨p, dx, fs, u, u2, rfl, e _ _ h1, h2, h3, h4.im (Im.of e), h5.im (Im.of e)⟩
theorem frac_dec {k : Nat} {n m : Int} : decide ([(frac k n).1, (frac k n).2] = [(frac k m).1, (frac k m).2]) = decide (n = m) := by
  refine decide_eq_decide.mpr ⟨fun h => ?_, fun h => by rw [h]⟩
  have h1 := (List.cons.inj h).1
  have h2 := (List.cons.inj (List.cons.inj h).2).1
  exact frac_inj (Prod.ext h1 h2)
def spShows (K : PySem.W.Frag) : Sp := fun vs H Q _ => ∃ (x v : V) (rs : List (Int × Int × Int)) (last : Nat) (c : Int) (ps : List (Int × Int)) (ns : List Int) (B : Nat) (h : Int → Int) (L : Int → Bool), vs = [x, v] ∧
  IsLook K H x rs last c ∧ last ≤ 8 ∧ (∀ r ∈ rs, rowIn last r) ∧ rs.Pairwise rwLe ∧ rs.length ≤ 40 ∧ IsWorst K H v ps ns ∧ startOk ps c ns ∧ B ≤ 80 ∧ HpsOk B ps h ∧ LfsOk B ns L ∧ RetV H Q fun z _ => z = .bl (decide (gapI last rs ps h L = reachI (sC (rcAll last rs)) last c))
theorem ok_shows_worst (T : Txt P K mg) : Cal P w K mg base 10 "shows_worst" (spShows K) [] := by
  have h_need_look := ok_need_look (P := P) (w := w) (base := base) T
  have h_is_start := ok_is_start (P := P) (w := w) (base := base) T
  have h_kept_heaps := ok_kept_heaps (P := P) (w := w) (base := base) T
  have h_need_lefts := ok_need_lefts (P := P) (w := w) (base := base) T
  have h_both := ok_both (P := P) (w := w) (base := base) T
  have h_worth_in := ok_worth_in (P := P) (w := w) (base := base) T
  have h_turned := ok_turned (P := P) (w := w) (base := base) T
  have h_mean_of_look := ok_mean_of_look (P := P) (w := w) (base := base) T
  have h_reach_in := ok_reach_in (P := P) (w := w) (base := base) T
  refine c_shows_worst T (fun vs H Q E h => ?_) fun cdv A outer s H vs Q E hr h => ?_
  · obtain ⟨x, v, rs, last, c, ps, ns, B, h, L, rfl, _⟩ := h
    rfl
  obtain ⟨x, v, rs, last, c, ps, ns, B, h, L, rfl, hlk, hl8, hrs, hsrt, hrl, hw, hst, hB, hh, hL, hQ⟩ := h
  refine ⟨_, (pss_cons (ps_expr (pe_c h_need_look hr (by decide) (by rfl) (pa_cons (pv 0) pa_nil)))
      (pss_cons (ps_if (PW.pt (pw_or (pt_not (pt_val (pe_callB (C8.call_isC T.insW) (by rfl) (z_isinstance T) (by decide +kernel) (pa_cons (pv 1) (pa_cons (pe_gr rfl (g_Worst T)) pa_nil))))) (pw_or1 (pt_not (pt_val (pe_c h_is_start hr (by decide) (by rfl) (pa_cons (pv 0) (pa_cons (pe_fld (pv 1) rfl) (pa_cons (pe_fld (pv 1) rfl) pa_nil))))))))) (pss_one (ps_ret pe_bl)) pss_nil)
      (pss_cons (ps_par (i := 2) (j := 3) rfl sc_shows_worst.nd rfl rfl (by decide) rfl rfl (pa_cons (pe_c h_kept_heaps hr (by decide) (by rfl) (pa_cons (pe_fld (pv 1) rfl) pa_nil)) (pa_cons (pe_c h_need_lefts hr (by decide) (by rfl) (pa_cons (pe_fld (pv 1) rfl) pa_nil)) pa_nil)) (by rfl))
      (pss_cons (ps_set (i := 4) sc_shows_worst.nd rfl (by first | exact Or.inl rfl | exact Or.inr rfl) (pe_c h_both hr (by decide) (by rfl) (pa_cons (pe_tup (pa_cons (pe_c h_worth_in hr (by decide) (by rfl) (pa_cons (pv 0) (pa_cons (pv 2) (pa_cons (pv 3) pa_nil)))) (pa_cons pe_int pa_nil))) (pa_cons (pe_c h_turned hr (by decide) (by rfl) (pa_cons (pe_c h_mean_of_look hr (by decide) (by rfl) (pa_cons (pv 0) (pa_cons (pv 2) pa_nil))) pa_nil)) pa_nil))))
      (pss_one (ps_ret (pe_cmpR (op_eqD hr.units) (pv 4) (pe_c h_reach_in hr (by decide) (by rfl) (pa_cons (pv 0) pa_nil)) (nomark _)))))))), ?_⟩
  obtain ⟨lp, ldx, lfs, lt, lts, rfl, hlp, fl1, fl2, fl3, hlt, hlr⟩ := id hlk
  obtain ⟨p, dx, fs, u, u2, rfl, hp, f1, f2, hu, hu2⟩ := hw
  obtain ⟨t1, ys, rfl, ht1, hys⟩ := id hu
  have ht1 : SqT K H t1 ys := ht1.sq
  obtain ⟨t2, rfl, ht2⟩ := id hu2
  refine ⟨_, rfl, lp, ldx, lfs, _, rfl, hlp, ?_⟩
  refine ⟨_, rfl, p, dx, fs, rfl, hp, true, rfl, ?_⟩
  refine ⟨_, rfl, _, rfl, p, _, dx, fs, _, rfl, hp, cl_Worst T, no_Worst_heaps T, f1, _, rfl, p, _, dx, fs, _, rfl, hp, cl_Worst T, no_Worst_lefts T, f2, ?_⟩
  refine ⟨.ref lp, rs, last, c, t1, false, ys, ps, t2, false, ns, rfl, hlk, ht1, hys, ht2, hst, fun v1 H1 s1 h1 => ?_⟩
  subst h1
  refine ⟨true, rfl, ?_⟩
  have hp1 := s1 _ _ hp
  refine ⟨_, rfl, p, _, dx, fs, _, rfl, hp1, cl_Worst T, no_Worst_heaps T, f1, t1, false, ys, ps, rfl, Same.sqt s1 ht1, hys.im (Im.of s1), by have := hst.1.1; omega, fun v2 H2 s2 ⟨ps', pm, h2⟩ => ?_⟩
  have s02 := s1.trans s2
  refine ⟨_, rfl, p, _, dx, fs, _, rfl, s02 _ _ hp, cl_Worst T, no_Worst_lefts T, f2, t2, _, false, ns, rfl, Same.sqt s02 ht2, hst.2.2, fun v3 H3 s3 ⟨ns', qm, h3⟩ => ?_⟩
  refine ⟨_, _, rfl, ?_⟩
  have s03 := s02.trans s3
  have h23 := h2.im (Im.of s3)
  have hpl : ps'.length ≤ 60 := by rw [pm.length_eq]; exact hst.1.1
  obtain ⟨t4, ys4, rfl, ht4, hys4⟩ := id h23
  have ht4 := ht4.sq (K := K)
  obtain ⟨t5, rfl, ht5⟩ := id h3
  have hst' : startOk ps' c ns' := ⟨⟨hpl, fun p hp => hst.1.2.1 p (pm.mem_iff.mp hp), (List.Perm.nodup_iff (pm.map _)).mpr hst.1.2.2⟩, fun p hp => hst.2.1 p (pm.mem_iff.mp hp), ⟨by rw [qm.length_eq]; exact hst.2.2.1, fun n hn => hst.2.2.2.1 n (qm.mem_iff.mp hn), qm.nodup_iff.mpr hst.2.2.2.2⟩⟩
  refine ⟨_, rfl, _, rfl, _, rfl, .ref lp, rs, last, c, t4, false, ys4, ps', t5, false, ns', c, B, h, L, rfl, IsLook.mono s03 hlk, hl8, hrs, hsrt, ht4, hys4, ht5, hst', hB, hh.perm pm, hL.perm qm, fun v4 H4 s4 h4 => ?_⟩
  subst h4
  refine ⟨by show 2 ≤ sizeLine; decide, fun q hq => ?_⟩
  have sq := same_new (o := .tup [.int (worthI rs h L), .int 1]) hq
  have s05 := s03.trans (s4.trans sq)
  refine ⟨_, rfl, _, rfl, .ref lp, .ref t4, rs, last, c, ps', rfl, IsLook.mono s05 hlk, hl8, hrs, hrl, h23.im (Im.of (s4.trans sq)), by omega, fun v6 H6 s6 h6 => ?_⟩
  refine ⟨last, _, v6, rfl, h6, fun v7 H7 s7 h7 => ?_⟩
  refine ⟨last, worthI rs h L * 2 ^ last, _, .ref q, v7, rfl, by omega, FrV.whole (Same.sqt (s6.trans s7) (.inl (.inl upd_same))), h7, fun v8 H8 s8 h8 => ?_⟩
  have s08 := s05.trans ((s6.trans s7).trans s8)
  rw [meanLk_perm pm] at h8
  refine ⟨_, rfl, _, rfl, .ref lp, rs, last, c, rfl, IsLook.mono s08 hlk, hl8, hrs, fun v9 H9 s9 h9 => ?_⟩
  obtain ⟨g1, rfl, hg1⟩ := h8.mono s9
  obtain ⟨g2, rfl, hg2⟩ := h9
  refine ⟨_, _, dp_tup (ns := [_, _]) hg1, dp_tup (ns := [_, _]) hg2, shaped_tup _, shaped_tup _, ?_⟩
  rw [eqv_tup, frac_dec]
  exact hQ _ _ (s08.trans s9) rfl
end
end K86
end
section
set_option Elab.async false
set_option linter.all false
set_option maxRecDepth 100000
namespace K86
open PySem PySem.Spec PyProof.Rows L2
open C8 (Cal Met Mak pe_c pe_mk pe_mt pe_mt0)
def WishO (H : Hp) (d : Addr) (S : Int → Int → Bool) (n : Nat) : Prop := ∃ kvs : List (List Key × V), H d = some (.dT kvs) ∧ kvs.length ≤ n ∧ ∀ s t, (valV kvs [Sum.inl s, Sum.inl t]).isSome = S s t
theorem Im.exd {H H' : Hp} {d : Addr} {kvs : List (List Key × V)} (h : H d = some (.dT kvs)) (e : Ex [d] H H') : Im H H' :=
  ⟨fun b xs q => e b _ (fun z => by rw [List.mem_singleton.mp z, h] at q; nomatch q) q, fun b o xs q => e b _ (fun z => by rw [List.mem_singleton.mp z, h] at q; nomatch q) q⟩
section
variable {P : Program} {w : World} {K : PySem.W.Frag} {mg : Str → Option Value} {base : Heap}
def tickAt (c y : Int) (i : Nat) : Int := (y + c) % 2 + 2 * (i : Nat)
def wishUp (S : Int → Int → Bool) (c y : Int) (is : List Nat) : Int → Int → Bool := fun s t => S s t || decide (s = y ∧ t ∈ is.map (tickAt c y))
def spAdded (K : PySem.W.Frag) : Sp := fun vs H Q _ => ∃ (d : Addr) (x : V) (rs : List (Int × Int × Int)) (last : Nat) (c y : Int) (g : Addr) (is : List Nat) (S : Int → Int → Bool) (n : Nat), vs = [.ref d, x, .int y, .ref g] ∧ IsLook K H x rs last c ∧ SqT K H g (is.map natV) ∧ is.length ≤ 60 ∧ WishO H d S n ∧ n ≤ 5000 ∧
  ∀ H', Ex [d] H H' → WishO H' d (wishUp S c y is) (n + is.length) → Q .non H'
theorem ok_added_wish (T : Txt P K mg) : Cal P w K mg base 1 "added_wish" (spAdded K) [] := by
  refine c_added_wish T (fun vs H Q E h => ?_) fun cdv A outer s H vs Q E hr h => ?_
  · obtain ⟨d, x, rs, last, c, y, g, is, S, n, rfl, _⟩ := h
    rfl
  obtain ⟨d, x, rs, last, c, y, g, is, S, n, rfl, ⟨lp, ldx, lfs, lt, lts, rfl, hlp, fl1, fl2, fl3, hlt, hlr⟩, hg, hil, hw, hn, hQ⟩ := h
  refine ⟨_, (pss_one (ps_for PassesOwn.never rfl (pi_tup (pv 3)) (pg_name (i := 4) sc_added_wish.nd rfl (by first | exact Or.inl rfl | exact Or.inr rfl))
      (pss_one (ps_dput (hu_of hr) (pv 0) (pe_tup (pa_cons (pv 2) (pa_cons (pe_op op_add (pe_op op_mod (pe_op op_add (pv 2) (pe_fld (pv 1) rfl)) pe_int) (pe_op op_mul pe_int (pv 4))) pa_nil))) pe_bl rfl)))), ?_⟩
  obtain ⟨kv0, hd0, hk0, hw0⟩ := hw
  have nlp : lp ≠ d := fun z => by rw [z, hd0] at hlp; nomatch hlp
  refine ⟨_, rfl, g, rfl, ⟨_, hg⟩, for_it walk_tup (fun i σ H' => ∃ (e4 : Option V), σ = [some (.ref d), some (.ref lp), some (.int y), some (.ref g), e4] ∧ Ex [d] H H' ∧ WishO H' d (wishUp S c y (is.take i)) (n + i))
    ⟨none, rfl, Ex.refl _ _, kv0, hd0, hk0, fun s t => by rw [hw0]; unfold wishUp; simp⟩ (fun i σ H' _ ⟨_, _, e, _⟩ => (Im.exd hd0 e).sqt hg) ?_ ?_⟩
  · rintro i x σ H1 H2 hi ⟨e4, rfl, ex, kvs, hd, hk, hwv⟩ ⟨rfl, hx⟩
    obtain ⟨j, hj, rfl⟩ := at_map hx
    have hil2 : i < is.length := by rw [List.length_map] at hi; exact hi
    refine ⟨_, rfl, _, rfl, _, rfl, _, rfl, lp, _, ldx, lfs, _, rfl, ex lp _ (by simp [nlp]) hlp, cl_Look T, no_Look_colour T, fl3, _, _, rfl, rfl, _, _, rfl, rfl, (by decide : (0 : Int) < 2), _, rfl, _, _, rfl, rfl, .inl ⟨by decide, by decide⟩, _, _, rfl, rfl, by show 2 ≤ sizeLine; decide, fun b hb => ?_⟩
    have sb := same_new (o := .tup [.int y, .int ((y + c) % 2 + 2 * (j : Nat))]) hb
    have hdb := sb _ _ hd
    refine ⟨d, _, rfl, DPut.t (k := [Sum.inl y, Sum.inl ((y + c) % 2 + 2 * (j : Nat))]) hdb upd_same (sz_of (by omega)), ?_⟩
    refine ⟨_, rfl, (ex.trans (Ex.of sb)).trans (Ex.mut (by simp)), _, upd_same, ?_, fun s t => ?_⟩
    · have := length_putK kvs [Sum.inl y, Sum.inl ((y + c) % 2 + 2 * ((j : Nat) : Int))] (V.bl true)
      omega
    · rw [valV_put]
      have old := hwv s t
      rw [take_succ_at hj]
      unfold wishUp at old ⊢
      by_cases c1 : s = y ∧ t = (y + c) % 2 + 2 * (j : Nat)
      · rw [if_pos (by rw [c1.1, c1.2])]
        have : decide (s = y ∧ t ∈ (is.take i ++ [j]).map (tickAt c y)) = true := decide_eq_true ⟨c1.1, by rw [List.map_append]; exact List.mem_append_right _ (by rw [c1.2]; exact List.mem_singleton.mpr rfl)⟩
        rw [this]
        simp
      · rw [if_neg (fun z => c1 (by
          have z1 := List.cons.inj z
          have z2 := List.cons.inj z1.2
          exact ⟨Sum.inl.inj z1.1, Sum.inl.inj z2.1⟩)), old]
        congr 1
        refine decide_eq_decide.mpr ⟨fun h => ⟨h.1, by rw [List.map_append]; exact List.mem_append_left _ h.2⟩, fun h => ⟨h.1, ?_⟩⟩
        rw [List.map_append] at h
        rcases List.mem_append.mp h.2 with h2 | h2
        · exact h2
        · exact absurd ⟨h.1, List.mem_singleton.mp h2⟩ c1
  · rintro σ H1 ⟨e4, rfl, ex, hw⟩
    rw [List.length_map, List.take_length] at hw
    exact hQ _ ex hw
def spEnds (K : PySem.W.Frag) : Sp := fun vs H Q _ => ∃ (x : V) (rs : List (Int × Int × Int)) (last : Nat) (c : Int), vs = [x] ∧ IsLook K H x rs last c ∧ 1 ≤ rs.length ∧ rs.length ≤ 40 ∧ ∀ (lo hi : Int) (p : Addr) (H' : Hp), Same H H' → H' p = some (.tup [.int lo, .int hi]) → (∀ r ∈ rs, lo ≤ r.1 ∧ r.1 ≤ hi) → (∃ r ∈ rs, r.1 = lo) → (∃ r ∈ rs, r.1 = hi) → Q (.ref p) H'
theorem ok_ends_of (T : Txt P K mg) : Cal P w K mg base 1 "ends_of" (spEnds K) [] := by
  refine c_ends_of T (fun vs H Q E h => ?_) fun cdv A outer s H vs Q E hr h => ?_
  · obtain ⟨x, rs, last, c, rfl, _⟩ := h
    rfl
  obtain ⟨x, rs, last, c, rfl, ⟨lp, ldx, lfs, lt, lts, rfl, hlp, fl1, fl2, fl3, hlt, hlr⟩, hl1, hl2, hQ⟩ := h
  refine ⟨_, (pss_cons (ps_setLc (i := 1) (own := [("spot", 2), ("_", 3)]) (g := (gTup K 3 (gCons (gName 2) (gCons (gName 3) (gCons (gName 3) gNil))))) (tt := tYes) rfl sc_ends_of.nd rfl rfl (sw_true rfl rfl rfl (by decide +kernel)) (pi_tup (pe_fld (pv 0) rfl)) (blkOk_by (own := [("spot", 2), ("_", 3)]) (N := n_ends_of) (sc := defScope s_ends_of) (by decide +kernel)) (fun _ _ _ _ _ => (pg_tup rfl (pgs_cons (pg_name (i := 2) sc_ends_of.nd rfl (by first | exact Or.inl rfl | exact Or.inr rfl)) (pgs_cons (pg_name (i := 3) sc_ends_of.nd rfl (by first | exact Or.inl rfl | exact Or.inr rfl)) (pgs_cons (pg_name (i := 3) sc_ends_of.nd rfl (by first | exact Or.inl rfl | exact Or.inr rfl)) pgs_nil))))) (fun _ _ _ _ _ => pts_nil) (fun _ _ _ _ _ => (pv 2)))
      (pss_one (ps_ret (pe_tup (pa_cons (pe_callB (cr_min rfl) (by rfl) (z_min T) (by decide +kernel) (pa_cons (pv 1) pa_nil)) (pa_cons (pe_callB (cr_max rfl) (by rfl) (z_max T) (by decide +kernel) (pa_cons (pv 1) pa_nil)) pa_nil)))))), ?_⟩
  have hxl : lts.length = rs.length := Paired.length hlr
  refine ⟨_, rfl, lp, _, ldx, lfs, _, rfl, hlp, cl_Look T, no_Look_rows T, fl1, lt, rfl, ⟨lts, hlt⟩, fun D hD => lc_map walk_tup (fun i z _ => ∀ r, rs[i]? = some r → z = .int r.1) hD (fun _ _ _ _ _ h => h) (by omega) (fun H' e => Same.sqt e hlt) ?_ ?_⟩
  · rintro i x H1 H2 N Q1 hi sm ⟨rfl, hx⟩ hq
    obtain ⟨r, hr1, xa, rfl, hP⟩ := paired_at hlr hx
    refine ⟨xa, _, rfl, Same.sqt sm hP, rfl, _, _, rfl, _, _, rfl, _, _, rfl, rfl, rfl, tyes ⟨_, rfl, hq _ _ (Same.refl _) fun r' hr' => ?_⟩⟩
    rw [hr1] at hr'
    cases hr'
    rfl
  · rintro H1 acc sm hacc hal hf
    have e : acc = (rs.map (·.1)).map V.int := acc_ints (by rw [hal, List.length_map, hxl]) fun i z hz m hm => by
      rw [List.getElem?_map] at hm
      obtain ⟨r, hr1, rfl⟩ := Option.map_eq_some_iff.mp hm
      exact hf i z hz r hr1
    rw [e] at hacc
    refine ⟨_, rfl, D, _, rfl, .inl (.inl hacc), by rw [List.length_map]; omega, fun lo hlo hle => ?_⟩
    refine ⟨_, rfl, D, _, rfl, .inl (.inl hacc), by rw [List.length_map]; omega, fun hi hhi hge => ?_⟩
    refine ⟨by show 2 ≤ sizeLine; decide, fun p hp => hQ lo hi p _ (Same.trans (fun b u q => sm b u q) (same_new hp)) upd_same (fun r hr => ⟨hle _ (List.mem_map.mpr ⟨r, hr, rfl⟩), hge _ (List.mem_map.mpr ⟨r, hr, rfl⟩)⟩) ?_ ?_⟩
    · obtain ⟨r, hr, e⟩ := List.mem_map.mp hlo
      exact ⟨r, hr, e⟩
    · obtain ⟨r, hr, e⟩ := List.mem_map.mp hhi
      exact ⟨r, hr, e⟩
def spNear (K : PySem.W.Frag) : Sp := fun vs H Q _ => ∃ (x : V) (rs : List (Int × Int × Int)) (last : Nat) (c : Int), vs = [x] ∧ IsLook K H x rs last c ∧ last ≤ 8 ∧ 1 ≤ rs.length ∧ rs.length ≤ 40 ∧ (∀ r ∈ rs, rowIn last r) ∧ RetV H Q fun v _ => v = .non
theorem ok_need_near (T : Txt P K mg) : Cal P w K mg base 2 "need_near" (spNear K) [] := by
  have h_ends_of := ok_ends_of (P := P) (w := w) (base := base) T
  refine c_need_near T (fun vs H Q E h => ?_) fun cdv A outer s H vs Q E hr h => ?_
  · obtain ⟨x, rs, last, c, rfl, _⟩ := h
    rfl
  obtain ⟨x, rs, last, c, rfl, hlk, hl8, h1, h2, hrs, hQ⟩ := h
  refine ⟨_, (pss_cons (ps_asg (pe_c h_ends_of hr (by decide) (by rfl) (pa_cons (pv 0) pa_nil)) (pg_tup rfl (pgs_cons (pg_name (i := 1) sc_need_near.nd rfl (by first | exact Or.inl rfl | exact Or.inr rfl)) (pgs_cons (pg_name (i := 2) sc_need_near.nd rfl (by first | exact Or.inl rfl | exact Or.inr rfl)) pgs_nil))))
      (pss_cons (ps_if (PW.pt (pw_or (pt_cmpR op_lt (pv 1) (pe_un un_neg (pe_gi rfl (i_FARTHEST_FIRST T))) (nomark _)) (pw_or1 (pt_cmpR op_gt (pv 2) (pe_gi rfl (i_FARTHEST_FIRST T)) (nomark _))))) (pss_one ps_never) pss_nil)
      (pss_one (ps_if (pt_cmpR op_gt (pe_op op_add (pe_op op_sub (pv 2) (pv 1)) (pe_op op_mul pe_int (pe_fld (pv 0) rfl))) (pe_gi rfl (i_MOST_WIDE T)) (nomark _)) (pss_one ps_never) pss_nil)))), ?_⟩
  obtain ⟨lp, ldx, lfs, lt, lts, rfl, hlp, fl1, fl2, fl3, hlt, hlr⟩ := id hlk
  refine ⟨_, rfl, .ref lp, rs, last, c, rfl, hlk, h1, h2, fun lo hi p H1 s1 hp hle hlo hhi => ?_⟩
  obtain ⟨ra, hra, rfl⟩ := hlo
  obtain ⟨rb, hrb, rfl⟩ := hhi
  have a1 := hrs ra hra
  have a2 := hrs rb hrb
  unfold rowIn at a1 a2
  refine ⟨p, _, rfl, .inl (.inl hp), rfl, _, _, rfl, _, _, rfl, rfl, ?_⟩
  refine ⟨_, rfl, _, rfl, _, _, rfl, rfl, _, rfl, ?_⟩
  rw [decide_eq_false (show ¬ ra.1 < -(999900 : Int) by omega)]
  refine iteF ⟨_, rfl, _, _, rfl, rfl, _, rfl, ?_⟩
  rw [decide_eq_false (show ¬ (999900 : Int) < rb.1 by omega)]
  refine iteF ⟨_, rfl, _, rfl, _, _, rfl, rfl, _, rfl, lp, _, ldx, lfs, _, rfl, s1 _ _ hlp, cl_Look T, no_Look_last T, fl2, _, _, rfl, rfl, .inl ⟨by decide, by decide⟩, _, _, rfl, rfl, _, _, rfl, rfl, _, rfl, ?_⟩
  rw [decide_eq_false (show ¬ (118 : Int) < rb.1 - ra.1 + 2 * (last : Int) by omega)]
  exact iteF (hQ _ _ s1 rfl)
def laterL (row : List Int) : List Int := List.zipWith (fun a b : Int => a + b) (0 :: row) (row ++ [0])
def rowP (t : Nat) : List Int := (List.range (t + 1)).map fun i : Nat => ways t (2 * (i : Int) - t)
theorem rowP_next : ∀ t : Nat, t < 9 → laterL (rowP t) = rowP (t + 1) := by decide +kernel
def spLater (K : PySem.W.Frag) : Sp := fun vs H Q _ => ∃ (a : Addr) (row : List Int), vs = [.ref a] ∧ H a = some (.lst (row.map V.int)) ∧ row.length ≤ 100 ∧ RetN H Q (.lst ((laterL row).map V.int))
theorem ok_later_row (T : Txt P K mg) : Cal P w K mg base 1 "later_row" (spLater K) [] := by
  refine c_later_row T (fun vs H Q E h => ?_) fun cdv A outer s H vs Q E hr h => ?_
  · obtain ⟨a, row, rfl, _⟩ := h
    rfl
  obtain ⟨a, row, rfl, ha, hl, hQ⟩ := h
  refine ⟨_, (pss_one (ps_ret (pe_lc (own := [("one", 1), ("other", 2)]) (g := (gTup K 2 (gCons (gName 1) (gCons (gName 2) gNil)))) (tt := tYes) rfl sc_later_row.nd (pi_zip (by rfl) (z_zip T) (pa_cons (pe_lst (pa_cons pe_int (StX.pa_star (pv 0) pa_nil))) (pa_cons (pe_lst (StX.pa_star (pv 0) (pa_cons pe_int pa_nil))) pa_nil))) (blkOk_by (own := [("one", 1), ("other", 2)]) (N := n_later_row) (sc := defScope s_later_row) (by decide +kernel)) (fun _ _ _ _ _ => (pg_tup rfl (pgs_cons (pg_name (i := 1) sc_later_row.nd rfl (by first | exact Or.inl rfl | exact Or.inr rfl)) (pgs_cons (pg_name (i := 2) sc_later_row.nd rfl (by first | exact Or.inl rfl | exact Or.inr rfl)) pgs_nil)))) (fun _ _ _ _ _ => pts_nil) (fun _ _ _ _ _ => (pe_op op_add (pv 1) (pv 2)))))), ?_⟩
  have haS : SqL K H a (row.map V.int) := .inl (.inl ha)
  refine ⟨_, rfl, a, _, rfl, .inr haS, by show (V.int 0 :: (row.map V.int ++ [])).length ≤ _; rw [List.append_nil, List.length_cons, List.length_map]; exact Nat.le_of_lt (sz_of (by omega)), fun p1 hp1 => ?_⟩
  have s1 := same_new (o := .lst (V.int 0 :: (row.map V.int ++ []))) hp1
  refine ⟨_, rfl, a, _, rfl, .inr (s1.seq haS), by rw [List.length_append, List.length_map]; exact Nat.le_of_lt (sz_of (by show row.length + 1 ≤ _; omega)), fun p2 hp2 => ?_⟩
  have s2 := same_new (o := .lst (row.map V.int ++ [.int 0])) hp2
  have h1 : SqL K (upd (upd H p1 (.lst (V.int 0 :: (row.map V.int ++ [])))) p2 (.lst (row.map V.int ++ [.int 0]))) p1 ((0 :: row).map V.int) := s2.seq (.inl (.inl (by rw [List.append_nil]; exact upd_same)))
  have h2 : SqL K (upd (upd H p1 (.lst (V.int 0 :: (row.map V.int ++ [])))) p2 (.lst (row.map V.int ++ [.int 0]))) p2 ((row ++ [0]).map V.int) := .inl (.inl (by rw [List.map_append]; exact upd_same))
  have s12 := s1.trans s2
  generalize upd (upd H p1 (.lst (V.int 0 :: (row.map V.int ++ [])))) p2 (.lst (row.map V.int ++ [.int 0])) = H2 at h1 h2 s12
  have hn : row.length + 1 = min ((0 :: row).map V.int).length ((row ++ [0]).map V.int).length := by
    rw [List.length_map, List.length_map, List.length_append]
    exact (Nat.min_self _).symm
  refine ⟨p1, p2, _, _, rfl, h1, h2, fun D hD => lc_map (walk_zip hn) (fun i z _ => ∀ m, (laterL row)[i]? = some m → z = .int m) hD (fun _ _ _ _ _ h => h) (by omega) (fun H' e => ⟨e.seq h1, e.seq h2⟩) ?_ ?_⟩
  · rintro i x H3 H4 N Q1 hi sm ⟨U, x1, y1, rfl, hU, rfl, e1, e2⟩ hq
    obtain ⟨m1, f1, rfl⟩ := at_map e1
    obtain ⟨m2, f2, rfl⟩ := at_map e2
    refine ⟨U, _, rfl, .inl (.inl upd_same), rfl, _, _, rfl, _, _, rfl, rfl, rfl, tyes ⟨_, rfl, _, rfl, _, _, rfl, rfl, hq _ _ (same_new hU) fun m hm => ?_⟩⟩
    unfold laterL at hm
    rw [List.getElem?_zipWith, f1, f2] at hm
    cases hm
    rfl
  · rintro H3 acc sm hacc hal hf
    have e : acc = (laterL row).map V.int := acc_ints (by rw [hal]; unfold laterL; rw [List.length_zipWith, List.length_append]; exact (Nat.min_self _).symm) fun i z hz m hm => hf i z hz m hm
    rw [e] at hacc
    exact hQ D _ (Same.back s12 hD) (s12.trans fun b u q => sm b u q) hacc
/-- the ticks of a spot's greatest sum; its lefts -/
def ticksF (g : Int → Int → Int) (last : Nat) (c s : Int) : List Int := (btEnd (csL g last c s)).2.map (tickAt c s)
def wishF (g : Int → Int → Int) (last : Nat) (c : Int) : Int → Int → Bool := fun s t => decide (t ∈ ticksF g last c s)
def leftF (g : Int → Int → Int) (last : Nat) (c : Int) : Int → Bool := fun s => decide (btSign (csL g last c s) = -1)
theorem csL_pos {g : Int → Int → Int} {last : Nat} {c y : Int} (h : 2 ≤ last) : 0 < (csL g last c y).length := by
  unfold csL
  rw [List.length_map, List.length_range]
  omega
theorem btEnd_len (cs : List Int) : (btEnd cs).2.length ≤ cs.length := by
  have h := bt_len cs cs.length
  unfold btEnd moreOf
  split
  · exact h.2
  · exact h.1
def spFree (K : PySem.W.Frag) : Sp := fun vs H Q _ => ∃ (x : V) (rs : List (Int × Int × Int)) (last : Nat) (c : Int), vs = [x] ∧ IsLook K H x rs last c ∧ 2 ≤ last ∧ last ≤ 8 ∧ (∀ r ∈ rs, rowIn last r) ∧
  ∀ (H' : Hp) (d t2 p : Addr) (ns : List Int), Same H H' → H d = none → H' p = some (.tup [.ref d, .ref t2]) → WishO H' d (wishF (sC (rcAll last rs)) last c) 5000 → SqT K H' t2 (ns.map V.int) → LfsOk 30 ns (leftF (sC (rcAll last rs)) last c) → Q (.ref p) H'
theorem ok_free_wish (T : Txt P K mg) : Cal P w K mg base 5 "free_wish" (spFree K) [] := by
  have h_spots_changes := ok_spots_changes (P := P) (w := w) (base := base) T
  have h_best_turns := ok_best_turns (P := P) (w := w) (base := base) T
  have h_added_wish := ok_added_wish (P := P) (w := w) (base := base) T
  refine c_free_wish T (fun vs H Q E h => ?_) fun cdv A outer s H vs Q E hr h => ?_
  · obtain ⟨x, rs, last, c, rfl, _⟩ := h
    rfl
  obtain ⟨x, rs, last, c, rfl, hlk, hl2, hl8, hrs, hQ⟩ := h
  refine ⟨_, (pss_cons (ps_par (i := 1) (j := 2) rfl sc_free_wish.nd rfl rfl (by decide) rfl rfl (pa_cons pe_dnewT (pa_cons (pe_lst pa_nil) pa_nil)) (by rfl))
      (pss_cons (ps_for PassesOwn.never rfl (pi_list (pe_c h_spots_changes hr (by decide) (by rfl) (pa_cons (pv 0) pa_nil))) (pg_tup rfl (pgs_cons (pg_name (i := 3) sc_free_wish.nd rfl (by first | exact Or.inl rfl | exact Or.inr rfl)) (pgs_cons (pg_name (i := 4) sc_free_wish.nd rfl (by first | exact Or.inl rfl | exact Or.inr rfl)) pgs_nil)))
      (pss_cons (ps_asg (pe_c h_best_turns hr (by decide) (by rfl) (pa_cons (pv 4) pa_nil)) (pg_tup rfl (pgs_cons (pg_name (i := 5) sc_free_wish.nd rfl (by first | exact Or.inl rfl | exact Or.inr rfl)) (pgs_cons (pg_name (i := 6) sc_free_wish.nd rfl (by first | exact Or.inl rfl | exact Or.inr rfl)) (pgs_cons (pg_name (i := 7) sc_free_wish.nd rfl (by first | exact Or.inl rfl | exact Or.inr rfl)) pgs_nil)))))
      (pss_cons (ps_expr (pe_c h_added_wish hr (by decide) (by rfl) (pa_cons (pv 1) (pa_cons (pv 0) (pa_cons (pv 3) (pa_cons (pv 6) pa_nil))))))
      (pss_one (ps_expr (pe_bm PySem.F.plainAttrs_list PySem.F.slot_list_extend PySem.F.type_list_extend mt_extend (pv 2) (pa_cons (pe_ifExp (pt_cmpR op_eq (pv 7) (pe_un un_neg pe_int) (nomark _)) (pe_lst (pa_cons (pv 3) pa_nil)) (pe_lst pa_nil)) pa_nil)))))))
      (pss_one (ps_ret (pe_tup (pa_cons (pv 1) (pa_cons (pe_callTy call_tuple_of (by rfl) (z_tuple T) (by decide +kernel) (pa_cons (pv 2) pa_nil)) pa_nil))))))), ?_⟩
  obtain ⟨lp, ldx, lfs, lt, lts, rfl, hlp, fl1, fl2, fl3, hlt, hlr⟩ := id hlk
  refine fun D hD => ⟨Nat.zero_le _, fun F hF => ⟨_, _, rfl, ?_⟩⟩
  have sD := same_new (o := .dT []) hD
  have sF := same_new (o := .lst []) hF
  have hF0 : H F = none := Same.back sD hF
  refine ⟨_, rfl, .ref lp, rs, last, c, rfl, IsLook.mono (sD.trans sF) hlk, hl8, hrs, ?_⟩
  rintro v H2 s2 ⟨a, xs, ys, rfl, ha0, ha, hxs, hnd, hsp, hout⟩
  have s02 := (sD.trans sF).trans s2
  have hD2 : H2 D = some (.dT []) := s2 _ _ (sF _ _ upd_same)
  have hF2 : H2 F = some (.lst []) := s2 _ _ upd_same
  have nDF : D ≠ F := fun z => by rw [z, hF2] at hD2; nomatch hD2
  generalize hg : sC (rcAll last rs) = g at hxs hout hQ
  have hxl : xs.length = ys.length := Paired.length hxs
  have hyl : ys.length ≤ 60 := len_span (lo := -30) (n := 60) hnd fun x hx => ⟨(hsp x hx).1, by have := (hsp x hx).2; omega⟩
  have hx0 : ∀ i, i < xs.length → ∃ y, ys[i]? = some y ∧ ∃ (t l : Addr) (fs : List V), xs[i]? = some (.ref t) ∧ SqT K H2 t [.int y, .ref l] ∧ H2 l = some (.lst fs) ∧ FrL K last (csL g last c y) fs H2 ∧ l ≠ F := fun i hi => by
    obtain ⟨y, hy, t, l, fs, h1, h2, h3, h4⟩ := paired_at hxs (List.getElem?_eq_getElem hi)
    refine ⟨y, hy, t, l, fs, by rw [List.getElem?_eq_getElem hi, h1], h2, h3, h4, fun z => ?_⟩
    rw [z, hF2] at h3
    cases h3
    have := h4.1
    have h5 := csL_pos (g := g) (c := c) (y := y) hl2
    rw [← this] at h5
    exact absurd h5 (by decide)
  have naF : a ≠ F := fun z => by rw [z, upd_same] at ha0; nomatch ha0
  have naD : a ≠ D := fun z => by rw [z, hD2] at ha; nomatch ha
  have ex0 : ∀ H', Ex [D, F] H2 H' → Im H2 H' := fun H' e =>
    ⟨fun b us q => e b _ (fun z => by
      rcases List.mem_cons.mp z with z | z
      · rw [z, hD2] at q; nomatch q
      · rw [List.mem_singleton.mp z, hF2] at q; nomatch q) q, fun b o us q => e b _ (fun z => by
      rcases List.mem_cons.mp z with z | z
      · rw [z, hD2] at q; nomatch q
      · rw [List.mem_singleton.mp z, hF2] at q; nomatch q) q⟩
  refine ⟨a, rfl, ⟨xs, .inl (.inl ha)⟩, for_it walk_list (fun i σ H' => ∃ (e3 e4 e5 e6 e7 : Option V), σ = [some (.ref lp), some (.ref D), some (.ref F), e3, e4, e5, e6, e7] ∧ Ex [D, F] H2 H' ∧ WishO H' D (fun s t => decide (s ∈ ys.take i ∧ t ∈ ticksF g last c s)) (5 * i) ∧ H' F = some (.lst (((ys.take i).filter (leftF g last c)).map V.int)))
    ⟨none, none, none, none, none, rfl, Ex.refl _ _, ⟨[], hD2, Nat.le_refl _, fun s t => by simp [valV_nil]⟩, hF2⟩ (fun i σ H' _ ⟨_, _, _, _, _, _, e, _⟩ => .inl (.inl (e a _ (by simp [naF, naD]) ha))) ?_ ?_⟩
  · rintro i x σ H3 H4 hi ⟨e3, e4, e5, e6, e7, rfl, ex, hw, hF4⟩ ⟨rfl, hx⟩
    obtain ⟨y, hy, t, l, fs, hxt, h1, h2, h3, nlF⟩ := hx0 i hi
    rw [hxt] at hx
    cases hx
    have im := ex0 _ ex
    have nlD : l ≠ D := fun z => by rw [z, hD2] at h2; nomatch h2
    have hl4 : H4 l = some (.lst fs) := ex l _ (by simp [nlF, nlD]) h2
    have hcl := csL_len (g := g) (c := c) (y := y) hl8
    refine ⟨t, _, rfl, im.sqt h1, rfl, _, _, rfl, _, _, rfl, rfl, ?_⟩
    refine ⟨_, rfl, last, l, fs, _, rfl, by omega, by omega, .inl (.inl hl4), h3.im im, ?_⟩
    rintro v5 H5 s5 ⟨t5, g5, f5, rfl, b1, b2, b3⟩
    refine ⟨t5, _, rfl, b1, rfl, _, _, rfl, _, _, rfl, _, _, rfl, rfl, ?_⟩
    have hbl := btEnd_len (csL g last c y)
    obtain ⟨kvs, hk1, hk2, hk3⟩ := hw
    have hlp5 : IsLook K H5 (.ref lp) rs last c := by
      have nlpD : lp ≠ D := fun z => by rw [z] at hlp; rw [hD] at hlp; nomatch hlp
      have nlpF : lp ≠ F := fun z => by rw [z] at hlp; rw [hF0] at hlp; nomatch hlp
      exact ⟨lp, ldx, lfs, lt, lts, rfl, s5 _ _ (ex lp _ (by simp [nlpD, nlpF]) (s02 _ _ hlp)), fl1, fl2, fl3, Same.sqt s5 (im.sqt (Same.sqt s02 hlt)), ((hlr.im (Im.of s02)).im im).im (Im.of s5)⟩
    refine ⟨_, rfl, _, rfl, _, rfl, _, rfl, D, .ref lp, rs, last, c, y, g5, _, _, 5 * i, rfl, hlp5, b3, by omega, ⟨kvs, s5 _ _ hk1, hk2, hk3⟩, by omega, fun H6 e6' hw6 => ?_⟩
    have hF5 := s5 _ _ hF4
    have hF6 : H6 F = some (.lst (((ys.take i).filter (leftF g last c)).map V.int)) := e6' F _ (by simp [Ne.symm nDF]) hF5
    have ex6 : Ex [D, F] H2 H6 := (ex.trans (Ex.of s5)).trans fun b u n e => e6' b u (fun z => n (by rw [List.mem_singleton.mp z]; simp)) e
    have hfl : ((ys.take i).filter (leftF g last c)).length ≤ 60 := by
      have z1 := List.length_filter_le (leftF g last c) (ys.take i)
      have z2 := List.length_take_le' i ys
      omega
    refine ⟨_, rfl, .inl ⟨rfl, _, .inl (.inl hF6)⟩, _, rfl, _, rfl, rfl, _, rfl, ?_⟩
    have fin : ∀ (add : List Int) (q : Addr) (H7 : Hp), H6 q = none → H7 = upd H6 q (.lst (add.map V.int)) → add = [y].filter (leftF g last c) → ∃ l b xs zs, V.ref F = V.ref l ∧ [V.ref q] = [V.ref b] ∧ H7 l = some (.lst xs) ∧ H7 b = some (.lst zs) ∧ xs.length + zs.length ≤ sizeLine ∧ (Ex [D, F] H2 (upd H7 l (.lst (xs ++ zs))) ∧ WishO (upd H7 l (.lst (xs ++ zs))) D (fun s t => decide (s ∈ ys.take (i + 1) ∧ t ∈ ticksF g last c s)) (5 * (i + 1)) ∧ upd H7 l (.lst (xs ++ zs)) F = some (.lst (((ys.take (i + 1)).filter (leftF g last c)).map V.int))) := by
      rintro add q H7 hq rfl hadd
      have sq := same_new (o := .lst (add.map V.int)) hq
      have hF7 := sq _ _ hF6
      have hal : add.length ≤ 1 := by rw [hadd]; exact List.length_filter_le (leftF g last c) [y]
      refine ⟨F, q, _, _, rfl, rfl, hF7, upd_same, by rw [List.length_map, List.length_map]; exact Nat.le_of_lt (sz_of (by omega)), (ex6.trans (Ex.of sq)).trans (Ex.mut (by simp)), ?_, ?_⟩
      · obtain ⟨kv6, m1, m2, m3⟩ := hw6
        refine ⟨kv6, by rw [upd_ne nDF]; exact sq _ _ m1, by omega, fun s t => ?_⟩
        rw [m3]
        unfold wishUp
        rw [take_succ_at hy]
        simp only [List.mem_append, List.mem_singleton]
        by_cases cs : s = y
        · rw [cs]
          by_cases ct : t ∈ ticksF g last c y
          · rw [decide_eq_true (show (y = y ∧ t ∈ ((btEnd (csL g last c y)).2.map (tickAt c y))) from ⟨rfl, ct⟩), decide_eq_true (show ((y ∈ ys.take i ∨ y = y) ∧ t ∈ ticksF g last c y) from ⟨.inr rfl, ct⟩), Bool.or_true]
          · rw [decide_eq_false (show ¬ (y = y ∧ t ∈ ((btEnd (csL g last c y)).2.map (tickAt c y))) from fun z => ct z.2), decide_eq_false (fun z => ct z.2), decide_eq_false (fun z => ct z.2)]
            rfl
        · rw [decide_eq_false (show ¬ (s = y ∧ t ∈ ((btEnd (csL g last c y)).2.map (tickAt c y))) from fun z => cs z.1), Bool.or_false]
          refine decide_eq_decide.mpr ⟨fun z => ⟨.inl z.1, z.2⟩, fun z => ⟨z.1.elim id fun w => absurd w cs, z.2⟩⟩
      · rw [take_succ_at hy, List.filter_append, List.map_append, hadd]
        exact upd_same
    by_cases c1 : btSign (csL g last c y) = -1
    · rw [c1]
      refine iteT ⟨_, rfl, by show 1 ≤ sizeLine; decide, fun q hq => ?_⟩
      obtain ⟨l', b', xs', zs', e1, e2, e3, e4, e5, e6, e7, e8⟩ := fin [y] q _ hq rfl (by rw [List.filter_cons, show leftF g last c y = true from decide_eq_true c1]; rfl)
      exact ⟨l', b', xs', zs', e1, e2, e3, e4, e5, _, _, _, _, _, rfl, e6, e7, e8⟩
    · have d1 : decide (V.int (btSign (csL g last c y)) = V.int (-1)) = false := decide_eq_false (fun z => c1 (V.int.inj z))
      show (if decide (V.int (btSign (csL g last c y)) = V.int (-1)) = true then _ else _)
      rw [d1]
      refine iteF ⟨by show 0 ≤ sizeLine; decide, fun q hq => ?_⟩
      obtain ⟨l', b', xs', zs', e1, e2, e3, e4, e5, e6, e7, e8⟩ := fin [] q _ hq rfl (by rw [List.filter_cons, show leftF g last c y = false from decide_eq_false c1]; rfl)
      exact ⟨l', b', xs', zs', e1, e2, e3, e4, e5, _, _, _, _, _, rfl, e6, e7, e8⟩
  · rintro σ H3 ⟨e3, e4, e5, e6, e7, rfl, ex, ⟨kvs, hk1, hk2, hk3⟩, hF3⟩
    rw [hxl, List.take_length] at hF3
    have hk4 : ∀ s t, (valV kvs [Sum.inl s, Sum.inl t]).isSome = wishF g last c s t := fun s t => by
      rw [hk3, hxl, List.take_length]
      refine decide_eq_decide.mpr ⟨fun z => z.2, fun z => ⟨Decidable.by_contra fun n => ?_, z⟩⟩
      unfold ticksF at z
      rw [btEnd_none (csL_zero (hout s n))] at z
      nomatch z
    refine ⟨_, rfl, _, rfl, F, _, rfl, .inl ⟨.inl (.inl hF3), fun q hq => ⟨by show 2 ≤ sizeLine; decide, fun p hp => ?_⟩⟩⟩
    have sq := same_new (o := .tup ((ys.filter (leftF g last c)).map V.int)) hq
    have sp := same_new (o := .tup [.ref D, .ref q]) hp
    have hD0 : H D = none := hD
    refine hQ _ D q p (ys.filter (leftF g last c)) (Same.trans (Ex.same s02 (fun b hb => ?_) ex) (sq.trans sp)) hD upd_same ⟨kvs, (sq.trans sp) _ _ hk1, by omega, hk4⟩ (Same.sqt sp (.inl (.inl upd_same))) ⟨hnd.filter _, fun y => ?_, fun y hy => ?_⟩
    · rcases List.mem_cons.mp hb with hb | hb
      · rw [hb]; exact hD0
      · rw [List.mem_singleton.mp hb]; exact hF0
    · rw [List.mem_filter]
      refine ⟨fun z => z.2, fun z => ⟨Decidable.by_contra fun n => ?_, z⟩⟩
      unfold leftF at z
      rw [btSign_none (csL_zero (hout y n))] at z
      nomatch z
    · have := hsp y (List.mem_filter.mp hy).1
      omega
def spWishBy (K : PySem.W.Frag) : Sp := fun vs H Q _ => ∃ (x : V) (rs : List (Int × Int × Int)) (last : Nat) (c : Int) (t : Addr) (ns : List Int), vs = [x, .ref t] ∧ IsLook K H x rs last c ∧ last ≤ 8 ∧ (∀ r ∈ rs, rowIn last r) ∧ SqT K H t (ns.map V.int) ∧
  ∀ (H' : Hp) (d : Addr) (S : Int → Int → Bool), Same H H' → H d = none → WishO H' d S 5000 → Q (.ref d) H'
theorem ok_wish_by (T : Txt P K mg) : Cal P w K mg base 5 "wish_by" (spWishBy K) [] := by
  have h_spots_changes := ok_spots_changes (P := P) (w := w) (base := base) T
  have h_picks_from := ok_picks_from (P := P) (w := w) (base := base) T
  have h_added_wish := ok_added_wish (P := P) (w := w) (base := base) T
  refine c_wish_by T (fun vs H Q E h => ?_) fun cdv A outer s H vs Q E hr h => ?_
  · obtain ⟨x, rs, last, c, t, ns, rfl, _⟩ := h
    rfl
  obtain ⟨x, rs, last, c, t, ns, rfl, hlk, hl8, hrs, ht, hQ⟩ := h
  refine ⟨_, (pss_cons (ps_set (i := 2) sc_wish_by.nd rfl (by first | exact Or.inl rfl | exact Or.inr rfl) pe_dnewT)
      (pss_cons (ps_for PassesOwn.never rfl (pi_list (pe_c h_spots_changes hr (by decide) (by rfl) (pa_cons (pv 0) pa_nil))) (pg_tup rfl (pgs_cons (pg_name (i := 3) sc_wish_by.nd rfl (by first | exact Or.inl rfl | exact Or.inr rfl)) (pgs_cons (pg_name (i := 4) sc_wish_by.nd rfl (by first | exact Or.inl rfl | exact Or.inr rfl)) pgs_nil)))
      (pss_one (ps_expr (pe_c h_added_wish hr (by decide) (by rfl) (pa_cons (pv 2) (pa_cons (pv 0) (pa_cons (pv 3) (pa_cons (pe_c h_picks_from hr (by decide) (by rfl) (pa_cons (pv 4) (pa_cons (pe_ifExp (pt_cmpR (r := rIn K false) op_in_seq (pv 3) (pv 1) rfl) (pe_un un_neg pe_int) pe_int) pa_nil))) pa_nil))))))))
      (pss_one (ps_ret (pv 2))))), ?_⟩
  obtain ⟨lp, ldx, lfs, lt, lts, rfl, hlp, fl1, fl2, fl3, hlt, hlr⟩ := id hlk
  refine fun D hD => ?_
  have sD := same_new (o := .dT []) hD
  refine ⟨_, rfl, .ref lp, rs, last, c, rfl, IsLook.mono sD hlk, hl8, hrs, ?_⟩
  rintro v H2 s2 ⟨a, xs, ys, rfl, ha0, ha, hxs, hnd, hsp, hout⟩
  have s02 := sD.trans s2
  have hD2 : H2 D = some (.dT []) := s2 _ _ upd_same
  generalize hg : sC (rcAll last rs) = g at hxs hout
  have hxl : xs.length = ys.length := Paired.length hxs
  have hyl : ys.length ≤ 60 := len_span (lo := -30) (n := 60) hnd fun x hx => ⟨(hsp x hx).1, by have := (hsp x hx).2; omega⟩
  have naD : a ≠ D := fun z => by rw [z, hD2] at ha; nomatch ha
  have nlpD : lp ≠ D := fun z => by rw [z, hD] at hlp; nomatch hlp
  refine ⟨a, rfl, ⟨xs, .inl (.inl ha)⟩, for_it walk_list (fun i σ H' => ∃ (e3 e4 : Option V) (S : Int → Int → Bool) (n : Nat), σ = [some (.ref lp), some (.ref t), some (.ref D), e3, e4] ∧ Ex [D] H2 H' ∧ WishO H' D S n ∧ n ≤ 5 * i)
    ⟨none, none, fun _ _ => false, 0, rfl, Ex.refl _ _, ⟨[], hD2, Nat.le_refl _, fun s t => rfl⟩, Nat.le_refl _⟩ (fun i σ H' _ ⟨_, _, _, _, _, e, _⟩ => .inl (.inl (e a _ (by simp [naD]) ha))) ?_ ?_⟩
  · rintro i x σ H3 H4 hi ⟨e3, e4, S, n, rfl, ex, ⟨kvs, hk1, hk2, hk3⟩, hn⟩ ⟨rfl, hx⟩
    obtain ⟨y, hy, tt, l, fs, rfl, h1, h2, h3⟩ := paired_at hxs hx
    have im := Im.exd hD2 ex
    have nlD : l ≠ D := fun z => by rw [z, hD2] at h2; nomatch h2
    have hl4 : H4 l = some (.lst fs) := ex l _ (by simp [nlD]) h2
    have hcl := csL_len (g := g) (c := c) (y := y) hl8
    refine ⟨tt, _, rfl, im.sqt h1, rfl, _, _, rfl, _, _, rfl, rfl, ?_⟩
    refine ⟨_, rfl, _, rfl, _, rfl, _, rfl, _, rfl, _, rfl, t, _, rfl, .inr (im.sqt (Same.sqt s02 ht)), rfl, flat_ints, _, rfl, ?_⟩
    have fin : ∀ sg : Int, (sg = 1 ∨ sg = -1) → spPicks K [.ref l, .int sg] H4 (fun v H5 => spAdded K [.ref D, .ref lp, .int y, v] H5 (fun _ H6 => ∃ (e3 e4 : Option V) (S : Int → Int → Bool) (n : Nat), ([some (.ref lp), some (.ref t), some (.ref D), some (.int y), some (.ref l)] : L2.St) = [some (.ref lp), some (.ref t), some (.ref D), e3, e4] ∧ Ex [D] H2 H6 ∧ WishO H6 D S n ∧ n ≤ 5 * (i + 1)) C8.E0) C8.E0 := by
      intro sg hsg
      refine ⟨last, l, fs, _, sg, rfl, hsg, by omega, by omega, .inl (.inl hl4), h3.im im, ?_⟩
      rintro v5 H5 s5 ⟨g5, is, rfl, hg5, hil, _⟩
      have hlp5 : IsLook K H5 (.ref lp) rs last c := ⟨lp, ldx, lfs, lt, lts, rfl, s5 _ _ (ex lp _ (by simp [nlpD]) (s02 _ _ hlp)), fl1, fl2, fl3, Same.sqt s5 (im.sqt (Same.sqt s02 hlt)), ((hlr.im (Im.of s02)).im im).im (Im.of s5)⟩
      refine ⟨D, .ref lp, rs, last, c, y, g5, is, S, n, rfl, hlp5, hg5, by omega, ⟨kvs, s5 _ _ hk1, hk2, hk3⟩, by omega, fun H6 e6 hw6 => ?_⟩
      exact ⟨_, _, _, _, rfl, (ex.trans (Ex.of s5)).trans e6, hw6, by omega⟩
    show (if inV (V.int y) (ns.map V.int) = true then _ else _)
    by_cases cy : inV (V.int y) (ns.map V.int) = true
    · rw [if_pos cy]
      exact ⟨_, rfl, fin (-1) (.inr rfl)⟩
    · rw [if_neg cy]
      exact fin 1 (.inl rfl)
  · rintro σ H3 ⟨e3, e4, S, n, rfl, ex, ⟨kvs, hk1, hk2, hk3⟩, hn⟩
    refine ⟨_, rfl, hQ _ D S (Ex.same s02 (fun b hb => by rw [List.mem_singleton.mp hb]; exact hD) ex) hD ⟨kvs, hk1, by omega, hk3⟩⟩
end
end K86
end
section
set_option Elab.async false
set_option linter.all false
set_option maxRecDepth 100000
namespace K86
open PySem PySem.Spec PyProof.Rows L2
open C8 (Cal Met Mak pe_c pe_mk pe_mt pe_mt0)
theorem mem_putL {β : Type} {L : List (Int × β)} {k : Int} {v : β} {p : Int × β} (h : p ∈ putL L k v) : p = (k, v) ∨ p ∈ L := by
  unfold putL at h
  split at h
  · obtain ⟨q, hq, e⟩ := List.mem_map.mp h
    by_cases c : q.1 = k
    · rw [if_pos c] at e
      exact .inl (by rw [← e, c])
    · rw [if_neg c] at e
      exact .inr (by rw [← e]; exact hq)
  · rcases List.mem_append.mp h with h | h
    · exact .inr h
    · exact .inl (List.mem_singleton.mp h)
structure FdOk (FD : List (Int × Int)) (f : Int → Int) (c : Int) (m : Nat) : Prop where
  nd : (keysL FD).Nodup
  at_ : ∀ y, at0 FD y = f y
  mem : ∀ p ∈ FD, -40 ≤ p.1 ∧ p.1 ≤ 40 ∧ p.1 % 2 = c ∧ 1 ≤ p.2 ∧ p.2 ≤ 256 * m
theorem FdOk.at_le {FD : List (Int × Int)} {f : Int → Int} {c : Int} {m : Nat} (o : FdOk FD f c m) (a : Int) : 0 ≤ f a ∧ f a ≤ 256 * m := by
  rw [← o.at_]
  unfold at0
  cases e : getL FD a with
  | none => exact ⟨Int.le_refl _, by show (0 : Int) ≤ _; omega⟩
  | some v =>
    have h := o.mem _ (getL_mem e)
    exact ⟨by show 0 ≤ v; have := h.2.2.2.1; simp only at this; omega, h.2.2.2.2⟩
theorem FdOk.put {FD : List (Int × Int)} {f : Int → Int} {c : Int} {m t : Nat} (o : FdOk FD f c m) {a : Int} (ha : -40 ≤ a ∧ a ≤ 40) (hc : a % 2 = c) (ht : t ≤ 8) : FdOk (putL FD a (at0 FD a + 2 ^ t)) (fun y => f y + if y = a then 2 ^ t else 0) c (m + 1) := by
  have h1 : (2 : Int) ^ t ≤ 2 ^ 8 := two_pow_le ht
  have h0 : (0 : Int) < 2 ^ t := two_pos t
  have h2 : (2 : Int) ^ 8 = 256 := by decide
  have ha2 := o.at_le a
  refine ⟨nd_put o.nd, fun y => ?_, fun p hp => ?_⟩
  · rw [at0_put, o.at_, o.at_]
    by_cases e : y = a
    · rw [if_pos e, if_pos e, e]
    · rw [if_neg e, if_neg e, Int.add_zero]
  · rcases mem_putL hp with rfl | hp
    · rw [o.at_]
      exact ⟨ha.1, ha.2, hc, by show 1 ≤ f a + 2 ^ t; omega, by show f a + 2 ^ t ≤ 256 * ((m + 1 : Nat) : Int); omega⟩
    · obtain ⟨b1, b2, b3, b4, b5⟩ := o.mem p hp
      exact ⟨b1, b2, b3, b4, by omega⟩
theorem FdOk.up {FD : List (Int × Int)} {f : Int → Int} {c : Int} {m m' : Nat} (o : FdOk FD f c m) (h : m ≤ m') : FdOk FD f c m' := ⟨o.nd, o.at_, fun p hp => let ⟨b1, b2, b3, b4, b5⟩ := o.mem p hp; ⟨b1, b2, b3, b4, by omega⟩⟩
theorem fd_span {FD : List (Int × Int)} {f : Int → Int} {c : Int} {m : Nat} (o : FdOk FD f c m) : ∀ y ∈ keysL FD, -((40 : Nat) : Int) ≤ y ∧ y ≤ (40 : Nat) := fun y hy => by
  obtain ⟨p, hp, rfl⟩ := List.mem_map.mp hy
  obtain ⟨b1, b2, _⟩ := o.mem p hp
  omega
theorem FdOk.len {FD : List (Int × Int)} {f : Int → Int} {c : Int} {m : Nat} (o : FdOk FD f c m) : FD.length ≤ 81 := by
  have := span_len o.nd (fd_span o)
  unfold keysL at this
  rw [List.length_map] at this
  exact this
theorem FdOk.hps {FD : List (Int × Int)} {f : Int → Int} {c : Int} {m : Nat} (o : FdOk FD f c m) : HpsOk 40 FD f := ⟨o.nd, o.at_, fun y => (o.at_le y).1, fd_span o⟩
theorem grant_now (f : Int → Int) (L : Int → Bool) (t : Nat) (a : Int) : runS (fun y => f y + if y = a then 2 ^ t else 0) L t = (fun y => (runS f L t).1 y + ways t (y - a), (runS f L t).2) := by
  have h := grant f L t a t (Nat.le_refl _)
  rw [h]
  congr 1
  funext y
  rw [Nat.sub_self, Int.pow_zero, Int.one_mul]
  rfl
theorem ways_nn (t : Nat) (y : Int) : 0 ≤ ways t y := P_nonneg t y
theorem ways_low {t : Nat} {z : Int} (h : z < -(t : Int)) : ways t z = 0 := by
  show P t z = 0
  rw [← P_sym]
  exact P_far t _ (by omega)
theorem partS_ways (t : Nat) (d : Int) : partS t d (t + 1) = ways t (d - t) := partS_all t d
theorem partS_step (t : Nat) (d : Int) (n : Nat) : partS t d (n + 1) = partS t d n + if d = 2 * (n : Int) then ways t (2 * (n : Int) - t) else 0 := partS_succ t d n
def haveH (f : Int → Int) (L : Int → Bool) (t : Nat) : Int → Int := (runS f L t).1
theorem rowP_len (t : Nat) : (rowP t).length = t + 1 := by
  unfold rowP
  rw [List.length_map, List.length_range]
section
variable {P : Program} {w : World} {K : PySem.W.Frag} {mg : Str → Option Value} {base : Heap}
def spHeapsFor (K : PySem.W.Frag) : Sp := fun vs H Q _ => ∃ (x v : V) (rs : List (Int × Int × Int)) (last : Nat) (c : Int) (ns : List Int) (d : Addr) (S : Int → Int → Bool) (L : Int → Bool), vs = [x, v, .ref d] ∧ IsLook K H x rs last c ∧ 2 ≤ last ∧ last ≤ 8 ∧ 1 ≤ rs.length ∧ rs.length ≤ 40 ∧ (∀ r ∈ rs, rowIn last r) ∧
  InT K H v ns ∧ LfsOk 40 ns L ∧ WishO H d S 5000 ∧ (c = 0 ∨ c = 1) ∧
  RetV H Q fun z H' => ∃ (ps : List (Int × Int)) (f : Int → Int), HpV K H' z ps ∧ HpsOk 40 ps f ∧ (∀ p ∈ ps, 1 ≤ p.2 ∧ p.2 ≤ 10 ^ 60 ∧ p.1 % 2 = c) ∧ ∀ lo hi : Int, (∀ r ∈ rs, lo ≤ r.1 ∧ r.1 ≤ hi) → (∃ r ∈ rs, r.1 = lo) → (∃ r ∈ rs, r.1 = hi) → ∀ j, j < last → metW f L S c lo hi last j
theorem ok_heaps_for (T : Txt P K mg) : Cal P w K mg base 10 "heaps_for" (spHeapsFor K) [] := by
  have h_ends_of := ok_ends_of (P := P) (w := w) (base := base) T
  have h_line_at := ok_line_at (P := P) (w := w) (base := base) T
  have h_later_row := ok_later_row (P := P) (w := w) (base := base) T
  have h_Line_advance := ok_Line_advance (P := P) (w := w) (base := base) T
  refine c_heaps_for T (fun vs H Q E h => ?_) fun cdv A outer s H vs Q E hr h => ?_
  · obtain ⟨x, v, rs, last, c, ns, d, S, L, rfl, _⟩ := h
    rfl
  obtain ⟨x, v, rs, last, c, ns, d, S, L, rfl, hlk, hl2, hl8, hr1, hr2, hrs, hv, hL, hw, hc, hQ⟩ := h
  refine ⟨_, (pss_cons (ps_asg (pe_tup (pa_cons (pe_c h_ends_of hr (by decide) (by rfl) (pa_cons (pv 0) pa_nil)) (pa_cons pe_dnewK pa_nil))) (pg_tup rfl (pgs_cons (pg_tup rfl (pgs_cons (pg_name (i := 3) sc_heaps_for.nd rfl (by first | exact Or.inl rfl | exact Or.inr rfl)) (pgs_cons (pg_name (i := 4) sc_heaps_for.nd rfl (by first | exact Or.inl rfl | exact Or.inr rfl)) pgs_nil))) (pgs_cons (pg_name (i := 5) sc_heaps_for.nd rfl (by first | exact Or.inl rfl | exact Or.inr rfl)) pgs_nil))))
      (pss_cons (ps_par (i := 6) (j := 7) rfl sc_heaps_for.nd rfl rfl (by decide) rfl rfl (pa_cons (pe_c h_line_at hr (by decide) (by rfl) (pa_cons pe_int (pa_cons (pe_tupX pa_nil) (pa_cons (pv 1) pa_nil)))) (pa_cons (pe_lst (pa_cons pe_int pa_nil)) pa_nil)) (by rfl))
      (pss_cons (ps_for PassesOwn.never rfl (pi_range1 rfl (z_range T) (pa_cons (pe_fld (pv 0) rfl) pa_nil)) (pg_name (i := 8) sc_heaps_for.nd rfl (by first | exact Or.inl rfl | exact Or.inr rfl))
      (pss_cons (ps_par (i := 9) (j := 10) rfl sc_heaps_for.nd rfl rfl (by decide) rfl rfl (pa_cons (pe_callTy (cr_dictB rfl) (by rfl) (z_dict T) (by decide +kernel) (pa_cons (pe_fld (pv 6) rfl) pa_nil)) (pa_cons (pe_op op_sub (pe_fld (pv 0) rfl) (pv 8)) pa_nil)) (by rfl))
      (pss_cons (ps_for PassesOwn.never rfl (pi_range2 rfl (z_range T) (pa_cons (pe_op op_sub (pv 3) (pv 10)) (pa_cons (pe_op op_add (pe_op op_add (pv 4) (pv 10)) pe_int) pa_nil))) (pg_name (i := 11) sc_heaps_for.nd rfl (by first | exact Or.inl rfl | exact Or.inr rfl))
      (pss_one (ps_if (PW.pt (pw_and (pt_cmpR op_eq (pe_op op_mod (pe_op op_add (pv 11) (pv 8)) pe_int) (pe_fld (pv 0) rfl) (nomark _)) (pw_and1 (pt_cmpR op_ne (pe_op op_mod (pe_dget2 (hu_of hr) (pv 9) (pv 11) pe_int ⟨rfl, rfl, rfl, rfl⟩) pe_int) (pe_callTy call_int1 (by rfl) (z_int T) (by decide +kernel) (pa_cons (pe_cmp (pc_din (hu_of hr) (pe_tup (pa_cons (pv 11) (pa_cons (pv 8) pa_nil))) (pv 2)) rfl) pa_nil)) (nomark _))))) (pss_cons (ps_dput (hu_of hr) (pv 5) (pe_op op_add (pv 11) (pv 8)) (pe_op op_add (pe_dget2 (hu_of hr) (pv 5) (pe_op op_add (pv 11) (pv 8)) pe_int ⟨rfl, rfl, rfl, rfl⟩) (pe_op op_shl pe_int (pv 8))) rfl)
      (pss_one (ps_for PassesOwn.never rfl (pi_enum (by rfl) (z_enumerate T) (pa_cons (pv 7) pa_nil)) (pg_tup rfl (pgs_cons (pg_name (i := 12) sc_heaps_for.nd rfl (by first | exact Or.inl rfl | exact Or.inr rfl)) (pgs_cons (pg_name (i := 13) sc_heaps_for.nd rfl (by first | exact Or.inl rfl | exact Or.inr rfl)) pgs_nil)))
      (pss_one (ps_dput (hu_of hr) (pv 9) (pe_op op_add (pv 11) (pe_op op_mul pe_int (pv 12))) (pe_op op_add (pe_dget2 (hu_of hr) (pv 9) (pe_op op_add (pv 11) (pe_op op_mul pe_int (pv 12))) pe_int ⟨rfl, rfl, rfl, rfl⟩) (pv 13)) rfl))))) pss_nil)))
      (pss_cons (ps_par (i := 6) (j := 7) rfl sc_heaps_for.nd rfl rfl (by decide) rfl rfl (pa_cons (pe_c h_line_at hr (by decide) (by rfl) (pa_cons (pv 8) (pa_cons (pe_callTy cr_tupX (by rfl) (z_tuple T) (by decide +kernel) (pa_cons (pe_sortIt rfl (by rfl) (z_sorted T) (pv 9)) pa_nil)) (pa_cons (pe_fld (pv 6) rfl) pa_nil)))) (pa_cons (pe_c h_later_row hr (by decide) (by rfl) (pa_cons (pv 7) pa_nil)) pa_nil)) (by rfl))
      (pss_one (ps_expr (pe_mt0 h_Line_advance hr (by decide) (pv 6))))))))
      (pss_one (ps_ret (pe_callTy cr_tupX (by rfl) (z_tuple T) (by decide +kernel) (pa_cons (pe_sortIt rfl (by rfl) (z_sorted T) (pv 5)) pa_nil))))))), ?_⟩
  obtain ⟨lp, ldx, lfs, lt, lts, rfl, hlp, fl1, fl2, fl3, hlt, hlr⟩ := id hlk
  obtain ⟨vt, rfl, hvt⟩ := id hv
  refine ⟨_, rfl, .ref lp, rs, last, c, rfl, hlk, hr1, hr2, fun lo hi pe H1 s1 hpe hends hlo hhi => ?_⟩
  have hlo6 : -6 ≤ lo ∧ lo ≤ 7 := by
    obtain ⟨r, h1, rfl⟩ := hlo
    have := hrs r h1
    exact ⟨this.1, this.2.1⟩
  have hhi6 : -6 ≤ hi ∧ hi ≤ 7 := by
    obtain ⟨r, h1, rfl⟩ := hhi
    have := hrs r h1
    exact ⟨this.1, this.2.1⟩
  have hlh : lo ≤ hi := by
    obtain ⟨r, h1, _⟩ := hlo
    have := hends r h1
    omega
  refine fun D hD => ⟨by show 2 ≤ sizeLine; decide, fun tp htp => ?_⟩
  have sD := same_new (o := .dK []) hD
  have sT := same_new (o := .tup [.ref pe, .ref D]) htp
  have s2 := s1.trans (sD.trans sT)
  have hD0 : H D = none := Same.back s1 hD
  have hD2 : upd (upd H1 D (.dK [])) tp (.tup [.ref pe, .ref D]) D = some (.dK (enc V.int [])) := sT _ _ upd_same
  refine ⟨tp, _, rfl, .inl (.inl upd_same), rfl, _, _, rfl, pe, _, rfl, .inl (.inl ((sD.trans sT) _ _ hpe)), rfl, _, _, rfl, _, _, rfl, rfl, _, _, rfl, rfl, ?_⟩
  generalize upd (upd H1 D (.dK [])) tp (.tup [.ref pe, .ref D]) = H2 at s2 hD2
  refine ⟨Nat.zero_le _, fun t0 ob hob ht0 => ?_⟩
  have sE := same_new (o := .frz ob (.tup [])) ht0
  refine ⟨_, rfl, 0, .ref t0, .ref vt, [], ns, rfl, ⟨t0, [], rfl, TupX.new hob, .nil⟩, ⟨vt, rfl, Same.sqt (s2.trans sE) hvt⟩, fun p H3 hp0 s3 hl3 => ?_⟩
  refine ⟨by show 1 ≤ sizeLine; decide, fun a ha => ⟨_, _, rfl, ?_⟩⟩
  have sA := same_new (o := .lst [.int 1]) ha
  have s23 := sE.trans (s3.trans sA)
  have s04 := s2.trans s23
  refine ⟨_, rfl, lp, _, ldx, lfs, _, rfl, s04 _ _ hlp, cl_Look T, no_Look_last T, fl2, last, rfl, by omega, by omega, ?_⟩
  rw [Int.toNat_natCast]
  refine for_it walk_range (fun t σ H' => ∃ (e8 e9 e10 e11 e12 e13 : Option V) (p a : Addr) (FD ps : List (Int × Int)) (ns' : List Int) (f : Int → Int), σ = [some (.ref lp), some (.ref vt), some (.ref d), some (.int lo), some (.int hi), some (.ref D), some (.ref p), some (.ref a), e8, e9, e10, e11, e12, e13] ∧ Same H H' ∧ H p = none ∧ H' D = some (.dK (enc V.int FD)) ∧ FdOk FD f c (60 * t) ∧
      IsLine K H' p t ps ns' ∧ HpsOk (40 + t) ps (runS f L t).1 ∧ LfsOk (40 + t) ns' (runS f L t).2 ∧ H' a = some (.lst ((rowP t).map V.int)) ∧ ∀ j, j < t → metW f L S c lo hi last j)
    ⟨none, none, none, none, none, none, p, a, [], [], ns, fun _ => 0, rfl, s04, Same.back (s2.trans sE) hp0, s23 _ _ hD2, ⟨List.nodup_nil, fun y => rfl, fun p h => (nomatch h)⟩, hl3.mono sA, ⟨List.nodup_nil, fun y => rfl, fun y => Int.le_refl _, fun y h => (nomatch h)⟩, hL, upd_same, fun j h => (nomatch h)⟩ (fun _ _ _ _ _ => True.intro) ?_ ?_
  · rintro t x σ H4 H5 ht ⟨e8, e9, e10, e11, e12, e13, p, a, FD, ps, ns', f, rfl, sm, hp0, hDD, hFD, hln, hps, hns, ha, hmet⟩ ⟨rfl, hxv⟩
    obtain rfl : x = .int t := by rw [hxv]; show V.int (0 + (t : Int)) = _; rw [Int.zero_add]
    obtain ⟨dx, u, u2, hp, ⟨tu, yu, rfl, htu, hyu⟩, hu2⟩ := id hln
    have hpl := hps.len
    refine ⟨_, rfl, p, _, dx, _, _, rfl, hp, cl_Line T, no_Line_heaps T, lf_h, tu, yu, ps, rfl, .inr htu, hyu, hps.nd, by omega, fun E hE => ?_⟩
    have sEE := same_new (o := .dK (enc V.int ps)) hE
    have hE0 : H E = none := Same.back sm hE
    refine ⟨_, rfl, lp, _, ldx, lfs, _, rfl, (sm.trans sEE) _ _ hlp, cl_Look T, no_Look_last T, fl2, _, rfl, _, _, rfl, rfl, _, _, rfl, ?_⟩
    refine ⟨_, rfl, _, rfl, _, _, rfl, rfl, _, rfl, _, rfl, _, _, rfl, rfl, _, _, rfl, rfl, _, _, rfl, ⟨by omega, by omega, by omega, by omega⟩, ?_⟩
    have hEH : upd H5 E (.dK (enc V.int ps)) E = some (.dK (enc V.int ps)) := upd_same
    have hDE : D ≠ E := ne_of_none hDD hE
    have hpE : p ≠ E := ne_of_none hp hE
    have hpD : p ≠ D := fun z => by rw [z, hDD] at hp; nomatch hp
    have haE : a ≠ E := ne_of_none ha hE
    have haD : a ≠ D := fun z => by rw [z, hDD] at ha; nomatch ha
    have smB := sm.trans sEE
    have hDB := sEE _ _ hDD
    have hpB := sEE _ _ hp
    have haB := sEE _ _ ha
    have hu2B := hu2.im (Im.of sEE)
    generalize upd H5 E (.dK (enc V.int ps)) = HB at hEH smB hDB hpB haB hu2B
    obtain ⟨kw, hw1, hw2, hw3⟩ := id hw
    have hdB := smB _ _ hw1
    have hdD : d ≠ D := fun z => by rw [z, hDB] at hdB; nomatch hdB
    have hdE : d ≠ E := fun z => by rw [z, hEH] at hdB; nomatch hdB
    have im0 : ∀ H', Ex [D, E] HB H' → Im HB H' := fun H' e =>
      ⟨fun b us q => e b _ (fun z => by
        rcases List.mem_cons.mp z with z | z
        · rw [z, hDB] at q; nomatch q
        · rw [List.mem_singleton.mp z, hEH] at q; nomatch q) q, fun b o us q => e b _ (fun z => by
        rcases List.mem_cons.mp z with z | z
        · rw [z, hDB] at q; nomatch q
        · rw [List.mem_singleton.mp z, hEH] at q; nomatch q) q⟩
    refine for_it walk_range (fun i σ H' => ∃ (e11 e12 e13 : Option V) (FD LH : List (Int × Int)) (f' : Int → Int) (m : Nat), σ = [some (.ref lp), some (.ref vt), some (.ref d), some (.int lo), some (.int hi), some (.ref D), some (.ref p), some (.ref a), some (.int t), some (.ref E), some (.int ((last : Int) - (t : Int))), e11, e12, e13] ∧ Ex [D, E] HB H' ∧ H' D = some (.dK (enc V.int FD)) ∧ FdOk FD f' c m ∧ m ≤ 60 * t + i ∧
      H' E = some (.dK (enc V.int LH)) ∧ HpsOk (40 + t) LH (runS f' L t).1 ∧ (runS f' L t).2 = (runS f L t).2 ∧ (∀ j, j < t → metW f' L S c lo hi last j) ∧ ∀ z : Int, lo - ((last : Int) - t) ≤ z → z < lo - ((last : Int) - t) + i → (z + t) % 2 = c → ((runS f' L t).1 z % 2 = 1 ↔ S z t = true))
      ⟨e11, e12, e13, FD, ps, f, 60 * t, rfl, Ex.refl _ _, hDB, hFD, by omega, hEH, hps, rfl, hmet, fun z h1 h2 => by omega⟩ (fun _ _ _ _ _ => True.intro) ?_ ?_
    · rintro i x σ H6 H7 hi7 ⟨e11, e12, e13, FD, LH, f', m, rfl, ex, hD7, hFD7, hm7, hE7, hLH, hL7, hmet7, hpar⟩ ⟨rfl, hxv⟩
      generalize hsv : lo - ((last : Int) - t) + (i : Int) = s at *
      obtain rfl : x = .int s := by rw [hxv]; exact congrArg V.int hsv
      have him := im0 _ ex
      have hlp7 : H7 lp = some (.ins (He.ga K "Look") ldx lfs) := ex lp _ (fun z => by
        rcases List.mem_cons.mp z with z | z
        · rw [z, hD0] at hlp; nomatch hlp
        · rw [List.mem_singleton.mp z, hE0] at hlp; nomatch hlp) (smB _ _ hlp)
      have hd7 : H7 d = some (.dT kw) := ex d _ (by simp [hdD, hdE]) hdB
      refine ⟨_, rfl, _, rfl, _, _, rfl, rfl, _, _, rfl, rfl, (by decide : (0 : Int) < 2), _, rfl, lp, _, ldx, lfs, _, rfl, hlp7, cl_Look T, no_Look_colour T, fl3, rfl, _, rfl, ?_⟩
      by_cases c1 : (s + (t : Int)) % 2 = c
      · rw [decide_eq_true (show V.int ((s + (t : Int)) % 2) = V.int c by rw [c1])]
        refine iteT ⟨_, rfl, E, rfl, .inl ⟨_, .inl hE7⟩, _, rfl, _, DGet.i hE7 s, ?_⟩
        rw [getD_int]
        refine ⟨_, _, rfl, rfl, (by decide : (0 : Int) < 2), _, rfl, _, rfl, by show 2 ≤ sizeLine; decide, fun b hb => ?_⟩
        have sb := same_new (o := .tup [.int s, .int t]) hb
        refine ⟨_, rfl, d, _, rfl, DGet.t (k := [Sum.inl s, Sum.inl (t : Int)]) (sb _ _ hd7) upd_same, .inr ⟨_, rfl, rfl, _, rfl, ?_⟩⟩
        rw [hw3, hLH.at_]
        have hD8 := sb _ _ hD7
        have hE8 := sb _ _ hE7
        have ex8 := ex.trans (Ex.of sb)
        generalize upd H7 b (.tup [.int s, .int t]) = H8 at hD8 hE8 ex8
        by_cases c2 : (runS f' L t).1 s % 2 = (if S s t = true then 1 else 0)
        · rw [show (!decide (V.int ((runS f' L t).1 s % 2) = V.int (if S s t = true then 1 else 0))) = false by rw [decide_eq_true (by rw [c2])]; rfl]
          refine iteF ⟨_, _, _, FD, LH, f', m, rfl, ex8, hD8, hFD7, by omega, hE8, hLH, hL7, hmet7, fun z h1 h2 h3 => ?_⟩
          by_cases cz : z = s
          · rw [cz, c2]
            cases S s t <;> decide
          · exact hpar z h1 (by omega) h3
        · rw [show (!decide (V.int ((runS f' L t).1 s % 2) = V.int (if S s t = true then 1 else 0))) = true by rw [decide_eq_false (fun w => c2 (V.int.inj w))]; rfl]
          have ha8 : H8 a = some (.lst ((rowP t).map V.int)) := ex8 a _ (by simp [haD, haE]) haB
          have hFl := hFD7.len
          refine iteT ⟨_, rfl, D, rfl, .inl ⟨_, .inl hD8⟩, _, rfl, _, rfl, _, _, rfl, rfl, _, DGet.i hD8 (s + t), ?_⟩
          rw [getD_int]
          refine ⟨_, rfl, _, _, rfl, rfl, ⟨by omega, by omega, by decide⟩, _, _, rfl, rfl, _, rfl, _, rfl, _, rfl, _, _, rfl, rfl, D, _, rfl, DPut.i hD8 (s + t) (at0 FD (s + t) + 2 ^ t) ?_ (by omega), ?_⟩
          · show V.int (at0 FD (s + t) + 1 * 2 ^ ((t : Int)).toNat) = _
            rw [Int.one_mul, Int.toNat_natCast]
          have hFD9 : FdOk (putL FD (s + t) (at0 FD (s + t) + 2 ^ t)) (fun y => f' y + if y = s + t then 2 ^ t else 0) c (m + 1) := hFD7.put ⟨by omega, by omega⟩ c1 (by omega)
          have hE9 : upd H8 D (.dK (enc V.int (putL FD (s + t) (at0 FD (s + t) + 2 ^ t)))) E = some (.dK (enc V.int LH)) := by rw [upd_ne hDE.symm]; exact hE8
          have hD9 : upd H8 D (.dK (enc V.int (putL FD (s + t) (at0 FD (s + t) + 2 ^ t)))) D = some (.dK (enc V.int (putL FD (s + t) (at0 FD (s + t) + 2 ^ t)))) := upd_same
          have ha9 : upd H8 D (.dK (enc V.int (putL FD (s + t) (at0 FD (s + t) + 2 ^ t)))) a = some (.lst ((rowP t).map V.int)) := by rw [upd_ne haD]; exact ha8
          have ex9 : Ex [D, E] HB (upd H8 D (.dK (enc V.int (putL FD (s + t) (at0 FD (s + t) + 2 ^ t))))) := ex8.trans (Ex.mut (by simp))
          generalize upd H8 D (.dK (enc V.int (putL FD (s + t) (at0 FD (s + t) + 2 ^ t)))) = H9 at hE9 hD9 ha9 ex9
          have haS : SqL K H9 a ((rowP t).map V.int) := .inl (.inl ha9)
          have hrl : ((rowP t).map V.int).length = t + 1 := by rw [List.length_map, rowP_len]
          refine ⟨_, rfl, a, _, rfl, haS, for_it walk_enum (fun k σ H' => ∃ (e12 e13 : Option V) (LH' : List (Int × Int)), σ = [some (.ref lp), some (.ref vt), some (.ref d), some (.int lo), some (.int hi), some (.ref D), some (.ref p), some (.ref a), some (.int t), some (.ref E), some (.int ((last : Int) - (t : Int))), some (.int s), e12, e13] ∧ Ex [E] H9 H' ∧
              H' E = some (.dK (enc V.int LH')) ∧ HpsOk (40 + t) LH' (fun y => (runS f' L t).1 y + partS t (y - s) k))
            ⟨e12, e13, LH, rfl, Ex.refl _ _, hE9, hLH.nd, fun y => by show at0 LH y = (runS f' L t).1 y + 0; rw [Int.add_zero]; exact hLH.at_ y, fun y => by show 0 ≤ (runS f' L t).1 y + 0; have := hLH.nn y; omega, hLH.span⟩ (fun k σ H' _ ⟨_, _, _, _, e, _⟩ => .inl (.inl (e a _ (by simp [haE]) ha9))) ?_ ?_⟩
          · rintro k x σ HA HC hk ⟨e12, e13, LH', rfl, exA, hEA, hLA⟩ ⟨U, x1, y1, rfl, hU, rfl, ex1, ey1⟩
            have hx1 : V.int (k : Nat) = x1 := Option.some.inj ex1
            subst hx1
            obtain ⟨mv, hmv, rfl⟩ := at_map ey1
            have hkt : k < t + 1 := by rw [hrl] at hk; exact hk
            have hmw : mv = ways t (2 * (k : Int) - t) := by
              unfold rowP at hmv
              rw [List.getElem?_map, List.getElem?_range hkt] at hmv
              exact (Option.some.inj hmv).symm
            have sU := same_new (o := .tup [.int (k : Nat), .int mv]) hU
            have hEU := sU _ _ hEA
            have hll := hLA.len
            refine ⟨U, _, rfl, .inl (.inl upd_same), rfl, _, _, rfl, _, _, rfl, rfl, ?_⟩
            refine ⟨_, rfl, E, rfl, .inl ⟨_, .inl hEU⟩, _, rfl, _, rfl, _, _, rfl, rfl, .inl ⟨by decide, by decide⟩, _, _, rfl, rfl, _, DGet.i hEU (s + 2 * (k : Nat)), ?_⟩
            rw [getD_int]
            refine ⟨_, rfl, _, _, rfl, rfl, _, rfl, _, rfl, _, rfl, _, _, rfl, rfl, .inl ⟨by decide, by decide⟩, _, _, rfl, rfl, E, _, rfl, DPut.i hEU (s + 2 * (k : Nat)) (at0 LH' (s + 2 * (k : Nat)) + mv) rfl (by omega), ?_⟩
            refine ⟨_, _, putL LH' (s + 2 * (k : Nat)) (at0 LH' (s + 2 * (k : Nat)) + mv), rfl, (exA.trans (Ex.of sU)).trans (Ex.mut (by simp)), upd_same, nd_put hLA.nd, fun y => ?_, fun y => ?_, fun y hy => ?_⟩
            · rw [at0_put, hLA.at_, hLA.at_, partS_step, hmw]
              by_cases cy : y = s + 2 * (k : Nat)
              · rw [if_pos cy, if_pos (by omega), cy]
                omega
              · rw [if_neg cy, if_neg (by omega), Int.add_zero]
            · have h0 : 0 ≤ (runS f' L t).1 y + partS t (y - s) k := hLA.nn y
              have h1 := ways_nn t (2 * (k : Int) - t)
              rw [partS_step]
              by_cases cy : y - s = 2 * (k : Int)
              · rw [if_pos cy]; omega
              · rw [if_neg cy]; omega
            · rcases mem_put.mp hy with rfl | hy
              · have h8 := hkt
                constructor <;> (show _ ≤ _; omega)
              · exact hLA.span y hy
          · rintro σ HA ⟨e12, e13, LH', rfl, exA, hEA, hLA⟩
            rw [hrl] at hLA
            have eg := grant_now f' L t (s + t)
            have hLA2 : HpsOk (40 + t) LH' (runS (fun y => f' y + if y = s + t then 2 ^ t else 0) L t).1 := by
              rw [eg]
              refine ⟨hLA.nd, fun y => ?_, fun y => ?_, hLA.span⟩
              · rw [hLA.at_, partS_ways]
                show _ + ways t (y - s - t) = _ + ways t (y - (s + t))
                rw [show y - s - (t : Int) = y - (s + t) by omega]
              · have h0 := hLH.nn y
                have h1 := ways_nn t (y - (s + t))
                show 0 ≤ (runS f' L t).1 y + ways t (y - (s + t))
                omega
            have exF : Ex [D, E] HB HA := ex9.trans fun b u n e => exA b u (fun z => n (by rw [List.mem_singleton.mp z]; simp)) e
            refine ⟨_, _, _, _, LH', fun y => f' y + if y = s + t then 2 ^ t else 0, m + 1, rfl, exF, exA D _ (by simp [hDE]) hD9, hFD9, by omega, hEA, hLA2, by rw [eg]; exact hL7, fun j hj => metW_grant (hmet7 j hj) hj, fun z h1 h2 h3 => ?_⟩
            rw [eg]
            show ((runS f' L t).1 z + ways t (z - (s + t))) % 2 = 1 ↔ _
            by_cases cz : z = s
            · rw [cz, show s - (s + (t : Int)) = -(t : Int) by omega, show ways t (-(t : Int)) = 1 from P_end t]
              cases hS : S s t with
              | true =>
                rw [hS, if_pos rfl] at c2
                exact ⟨fun _ => rfl, fun _ => by omega⟩
              | false =>
                rw [hS, if_neg (by decide)] at c2
                exact ⟨fun w => by omega, fun w => by nomatch w⟩
            · rw [ways_low (show z - (s + (t : Int)) < -(t : Int) by omega), Int.add_zero]
              exact hpar z h1 (by omega) h3
      · rw [decide_eq_false (show ¬ V.int ((s + (t : Int)) % 2) = V.int c from fun z => c1 (V.int.inj z))]
        refine iteF (iteF ⟨_, _, _, FD, LH, f', m, rfl, ex, hD7, hFD7, by omega, hE7, hLH, hL7, hmet7, fun z h1 h2 h3 => ?_⟩)
        by_cases cz : z = s
        · rw [cz] at h3
          exact absurd h3 c1
        · exact hpar z h1 (by omega) h3
    · rintro σ H6 ⟨e11, e12, e13, FD, LH, f', m, rfl, ex, hD7, hFD7, hm7, hE7, hLH, hL7, hmet7, hpar⟩
      have him := im0 _ ex
      have hll := hLH.len
      have hpp : H6 p = some (.ins (He.ga K "Line") dx (lineF (.int t) (.ref tu) u2)) := ex p _ (by simp [hpD, hpE]) hpB
      have ha6 : H6 a = some (.lst ((rowP t).map V.int)) := ex a _ (by simp [haD, haE]) haB
      have sm6 : Same H H6 := Ex.same smB (fun b hb => by
        rcases List.mem_cons.mp hb with hb | hb
        · rw [hb]; exact hD0
        · rw [List.mem_singleton.mp hb]; exact hE0) ex
      have hu26 := hu2B.im him
      refine ⟨_, rfl, _, rfl, E, LH, rfl, hE7, hLH.nd, by omega, fun ps6 ys6 q H7 pm7 s7 hq0 hq hpr7 => ?_⟩
      refine ⟨q, ys6, rfl, .inl ⟨.inl (.inl hq), fun tt ob hob htt => ?_⟩⟩
      have sTT := same_new (o := .frz ob (.tup ys6)) htt
      have s68 := s7.trans sTT
      refine ⟨_, rfl, p, _, dx, _, _, rfl, s68 _ _ hpp, cl_Line T, no_Line_lefts T, lf_l, ?_⟩
      refine ⟨t, .ref tt, u2, ps6, ns', rfl, ⟨tt, ys6, rfl, TupX.new hob, PrL.im (Im.of sTT) hpr7⟩, hu26.im (Im.of s68), fun p2 H9 hp20 s9 hl9 => ?_⟩
      have s69 := s68.trans s9
      refine ⟨_, rfl, a, rowP t, rfl, s69 _ _ ha6, by rw [rowP_len]; omega, fun a2 H10 ha20 s10 ha2 => ?_⟩
      rw [rowP_next t (by omega)] at ha2
      refine ⟨_, _, rfl, ?_⟩
      have hl10 := hl9.mono s10
      obtain ⟨dx2, w1, w2, hp2, hw1', hw2'⟩ := id hl10
      have smA := sm6.trans (s69.trans s10)
      have hp2H : H p2 = none := Same.back (sm6.trans s68) hp20
      have hL10 : LfsOk (40 + t) ns' (runS f' L t).2 := by rw [hL7]; exact hns
      refine ⟨_, rfl, p2, dx2, _, rfl, hp2, lf_ad, p2, t, ps6, ns', 40 + t, _, _, rfl, hl10, by omega, hLH.perm pm7, hL10, fun H11 ps11 ns11 ex11 hl11 hh11 hL11 => ?_⟩
      have nDp2 : D ≠ p2 := fun z => by
        have h := (s68) D _ hD7
        rw [z, hp20] at h
        nomatch h
      have nap2 : a2 ≠ p2 := fun z => by rw [z, hp2] at ha2; nomatch ha2
      refine ⟨_, _, _, _, _, _, p2, a2, FD, ps11, ns11, f', rfl, Ex.same smA (fun b hb => by rw [List.mem_singleton.mp hb]; exact hp2H) ex11, hp2H, ex11 D _ (by simp [nDp2]) ((s69.trans s10) _ _ hD7), hFD7.up (by omega), hl11, hh11, hL11.up (by omega), ex11 a2 _ (by simp [nap2]) ha2, fun j hj => ?_⟩
      by_cases cj : j < t
      · exact hmet7 j cj
      · have ej : j = t := by omega
        rw [ej]
        intro z h1 h2 h3
        exact hpar z h1 (by omega) h3
  · rintro σ H4 ⟨e8, e9, e10, e11, e12, e13, p, a, FD, ps, ns', f, rfl, sm, hp0, hDD, hFD, hln, hps, hns, ha, hmet⟩
    have hfl := hFD.len
    refine ⟨_, rfl, D, FD, rfl, hDD, hFD.nd, by omega, fun ps6 ys6 q H7 pm7 s7 hq0 hq hpr7 => ?_⟩
    refine ⟨q, ys6, rfl, .inl ⟨.inl (.inl hq), fun tt ob hob htt => ?_⟩⟩
    have sTT := same_new (o := .frz ob (.tup ys6)) htt
    refine hQ _ _ (sm.trans (s7.trans sTT)) ⟨ps6, f, ⟨tt, ys6, rfl, TupX.new hob, PrL.im (Im.of sTT) hpr7⟩, hFD.hps.perm pm7, fun pr hpr => ?_, fun lo' hi' hends' hlo' hhi' j hj => ?_⟩
    · obtain ⟨b1, b2, b3, b4, b5⟩ := hFD.mem pr (pm7.mem_iff.mp hpr)
      have big : (256 : Int) * ((60 * last : Nat) : Int) ≤ 10 ^ 60 := Int.le_trans (show (256 : Int) * ((60 * last : Nat) : Int) ≤ 1000000 by omega) (by decide)
      exact ⟨b4, Int.le_trans b5 big, b3⟩
    · have e1 : lo' = lo := by
        obtain ⟨r, hr1, e1⟩ := hlo'
        obtain ⟨r2, hr2, e2⟩ := hlo
        have := (hends' r2 hr2).1
        have := (hends r hr1).1
        omega
      have e2 : hi' = hi := by
        obtain ⟨r, hr1, e1⟩ := hhi'
        obtain ⟨r2, hr2, e2⟩ := hhi
        have := (hends' r2 hr2).2
        have := (hends r hr1).2
        omega
      rw [e1, e2]
      exact hmet j hj
end
end K86
end
section
set_option Elab.async false
set_option linter.all false
set_option maxRecDepth 100000
namespace K86
open PySem PySem.Spec PyProof.Rows L2
open C8 (Cal Met Mak pe_c pe_mk pe_mt pe_mt0)
/-! o.f as a target among others -/
def gFldW (K : PySem.W.Frag) (to : TE) (f : Str) : TG := fun v σ H Q => to σ H fun x H1 => ∃ a C dx fs, x = .ref a ∧ H1 a = some (.ins C dx fs) ∧ Cls K C ∧ NoAttr K C f ∧ fs.length < 1000 ∧ Q σ (upd H1 a (.ins C dx (putF f v fs)))
theorem pg_fldW {X : Cx} {o : Expr} {f : Str} {pos : Pos} {to : TE} (ho : PE X o to) : PG X (.Attribute o f pos) (gFldW X.K to f) := by
  refine ⟨fun pins s σ H v u Q I r h => ?_⟩
  rw [assign_Attribute]
  refine wpAny_bind (wpAny_holding (thn (ho.run pins s σ H _ I h) fun ov s1 ⟨x, H1, I1, r1, a, C, dx, fs, ex, ea, c, n, l, q⟩ => ?_))
  subst ex
  obtain rfl : ov = Value.ref a := r1
  refine wpAny_bind (wpAny_standAt (wpAny_bind (wpAny_holding (setattr_ok I1 ea c n l r fun s3 I3 => ?_))))
  exact wpAny_release ⟨σ, _, I3, q⟩
/-! the call of a bound method -/
theorem callWith_met {X : Cx} {A : Around} {E : Value → Shared → Prop} {s : Shared} {pos : Pos} {q g a : Addr} {env : Env} {e : Expr} {es : List Expr} {Q : Value → Shared → Prop} (hf : PySem.W.fnIn X.K g = true)
    (h : wpAny (model X.prog X.w) A (spliced (backTo pos (starEach (e :: es) env))) (fun vs s₁ => PySem.W.MethP X.K q g (.ref a) s₁.heap ∧ wpAny (model X.prog X.w) A (call (.ref q) ([] ++ vs)) Q E s₁) E s)
    (he : starEach (e :: es) env = (false, eval e env) :: starEach es env := by rfl) (hpl : (backTo pos (starEach es env)).any (·.1) = false := by rfl) :
    wpAny (model X.prog X.w) A (callWith pos (.ref q) [] (backTo pos (starEach (e :: es) env)) []) Q E s := by
  rw [he] at h ⊢
  exact PySem.W.callWith_of (P := PySem.W.MethP X.K q g (.ref a)) (by show ((false || (backTo pos (starEach es env)).any (·.1)) || false) = false; rw [hpl]; rfl) (PySem.W.keeps_M hf) (Calls.evalArgs_plain h)
theorem kit_int {K : PySem.W.Frag} {H : Hp} {i : Int} : ∃ t, TyX K H (.int i) t ∧ PySem.W.kitAny K t [.type "list", .type "tuple"] = some false :=
  ⟨_, .base (.int i), kitAny_cons (b := false) (kit_ty (by decide +kernel)) (fun _ => kitAny_cons (b := false) (kit_ty (by decide +kernel)) (fun _ => rfl) fun z => nomatch z) fun z => nomatch z⟩
section
variable {P : Program} {w : World} {K : PySem.W.Frag} {mg : Str → Option Value} {base : Heap}
def spF0 : Sp := fun vs H Q _ => ∃ i : Int, vs = [.int i] ∧ ∀ H', Same H H' → Q (.int i) H'
def spF1 (K : PySem.W.Frag) : Sp := fun vs H Q _ => ∃ (a : Addr) (b : Bool) (ns : List Int), vs = [.ref a] ∧ SqB K b H a (ns.map V.int) ∧ ns.length ≤ 1000 ∧ ∀ (p : Addr) (H' : Hp), Same H H' → H' p = some (.tup (ns.map V.int)) → Q (.ref p) H'
def spF2 (K : PySem.W.Frag) : Sp := fun vs H Q _ => ∃ (a : Addr) (b : Bool) (xs : List V) (ps : List (Int × Int)), vs = [.ref a] ∧ SqB K b H a xs ∧ PrL K H xs ps ∧ ps.length ≤ 1000 ∧ RetV H Q fun v H' => HpV K H' v ps
def spF12 (K : PySem.W.Frag) : Sp := fun vs H Q E => spF1 K vs H Q E ∨ spF2 K vs H Q E
def spF3 (K : PySem.W.Frag) : Sp := fun vs H Q _ => ∃ (t a1 a2 : Addr) (b1 b2 : Bool) (xs : List V) (ps : List (Int × Int)) (ns : List Int), vs = [.ref t] ∧ SqT K H t [.ref a1, .ref a2] ∧ SqB K b1 H a1 xs ∧ PrL K H xs ps ∧ SqB K b2 H a2 (ns.map V.int) ∧ ps.length ≤ 1000 ∧ ns.length ≤ 1000 ∧
  ∀ (p : Addr) (u v : V) (H' : Hp), Same H H' → H' p = some (.tup [u, v]) → HpV K H' u ps → InT K H' v ns → Q (.ref p) H'
theorem ok_fixedN (T : Txt P K mg) : Cal P w K mg base 1 "fixed" (fun _ _ _ _ => False) [] :=
  c_fixed T (fun _ _ _ _ h => h.elim) fun _ _ _ _ _ _ _ _ _ h => h.elim
theorem ok_fixed0 (T : Txt P K mg) : Cal P w K mg base 2 "fixed" spF0 [] := by
  have h_fixed := ok_fixedN (P := P) (w := w) (base := base) T
  refine c_fixed T (fun vs H Q E h => ?_) fun cdv A outer s H vs Q E hr h => ?_
  · obtain ⟨i, rfl, _⟩ := h
    rfl
  obtain ⟨i, rfl, hQ⟩ := h
  refine ⟨_, (pss_one (ps_ret (pe_ifExp (pt_val (pe_callB call_isiT (by rfl) (z_isinstance T) (by decide +kernel) (pa_cons (pv 0) (pa_cons (pe_tup (pa_cons (pe_bltn (v := .ty "list") (by rfl) (z_list T) (by decide +kernel) rfl) (pa_cons (pe_bltn (v := .ty "tuple") (by rfl) (z_tuple T) (by decide +kernel) rfl) pa_nil))) pa_nil)))) (pe_callTy call_tuple_of (by rfl) (z_tuple T) (by decide +kernel) (pa_cons (pe_lc (own := [("each", 1)]) (g := (gName 1)) (tt := tYes) rfl sc_fixed.nd (pi_or (pi_list (pv 0)) (pi_tup (pv 0))) (blkOk_by (own := [("each", 1)]) (N := n_fixed) (sc := defScope s_fixed) (by decide +kernel)) (fun _ _ _ _ _ => (pg_name (i := 1) sc_fixed.nd rfl (by first | exact Or.inl rfl | exact Or.inr rfl))) (fun _ _ _ _ _ => pts_nil) (fun _ _ _ _ _ => (pe_c h_fixed hr (by decide) (by rfl) (pa_cons (pv 1) pa_nil)))) pa_nil)) (pv 0)))), ?_⟩
  refine ⟨_, rfl, by show 2 ≤ sizeLine; decide, fun p hp => ?_⟩
  obtain ⟨t, ht, hk⟩ := kit_int (K := K) (H := upd H p (.tup [.ty "list", .ty "tuple"])) (i := i)
  refine ⟨_, p, _, t, _, false, rfl, upd_same, cls_lt, ht, hk, false, rfl, iteF ⟨_, rfl, hQ _ (same_new hp)⟩⟩
theorem fixed_ints {spx : Sp} (T : Txt P K mg) (h_fixed : Cal P w K mg base 2 "fixed" spx []) (h0 : ∀ (i : Int) (H : Hp) (Q : VK) (E : XK), (∀ H', Same H H' → Q (.int i) H') → spx [.int i] H Q E) (cdv : Value) (A : Around) (outer : List Env) (s : Shared) (H : Hp) (Q : VK) (E : XK)
    (hr : Room 2 (A.deeper (envOfC "fixed" (defScope s_fixed) s.heap.objs.size (He.ga K "fixed") cdv))) (vs : List V) (h : spF1 K vs H Q E) :
    ∃ t, PSs (cxOf CX0 P w K mg base n_fixed "fixed" (defScope s_fixed) (He.ga K "fixed") cdv A outer s H E).nox (defBody s_fixed) t ∧ t { nx := fun _ H' => Q .non H', rt := Q } (start n_fixed vs) H := by
  obtain ⟨a, b, ns, rfl, ha, hl, hQ⟩ := h
  refine ⟨_, (pss_one (ps_ret (pe_ifExp (pt_val (pe_callB call_isiT (by rfl) (z_isinstance T) (by decide +kernel) (pa_cons (pv 0) (pa_cons (pe_tup (pa_cons (pe_bltn (v := .ty "list") (by rfl) (z_list T) (by decide +kernel) rfl) (pa_cons (pe_bltn (v := .ty "tuple") (by rfl) (z_tuple T) (by decide +kernel) rfl) pa_nil))) pa_nil)))) (pe_callTy call_tuple_of (by rfl) (z_tuple T) (by decide +kernel) (pa_cons (pe_lc (own := [("each", 1)]) (g := (gName 1)) (tt := tYes) rfl sc_fixed.nd (pi_or (pi_list (pv 0)) (pi_tup (pv 0))) (blkOk_by (own := [("each", 1)]) (N := n_fixed) (sc := defScope s_fixed) (by decide +kernel)) (fun _ _ _ _ _ => (pg_name (i := 1) sc_fixed.nd rfl (by first | exact Or.inl rfl | exact Or.inr rfl))) (fun _ _ _ _ _ => pts_nil) (fun _ _ _ _ _ => (pe_c h_fixed hr (by decide) (by rfl) (pa_cons (pv 1) pa_nil)))) pa_nil)) (pv 0)))), ?_⟩
  refine ⟨_, rfl, by show 2 ≤ sizeLine; decide, fun p hp => ?_⟩
  have s1 := same_new (o := .tup [.ty "list", .ty "tuple"]) hp
  obtain ⟨t, ht, hk⟩ := kit_lt (ha.mono s1)
  refine ⟨_, p, _, t, _, true, rfl, upd_same, cls_lt, ht, hk, true, rfl, iteT ?_⟩
  refine sq_or rfl (ha.mono s1) fun J wk D hD => lc_map wk (fun i y _ => ∀ m, ns[i]? = some m → y = .int m) hD (fun _ _ _ _ _ z => z) (by rw [List.length_map]; omega) (fun H e => ha.mono (s1.trans e)) (fun i x H1 H2 N Q1 hi sm ⟨e, hx⟩ hq => ?_) fun H2 acc sm hacc hal hf => ?_
  · obtain ⟨m, hm, rfl⟩ := at_map hx
    subst e
    refine ⟨rfl, tyes ⟨_, rfl, h0 m _ _ _ fun H3 s3 => hq _ _ s3 fun m' hm' => ?_⟩⟩
    rw [hm] at hm'
    cases hm'
    rfl
  · have e : acc = ns.map V.int := acc_ints (by rw [hal, List.length_map]) fun i z hz m hm => hf i z hz m hm
    rw [e] at hacc
    refine ⟨D, _, rfl, .inl ⟨.inl (.inl hacc), fun q hq => ?_⟩⟩
    exact hQ q _ (s1.trans (Same.trans (fun b u z => sm b u z) (same_new hq))) upd_same
theorem ok_fixed1 (T : Txt P K mg) : Cal P w K mg base 3 "fixed" (spF1 K) [] := by
  have h_fixed := ok_fixed0 (P := P) (w := w) (base := base) T
  refine c_fixed T (fun vs H Q E h => ?_) fun cdv A outer s H vs Q E hr h => ?_
  · obtain ⟨a, b, ns, rfl, _⟩ := h
    rfl
  exact fixed_ints T h_fixed (fun i H Q E h => ⟨i, rfl, h⟩) cdv A outer s H Q E hr vs h
theorem ok_fixed12 (T : Txt P K mg) : Cal P w K mg base 4 "fixed" (spF12 K) [] := by
  have h_fixed := ok_fixed1 (P := P) (w := w) (base := base) T
  refine c_fixed T (fun vs H Q E h => ?_) fun cdv A outer s H vs Q E hr h => ?_
  · rcases h with ⟨a, b, ns, rfl, _⟩ | ⟨a, b, xs, ps, rfl, _⟩ <;> rfl
  rcases h with h | h
  · exact fixed_ints T (ok_fixed0 (P := P) (w := w) (base := base) T) (fun i H Q E h => ⟨i, rfl, h⟩) cdv A outer s H Q E (hr.mono (by decide)) vs h
  obtain ⟨a, b, xs, ps, rfl, ha, hps, hl, hQ⟩ := h
  have hxl : xs.length = ps.length := Paired.length hps
  refine ⟨_, (pss_one (ps_ret (pe_ifExp (pt_val (pe_callB call_isiT (by rfl) (z_isinstance T) (by decide +kernel) (pa_cons (pv 0) (pa_cons (pe_tup (pa_cons (pe_bltn (v := .ty "list") (by rfl) (z_list T) (by decide +kernel) rfl) (pa_cons (pe_bltn (v := .ty "tuple") (by rfl) (z_tuple T) (by decide +kernel) rfl) pa_nil))) pa_nil)))) (pe_callTy cr_tupX (by rfl) (z_tuple T) (by decide +kernel) (pa_cons (pe_lc (own := [("each", 1)]) (g := (gName 1)) (tt := tYes) rfl sc_fixed.nd (pi_or (pi_list (pv 0)) (pi_tup (pv 0))) (blkOk_by (own := [("each", 1)]) (N := n_fixed) (sc := defScope s_fixed) (by decide +kernel)) (fun _ _ _ _ _ => (pg_name (i := 1) sc_fixed.nd rfl (by first | exact Or.inl rfl | exact Or.inr rfl))) (fun _ _ _ _ _ => pts_nil) (fun _ _ _ _ _ => (pe_c h_fixed hr (by decide) (by rfl) (pa_cons (pv 1) pa_nil)))) pa_nil)) (pv 0)))), ?_⟩
  refine ⟨_, rfl, by show 2 ≤ sizeLine; decide, fun p hp => ?_⟩
  have s1 := same_new (o := .tup [.ty "list", .ty "tuple"]) hp
  obtain ⟨t, ht, hk⟩ := kit_lt (ha.mono s1)
  refine ⟨_, p, _, t, _, true, rfl, upd_same, cls_lt, ht, hk, true, rfl, iteT ?_⟩
  refine sq_or rfl (ha.mono s1) fun J wk D hD => lc_map wk (fun i y H => ∀ m, ps[i]? = some m → P2 K H y m.1 m.2) hD (fun _ _ _ _ e h m hm => (h m hm).im e) (by omega) (fun H e => ha.mono (s1.trans e)) (fun i x H1 H2 N Q1 hi sm ⟨e, hx⟩ hq => ?_) fun H2 acc sm hacc hal hf => ?_
  · obtain ⟨m, hm, xa, rfl, hP⟩ := paired_at hps hx
    subst e
    refine ⟨rfl, tyes ⟨_, rfl, xa, false, [m.1, m.2], rfl, Same.sqt (s1.trans sm) hP, by show 2 ≤ 1000; decide, fun q H3 s3 h3 => hq _ _ s3 fun m' hm' => ?_⟩⟩
    rw [hm] at hm'
    cases hm'
    exact ⟨q, rfl, .inl (.inl h3)⟩
  · have hpr : PrL K H2 acc ps := paired_of (by rw [hal, hxl]) fun i x m h1 h2 => hf i x h1 m h2
    refine ⟨D, acc, rfl, .inl ⟨.inl (.inl hacc), fun q ob hob hq => ?_⟩⟩
    exact hQ _ _ (s1.trans (Same.trans (fun b u z => sm b u z) (same_new hq))) ⟨q, acc, rfl, TupX.new hob, PrL.im (Im.of (same_new hq)) hpr⟩
theorem ok_fixed (T : Txt P K mg) : Cal P w K mg base 5 "fixed" (spF3 K) [] := by
  have h_fixed := ok_fixed12 (P := P) (w := w) (base := base) T
  refine c_fixed T (fun vs H Q E h => ?_) fun cdv A outer s H vs Q E hr h => ?_
  · obtain ⟨t, a1, a2, b1, b2, xs, ps, ns, rfl, _⟩ := h
    rfl
  obtain ⟨tt, a1, a2, b1, b2, xs, ps, ns, rfl, htt, ha1, hps, ha2, hl1, hl2, hQ⟩ := h
  refine ⟨_, (pss_one (ps_ret (pe_ifExp (pt_val (pe_callB call_isiT (by rfl) (z_isinstance T) (by decide +kernel) (pa_cons (pv 0) (pa_cons (pe_tup (pa_cons (pe_bltn (v := .ty "list") (by rfl) (z_list T) (by decide +kernel) rfl) (pa_cons (pe_bltn (v := .ty "tuple") (by rfl) (z_tuple T) (by decide +kernel) rfl) pa_nil))) pa_nil)))) (pe_callTy call_tuple_of (by rfl) (z_tuple T) (by decide +kernel) (pa_cons (pe_lc (own := [("each", 1)]) (g := (gName 1)) (tt := tYes) rfl sc_fixed.nd (pi_or (pi_list (pv 0)) (pi_tup (pv 0))) (blkOk_by (own := [("each", 1)]) (N := n_fixed) (sc := defScope s_fixed) (by decide +kernel)) (fun _ _ _ _ _ => (pg_name (i := 1) sc_fixed.nd rfl (by first | exact Or.inl rfl | exact Or.inr rfl))) (fun _ _ _ _ _ => pts_nil) (fun _ _ _ _ _ => (pe_c h_fixed hr (by decide) (by rfl) (pa_cons (pv 1) pa_nil)))) pa_nil)) (pv 0)))), ?_⟩
  refine ⟨_, rfl, by show 2 ≤ sizeLine; decide, fun p hp => ?_⟩
  have s1 := same_new (o := .tup [.ty "list", .ty "tuple"]) hp
  obtain ⟨t, ht, hk⟩ := kit_lt (b := false) (Same.sqt s1 htt)
  refine ⟨_, p, _, t, _, true, rfl, upd_same, cls_lt, ht, hk, true, rfl, iteT ?_⟩
  refine sq_or (b := false) rfl (Same.sqt s1 htt) fun J wk D hD => lc_map wk (fun i y H => if i = 0 then HpV K H y ps else InT K H y ns) hD (fun i _ _ _ e h => by
    by_cases c : i = 0
    · rw [if_pos c] at h ⊢; exact h.im e
    · rw [if_neg c] at h ⊢; exact h.im e) (by show 2 ≤ 100000; decide) (fun H e => Same.sqt (s1.trans e) htt) (fun i x H1 H2 N Q1 hi sm ⟨e, hx⟩ hq => ?_) fun H2 acc sm hacc hal hf => ?_
  · subst e
    have s2 := s1.trans sm
    have hi2 : i = 0 ∨ i = 1 := by
      have : i < 2 := hi
      omega
    rcases hi2 with rfl | rfl
    · cases hx
      exact ⟨rfl, tyes ⟨_, rfl, .inr ⟨a1, b1, xs, ps, rfl, ha1.mono s2, hps.im (Im.of s2), hl1, fun v H3 s3 h3 => hq _ _ s3 (by rw [if_pos rfl]; exact h3)⟩⟩⟩
    · cases hx
      exact ⟨rfl, tyes ⟨_, rfl, .inl ⟨a2, b2, ns, rfl, ha2.mono s2, hl2, fun q H3 s3 h3 => hq _ _ s3 (by rw [if_neg (by decide)]; exact ⟨q, rfl, .inl (.inl h3)⟩)⟩⟩⟩
  · match acc, hal, hacc, hf with
    | [u, v], _, hacc, hf =>
      have h1 := hf 0 u rfl
      have h2 := hf 1 v rfl
      rw [if_pos rfl] at h1
      rw [if_neg (by decide)] at h2
      refine ⟨D, _, rfl, .inl ⟨.inl (.inl hacc), fun q hq => ?_⟩⟩
      exact hQ q u v _ (s1.trans (Same.trans (fun b u z => sm b u z) (same_new hq))) upd_same (h1.im (Im.new hq)) (h2.im (Im.new hq))
/-! Paper.__init__(self, word, *parts) -/
theorem SqB.ins {K : PySem.W.Frag} {b : Bool} {H : Hp} {a x C dx : Addr} {fs : List (Str × V)} {xs : List V} {o : HO} (hx : H x = some (.ins C dx fs)) (h : SqB K b H a xs) : SqB K b (upd H x o) a xs := match b, h with
  | true, h => by
    rcases h with (h | ⟨u, h⟩) | h
    · exact .inl (.inl (by rw [upd_ne (ne_of h hx (by intro z; cases z))]; exact h))
    · exact .inl (.inr ⟨u, by rw [upd_ne (ne_of h hx (by intro z; cases z))]; exact h⟩)
    · exact .inr h
  | false, h => (Im.mut (by rw [hx]; trivial)).sqt h
def PDone (K : PySem.W.Frag) (H : Hp) (Q : VK) (x dx : Addr) (ps : List (Int × Int)) (ns : List Int) : Prop :=
  ∀ (H' : Hp) (fs : List (Str × V)) (q : Addr) (u v : V), (∀ z o, z ≠ x → H z = some o → H' z = some o) → H' x = some (.ins (He.ga K "Worst") dx fs) → fs.length ≤ 2 → Fld fs "parts" (.ref q) → H' q = some (.tup [u, v]) → HpV K H' u ps → InT K H' v ns → Q .non H'
def spP1 (K : PySem.W.Frag) : Sp := fun vs H Q _ => ∃ (x dx t a a2 : Addr) (wd : Str) (b b2 : Bool) (xs : List V) (ps : List (Int × Int)) (ns : List Int), vs = [.ref x, .str wd, .ref t] ∧ H x = some (.ins (He.ga K "Worst") dx []) ∧ H t = some (.tup [.ref a, .ref a2]) ∧
  SqB K b H a xs ∧ PrL K H xs ps ∧ SqB K b2 H a2 (ns.map V.int) ∧ ps.length ≤ 1000 ∧ ns.length ≤ 1000 ∧ PDone K H Q x dx ps ns
def spP0 (K : PySem.W.Frag) : Sp := fun vs H Q _ => ∃ (x dx a a2 : Addr) (wd : Str) (b b2 : Bool) (xs : List V) (ps : List (Int × Int)) (ns : List Int), vs = [.ref x, .str wd, .ref a, .ref a2] ∧ H x = some (.ins (He.ga K "Worst") dx []) ∧
  SqB K b H a xs ∧ PrL K H xs ps ∧ SqB K b2 H a2 (ns.map V.int) ∧ ps.length ≤ 1000 ∧ ns.length ≤ 1000 ∧ PDone K H Q x dx ps ns
theorem ok_PaperInit (T : Txt P K mg) : FnR P w K mg base CX0 6 (He.ma K (He.ga K "Paper") "__init__") (spP0 K) := by
  have h_fixed := ok_fixed (P := P) (w := w) (base := base) T
  obtain ⟨fd, F⟩ := def_Paper_init T
  obtain ⟨oc, od, dV, kV, doc, pm, an, cdv, ct, osl, rfl, lk, hcd, hD, _⟩ := F.ex
  obtain rfl : dV = Value.none := by
    rcases hD with ⟨_, e⟩ | ⟨e, _⟩
    · exact e
    · exact absurd rfl e
  refine FnR.imp (StX.fn_star (N := n_Paper_init) (ps := ["self", "word"]) (pv := "parts") (sp := spP1 K) lk hcd sc_Paper_init StX.cxUp_none (StX.bind_star2 (B := fun l => bindArgs (PySem.W.fnOf "__init__" "Paper.__init__" (defArgs s_Paper_init) (defBody s_Paper_init) (defScope s_Paper_init) .none kV doc pm an cdv ct) ⟨l, []⟩) (fun a b => rfl) (fun a b r rs => rfl)) fun A outer s H vs Q E hr hsp => ?_) fun vs H Q E h => ?_
  · obtain ⟨x, dx, t, a, a2, wd, b, b2, xs, ps, ns, rfl, hx, ht, ha, hps, ha2, hl1, hl2, hQ⟩ := hsp
    refine ⟨_, PSs.nox (by exact (pss_cons (ps_fld (pv 0) (pv 1) rfl)
      (pss_one (ps_fld (pv 0) (pe_c h_fixed hr (by decide) (by rfl) (pa_cons (pv 2) pa_nil)) rfl)))), ?_⟩
    refine ⟨_, rfl, _, rfl, x, _, dx, [], rfl, hx, cl_Worst T, no_Worst_word T, by decide, ?_⟩
    have im1 : Im H (upd H x (.ins (He.ga K "Worst") dx (putF "word" (.str wd) []))) := Im.mut (by rw [hx]; trivial)
    refine ⟨_, rfl, t, a, a2, b, b2, xs, ps, ns, rfl, .inl (.inl (im1.1 _ _ ht)), ha.ins hx, hps.im im1, ha2.ins hx, hl1, hl2, fun q u v H2 s2 hq hu hv => ?_⟩
    have hx2 := s2 _ _ (upd_same (H := H) (a := x) (o := .ins (He.ga K "Worst") dx (putF "word" (.str wd) [])))
    refine ⟨_, rfl, x, _, dx, _, rfl, hx2, cl_Worst T, no_Worst_parts T, Nat.lt_of_le_of_lt (len_put (Nat.zero_le 0)) (by decide), ?_⟩
    have im2 : Im H2 (upd H2 x (.ins (He.ga K "Worst") dx (putF "parts" (.ref q) (putF "word" (.str wd) [])))) := Im.mut (by rw [hx2]; trivial)
    exact hQ _ _ q u v (fun z o hz e => by rw [upd_ne hz]; exact s2 _ _ (by rw [upd_ne hz]; exact e)) upd_same (len_put (len_put (Nat.zero_le 0))) Fld.same (im2.1 _ _ hq) (hu.im im2) (hv.im im2)
  · obtain ⟨x, dx, a, a2, wd, b, b2, xs, ps, ns, rfl, hx, ha, hps, ha2, hl1, hl2, hQ⟩ := h
    refine ⟨[.ref x, .str wd], [.ref a, .ref a2], rfl, rfl, by show 2 ≤ sizeLine; decide, fun p hp => ?_⟩
    have sm : Same H (upd H p (.tup [.ref a, .ref a2])) := same_new hp
    exact ⟨x, dx, p, a, a2, wd, b, b2, xs, ps, ns, rfl, sm _ _ hx, upd_same, ha.mono sm, hps.im (Im.of sm), ha2.mono sm, hl1, hl2, fun H' fs q u v kp => hQ H' fs q u v fun z o hz e => kp z o hz (sm _ _ e)⟩
/-! Worst(heaps, lefts) -/
def spWInit (K : PySem.W.Frag) : Sp := fun vs H Q _ => ∃ (x dx a a2 : Addr) (b b2 : Bool) (xs : List V) (ps : List (Int × Int)) (ns : List Int), vs = [.ref x, .ref a, .ref a2] ∧ H x = some (.ins (He.ga K "Worst") dx []) ∧ SqB K b H a xs ∧ PrL K H xs ps ∧ SqB K b2 H a2 (ns.map V.int) ∧ ps.length ≤ 1000 ∧ ns.length ≤ 1000 ∧
  ∀ H' : Hp, (∀ z o, z ≠ x → H z = some o → H' z = some o) → IsWorst K H' (.ref x) ps ns → Q .non H'
def WMk (P : Program) (w : World) (K : PySem.W.Frag) (mg : Str → Option Value) (base : Heap) (k : Nat) : Prop := ∃ f : Addr, Mk K (He.ga K "Worst") f ∧ FnR P w K mg base CX0 k f (spWInit K)
theorem pe_wmk {X : Cx} {k j : Nat} {e : Expr} {es : List Expr} {t : TA} {p pos : Pos} (c : WMk X.prog X.w X.K X.mg X.base k) (hr : Room j X.A) (hk : k + 1 ≤ j) (hg : Gl X "Worst") (hm : X.mg "Worst" = some (.ref (He.ga X.K "Worst"))) (ha : PA X (e :: es) t)
    (he : starEach (e :: es) X.env = (false, eval e X.env) :: starEach es X.env := by rfl) (hpl : (backTo pos (starEach es X.env)).any (·.1) = false := by rfl) :
    PE X (.Call (.Name "Worst" p) (e :: es) [] pos) (StX.tMakeR (He.ga X.K "Worst") (spWInit X.K) C8.E0 t) := by
  obtain ⟨f, M, F⟩ := c
  exact StX.pe_makeR M F (hr.mono hk) hg hm C8.pass0 ha (by decide) he hpl
abbrev nW : List Str := ["self", "heaps", "lefts", "__class__"]
abbrev nfW (cc cda : Addr) : NdefX.NF := ⟨"__init__", "Worst.__init__", defArgs s_Worst_init, defBody s_Worst_init, defScope s_Worst_init, [("__class__", cc)], cda⟩
theorem nsc_Worst : NdefX.NScope nW p_Worst_init ["__class__"] (defScope s_Worst_init) := NdefX.nscope_by (by decide +kernel)
theorem vals3 {x y z : V} {us : List Value} (r : Vals [x, y, z] us) : ∃ u v w', us = [u, v, w'] ∧ RelV x u ∧ RelV y v ∧ RelV z w' := by
  cases r with
  | cons r1 r =>
    cases r with
    | cons r2 r =>
      cases r with
      | cons r3 r => cases r; exact ⟨_, _, _, rfl, r1, r2, r3⟩
theorem ok_Worst (T : Txt P K mg) : WMk P w K mg base 8 := by
  have hP := ok_PaperInit (P := P) (w := w) (base := base) T
  obtain ⟨oc, kV, doc, pm, ct, ccl, cl, od, an, cdd, cld, osl, ccs, csl, cc, cda, cvs, file, tf, cdW, lk, hcd, lcd, hcvs, hfile, lcc, hW⟩ := T.wor.ex
  refine ⟨_, mk_Worst T, fun A outer s H us vs Q E hr e0 r hsp => ?_⟩
  obtain ⟨x, dx, a, a2, b, b2, xs, ps, ns, rfl, hx, ha, hps, ha2, hl1, hl2, hQ⟩ := hsp
  obtain ⟨u0, u1, u2, rfl, r0, r1, r2⟩ := vals3 r
  obtain rfl : u0 = Value.ref x := r0
  obtain rfl : u1 = Value.ref a := r1
  obtain rfl : u2 = Value.ref a2 := r2
  have KB : K.In base := e0.mod.kin
  have KX : K.In s.heap := KB.keeps fun b o e => (e0.bs b o e).1
  have lim : s.heap.NoLimit := e0.mod.nolimit.keeps fun b o e => (e0.bs b o e).1
  generalize hf : He.ma K (He.ga K "Worst") "__init__" = f at lk
  have C : NdefX.CellsAt [("__class__", cc)] ["__class__"] [none] s.heap H := by
    have lc : ∀ y c, List.lookup y [(("__class__" : Str), cc)] = some c → y = "__class__" ∧ c = cc := fun y c e => by
      have := PySem.mem_of_lookup e
      rw [List.mem_singleton] at this
      cases this
      exact ⟨rfl, rfl⟩
    refine ⟨rfl, fun y c e => ?_, fun y z c e1 e2 => ?_, fun i y e => ?_⟩
    · obtain ⟨_, rfl⟩ := lc y c e
      exact ⟨(e0.bs _ _ (KB _ _ lcc)).2, _, _, KX _ _ lcc, rfl⟩
    · rw [(lc y c e1).1, (lc z c e2).1]
    · have hi : i = 0 := by
        have := (List.getElem?_eq_some_iff.mp e).1
        simpa using this
      subst hi
      cases e
      exact ⟨cc, rfl, fun v z => nomatch z⟩
  refine ks_codeAny_call_defAt (fd := PySem.W.fnX "__init__" "Worst.__init__" (defArgs s_Worst_init) (defBody s_Worst_init) (defScope s_Worst_init) [("__class__", cc)] .none kV doc pm an (.ref cda) ct) (body := defBody s_Worst_init) (binds := p_Worst_init.zip [.ref x, .ref a, .ref a2])
    hr.depth (KX _ _ lk) rfl lim (PySem.W.codeRec_of KX hcd) rfl (BindsTo.of_eq rfl) nsc_Worst.nocell (fun y hy => nsc_Worst.par y.1 (List.of_mem_zip hy).1) (fun h₁ hns kp => ?_) nsc_Worst.co nsc_Worst.gen nsc_Worst.kind
  have I : L2.Inv (NdefX.ncx CX0 P w K mg base nW (nfW cc cda) f A outer s H E) [] (NdefX.startF nW [.ref x, .ref a, .ref a2] [none]) H { s with heap := h₁, toks := s.toks + (p_Worst_init.zip [Value.ref x, Value.ref a, Value.ref a2]).length } :=
    NdefX.inv_startN nsc_Worst hr.hd e0 rfl r C hns kp
  have X1 : K.In h₁ := KX.keeps kp
  obtain ⟨oD, hD1, hD2⟩ : ∃ oD, h₁.get? (He.ga K "Worst") = some oD ∧ oD.data = .cls cdW := by
    have hW2 := hW
    unfold PySem.W.clsIn at hW2
    split at hW2
    · rename_i ho
      cases hW2
      exact ⟨_, X1 _ _ ho, rfl⟩
    · cases hW2
  obtain ⟨_, _, _, hx1, _⟩ := I.hok x _ hx
  have hxC : x ≠ He.ga K "Worst" := fun z => by
    have e := hx1
    rw [z] at e
    have e2 : h₁.get? (He.ga K "Worst") = some oD := hD1
    have e3 := e.symm.trans e2
    rw [← Option.some.inj e3] at hD2
    cases hD2
  obtain ⟨mb, gb1, gb2⟩ := e0.mod.blt
  refine ks_wpAt_execs_cons (ks_wpAt_Expr_any (ks_wpAt_MethodCall (ks_wpAt_super_base (f := f) (cc := cda) rfl rfl rfl rfl (X1 _ _ lk) rfl rfl rfl (X1 _ _ lcd) rfl hcvs hfile T.wor.sup ?_) rfl) rfl rfl)
  refine PySem.W.ks_loadName_global rfl rfl (Calls.loadGlobal_builtin (env := NdefX.envF (nfW cc cda) f s.heap.objs.size) (e0.mod.glob.keeps fun b o e => kp _ _ (e0.bs b o e).1) (z_super T) (gb1.keeps fun b o e => kp _ _ (e0.bs b o e).1) ((gb2 "super" (by decide)).trans (by rfl)) ⟨rfl, ?_⟩)
  refine wpAny_loadName_free rfl rfl rfl ⟨_, X1 _ _ lcc, rfl⟩ ?_
  refine wpAny_loadName_local (v := .ref x) rfl rfl hns rfl ?_
  refine ks_wpAny_isType_cls hD1 hD2 ⟨rfl, ?_⟩
  refine ks_wpAny_call_super hD1 hD2 hx1 rfl (fun c e => nomatch e) (PySem.W.looks_mroIn X1 T.wor.mro) (fun h2 hso k2 => ?_)
  have X2 : K.In h2 := X1.keeps k2
  have I2 := I.kept (h' := h2) (t' := s.toks + (p_Worst_init.zip [Value.ref x, Value.ref a, Value.ref a2]).length) k2
  have hup := T.wor.up
  unfold PySem.W.ks_superIn at hup
  rw [hW] at hup
  obtain ⟨of, hof, hofc⟩ : ∃ of, h2.get? (He.ma K (He.ga K "Paper") "__init__") = some of ∧ of.cls = .type "function" := by
    have ht' : (K.lookup (He.ma K (He.ga K "Paper") "__init__")).map (·.cls) = some (.type "function") := T.wor.ty
    cases z : K.lookup (He.ma K (He.ga K "Paper") "__init__") with
    | none => rw [z] at ht'; cases ht'
    | some of => rw [z] at ht'; exact ⟨of, X2 _ _ z, Option.some.inj ht'⟩
  refine ks_wpAny_getMethod_super hso (PySem.W.looks_opaque X2 T.wor.st) (l₀ := cdW.mro) (fun A Q E s k q => wpAny_bind ((PySem.W.looks_clsIn X2 hW) A _ E s k (wpAny_pure q))) rfl X2 hup hof hofc hxC (by decide) ?_
  have I3 : L2.Inv (NdefX.ncx CX0 P w K mg base nW (nfW cc cda) f A outer s H E) [] (NdefX.startF nW [.ref x, .ref a, .ref a2] [none]) (upd H h2.objs.size (.met (He.ma K (He.ga K "Paper") "__init__") x)) { s with heap := h2.push { cls := .type "method", data := .fields #[.ref (He.ma K (He.ga K "Paper") "__init__"), .ref x] }, toks := s.toks + (p_Worst_init.zip [Value.ref x, Value.ref a, Value.ref a2]).length + 1 } :=
    I2.laid (a := h2.objs.size) (o := .met (He.ma K (He.ga K "Paper") "__init__") x) (fun b u z => Heap.get?_push_of_some _ z) (Nat.le_refl _)
      (show (h2.push (PySem.W.methodObj (.ref (He.ma K (He.ga K "Paper") "__init__")) (.ref x))).get? h2.objs.size = some (PySem.W.methodObj (.ref (He.ma K (He.ga K "Paper") "__init__")) (.ref x)) from Heap.get?_push_size h2 rfl)
  have hq0 : H h2.objs.size = none := I2.hok.fresh (Nat.le_refl _)
  generalize h2.objs.size = q at I3 hq0 ⊢
  have im4 : ∀ z o, H z = some o → (upd H q (.met (He.ma K (He.ga K "Paper") "__init__") x)) z = some o := fun z o e => by rw [upd_ne (ne_of_none e hq0)]; exact e
  refine callWith_met (X := NdefX.ncx CX0 P w K mg base nW (nfW cc cda) f A outer s H E) (q := q) (g := He.ma K (He.ga K "Paper") "__init__") (a := x) T.wor.fi (thn ((pa_cons pe_str (pa_cons (pe_var (i := 1) rfl (.inl rfl)) (pa_cons (pe_var (i := 2) rfl (.inl rfl)) pa_nil))).run _ [] _ _ _
    (fun vs H4 => vs = [.str "worst", .ref a, .ref a2] ∧ H4 = upd H q (.met (He.ma K (He.ga K "Paper") "__init__") x)) I3 ⟨_, rfl, _, rfl, rfl, rfl⟩) fun us s4 ⟨vs, H4, I4, r4, e4, e5⟩ => ?_) rfl rfl
  subst e4 e5
  refine ⟨met_P I4 upd_same, thn (wpAny_call (PySem.W.method_call (met_P I4 upd_same).1 (run_fnR (E := C8.E0) (Q := fun _ H' => ∃ (fs : List (Str × V)) (qq : Addr) (u v : V), (∀ z o, z ≠ x → H z = some o → H' z = some o) ∧ H' x = some (.ins (He.ga K "Worst") dx fs) ∧ fs.length ≤ 2 ∧ Fld fs "parts" (.ref qq) ∧ H' qq = some (.tup [u, v]) ∧ HpV K H' u ps ∧ InT K H' v ns)
    (us := .ref x :: us) (vs := [.ref x, .str "worst", .ref a, .ref a2]) hP ((hr.deeper _).mono (by decide)) C8.pass0 I4 (.cons rfl r4) ?_))) fun v5 s5 ⟨v6, H5, I5, _, fs, qq, u, v, keep, hx5, hfl, hpa, hqq, hu, hv⟩ => ?_⟩
  · exact ⟨x, dx, a, a2, _, b, b2, xs, ps, ns, rfl, im4 _ _ hx, ha.mono im4, hps.im (Im.of im4), ha2.mono im4, hl1, hl2, fun H' fs qq u v kp e1 e2 e3 e4 e5 e6 => ⟨fs, qq, u, v, fun z o hz e => kp z o hz (im4 _ _ e), e1, e2, e3, e4, e5, e6⟩⟩
  show _root_.PySem.wpAt _ _ _ (execs _ _) _ _ _
  refine _root_.PySem.wpAt_of_wpAny (thn ((pss_one (ps_asg (pe_fld (pe_var (i := 0) rfl (.inl rfl)) rfl) (pg_tup rfl (pgs_cons (pg_fldW (pe_var (i := 0) rfl (.inl rfl))) (pgs_cons (pg_fldW (pe_var (i := 0) rfl (.inl rfl))) pgs_nil))))).run [] s5 _ H5 { nx := fun _ H' => Q .non H', rt := Q } I5
    ⟨_, rfl, x, _, dx, fs, _, rfl, hx5, cl_Worst T, no_Worst_parts T, hpa, qq, [u, v], rfl, .inl (.inl hqq), rfl, u, [v], rfl, _, rfl, x, _, dx, fs, rfl, hx5, cl_Worst T, no_Worst_heaps T, Nat.lt_of_le_of_lt hfl (by decide), v, [], rfl, _, rfl, x, _, dx, _, rfl, upd_same, cl_Worst T, no_Worst_lefts T, Nat.lt_of_le_of_lt (len_put hfl) (by decide), rfl, ?_⟩) fun fl s6 hs => ?_)
  · have i1 : Im H5 (upd H5 x (.ins (He.ga K "Worst") dx (putF "heaps" u fs))) := Im.mut (by rw [hx5]; trivial)
    have i2 := i1.trans (Im.mut (D := x) (o := .ins (He.ga K "Worst") dx (putF "lefts" v (putF "heaps" u fs))) (by rw [upd_same]; trivial))
    exact hQ _ (fun z o hz e => by rw [upd_ne hz, upd_ne hz]; exact keep z o hz e) ⟨x, dx, _, u, v, rfl, upd_same, Fld.put (by decide +kernel) Fld.same, Fld.same, hu.im i2, hv.im i2⟩
  · have fin : ∀ {σ' : L2.St} {H' : Hp} {v : V} {u : Value}, L2.Inv (NdefX.ncx CX0 P w K mg base nW (nfW cc cda) f A outer s H E) [] σ' H' s6 → RelV v u → Q v H' → CE outer P w H s Q u s6 :=
      fun {σ' H' v u} J rv q => ⟨v, H', J.os, J.bare, J.base, J.hok, rv, q⟩
    cases fl with
    | ret u =>
      obtain ⟨v, σ', H', J, rv, q⟩ := hs
      exact fin J rv q
    | next =>
      obtain ⟨σ', H', J, q⟩ := hs
      exact fin (v := V.non) (u := Value.none) J rfl q
    | brk =>
      obtain ⟨_, _, _, q⟩ := hs
      exact False.elim q
    | cont =>
      obtain ⟨_, _, _, q⟩ := hs
      exact False.elim q
theorem par_len {l : List Int} {c : Int} (hn : l.Nodup) (h : ∀ y ∈ l, -40 ≤ y ∧ y ≤ 40 ∧ y % 2 = c) : l.length ≤ 41 := by
  have hm : (l.map fun y => (y - c) / 2).Nodup := by
    unfold List.Nodup at hn ⊢
    rw [List.pairwise_map]
    refine hn.imp_of_mem fun {a b} ha hb hab e => ?_
    have h1 := h a ha
    have h2 := h b hb
    omega
  have := len_span (lo := -20) (n := 41) hm fun x hx => by
    obtain ⟨y, hy, rfl⟩ := List.mem_map.mp hx
    have := h y hy
    omega
  rw [List.length_map] at this
  exact this
theorem start_of {ps : List (Int × Int)} {f : Int → Int} {c : Int} {ns : List Int} {B : Nat} {L : Int → Bool} (o : HpsOk 40 ps f) (hp : ∀ p ∈ ps, 1 ≤ p.2 ∧ p.2 ≤ 10 ^ 60 ∧ p.1 % 2 = c) (l : LfsOk B ns L) (hB : B ≤ 100) : startOk ps c ns := by
  have h1 := par_len (c := c) o.nd fun y hy => by
    have a := o.span y hy
    obtain ⟨p, hpm, rfl⟩ := List.mem_map.mp hy
    exact ⟨by omega, by omega, (hp p hpm).2.2⟩
  unfold keysL at h1
  rw [List.length_map] at h1
  have h2 := span_len l.nd l.span
  refine ⟨⟨by omega, fun p hpm => ?_, o.nd⟩, fun p hpm => (hp p hpm).2.2, ⟨by omega, fun n hn => by have := l.span n hn; omega, l.nd⟩⟩
  have a := o.span p.1 (List.mem_map.mpr ⟨p, hpm, rfl⟩)
  exact ⟨by omega, by omega, (hp p hpm).1, (hp p hpm).2.1⟩
def spWorstStart (K : PySem.W.Frag) : Sp := fun vs H Q _ => ∃ (x : V) (rs : List (Int × Int × Int)) (last : Nat) (c : Int), vs = [x] ∧ IsLook K H x rs last c ∧ 2 ≤ last ∧ last ≤ 8 ∧ 1 ≤ rs.length ∧ rs.length ≤ 40 ∧ (∀ r ∈ rs, rowIn last r) ∧ (c = 0 ∨ c = 1) ∧
  ∀ (H' : Hp) (v : V) (ps : List (Int × Int)) (ns : List Int) (f : Int → Int), Same H H' → IsWorst K H' v ps ns → HpsOk 40 ps f → startOk ps c ns → LfsOk 40 ns (leftF (sC (rcAll last rs)) last c) →
    (∀ lo hi : Int, (∀ r ∈ rs, lo ≤ r.1 ∧ r.1 ≤ hi) → (∃ r ∈ rs, r.1 = lo) → (∃ r ∈ rs, r.1 = hi) → ∀ j, j < last → metW f (leftF (sC (rcAll last rs)) last c) (wishF (sC (rcAll last rs)) last c) c lo hi last j) → Q v H'
theorem ok_worst_start (T : Txt P K mg) : Cal P w K mg base 11 "worst_start" (spWorstStart K) [] := by
  have h_need_look := ok_need_look (P := P) (w := w) (base := base) T
  have h_need_near := ok_need_near (P := P) (w := w) (base := base) T
  have h_free_wish := ok_free_wish (P := P) (w := w) (base := base) T
  have h_heaps_for := ok_heaps_for (P := P) (w := w) (base := base) T
  have h_Worst := ok_Worst (P := P) (w := w) (base := base) T
  refine c_worst_start T (fun vs H Q E h => ?_) fun cdv A outer s H vs Q E hr h => ?_
  · obtain ⟨x, rs, last, c, rfl, _⟩ := h
    rfl
  obtain ⟨x, rs, last, c, rfl, hlk, hl2, hl8, hr1, hr2, hrs, hc, hQ⟩ := h
  refine ⟨_, (pss_cons (ps_expr (pe_c h_need_look hr (by decide) (by rfl) (pa_cons (pv 0) pa_nil)))
      (pss_cons (ps_expr (pe_c h_need_near hr (by decide) (by rfl) (pa_cons (pv 0) pa_nil)))
      (pss_cons (ps_asg (pe_c h_free_wish hr (by decide) (by rfl) (pa_cons (pv 0) pa_nil)) (pg_tup rfl (pgs_cons (pg_name (i := 1) sc_worst_start.nd rfl (by first | exact Or.inl rfl | exact Or.inr rfl)) (pgs_cons (pg_name (i := 2) sc_worst_start.nd rfl (by first | exact Or.inl rfl | exact Or.inr rfl)) pgs_nil))))
      (pss_one (ps_ret (pe_wmk h_Worst hr (by decide) (by rfl) (g_Worst T) (pa_cons (pe_c h_heaps_for hr (by decide) (by rfl) (pa_cons (pv 0) (pa_cons (pv 2) (pa_cons (pv 1) pa_nil)))) (pa_cons (pv 2) pa_nil)))))))), ?_⟩
  obtain ⟨lp, ldx, lfs, lt, lts, rfl, hlp, fl1, fl2, fl3, hlt, hlr⟩ := id hlk
  refine ⟨_, rfl, lp, ldx, lfs, _, rfl, hlp, ?_⟩
  refine ⟨_, rfl, .ref lp, rs, last, c, rfl, hlk, hl8, hr1, hr2, hrs, fun v1 H1 s1 _ => ?_⟩
  refine ⟨_, rfl, .ref lp, rs, last, c, rfl, IsLook.mono s1 hlk, hl2, hl8, hrs, fun H2 d t2 p ns s2 hd0 hp hw ht2 hns => ?_⟩
  have s02 := s1.trans s2
  refine ⟨p, _, rfl, .inl (.inl hp), rfl, _, _, rfl, _, _, rfl, rfl, ?_⟩
  refine ⟨_, rfl, _, rfl, _, rfl, .ref lp, .ref t2, rs, last, c, ns, d, _, _, rfl, IsLook.mono s02 hlk, hl2, hl8, hr1, hr2, hrs, ⟨t2, rfl, ht2⟩, hns.up (by decide), hw, hc, ?_⟩
  rintro z H3 s3 ⟨ps, f, ⟨t3, ys, rfl, ht3, hys⟩, hf, hps, hmet⟩
  have ht3 := ht3.sq (K := K)
  have s03 := s02.trans s3
  have hst := start_of hf hps hns (by decide)
  refine ⟨_, rfl, fun xx dx hxx hdx hne => ?_⟩
  have sD := same_new (o := .own xx) hdx
  have hxx' : upd H3 dx (.own xx) xx = none := by rw [upd_ne hne.symm]; exact hxx
  have sX := same_new (o := .ins (He.ga K "Worst") dx []) hxx'
  have sDX := sD.trans sX
  refine ⟨xx, dx, t3, t2, false, false, ys, ps, ns, rfl, upd_same, Same.sqt sDX ht3, hys.im (Im.of sDX), Same.sqt sDX (Same.sqt s3 ht2), by have := hst.1.1; omega, by have := hst.2.2.1; omega, fun H5 keep hw5 => ⟨rfl, ?_⟩⟩
  exact hQ H5 _ ps ns f (fun b o e => keep b o (ne_of_none (s03 _ _ e) hxx) (sDX b o (s03 _ _ e))) hw5 hf hst (hns.up (by decide)) hmet
def spWorstBy (K : PySem.W.Frag) : Sp := fun vs H Q _ => ∃ (x : V) (rs : List (Int × Int × Int)) (last : Nat) (c : Int) (a : Addr) (b : Bool) (ns : List Int) (L : Int → Bool), vs = [x, .ref a] ∧ IsLook K H x rs last c ∧ 2 ≤ last ∧ last ≤ 8 ∧ 1 ≤ rs.length ∧ rs.length ≤ 40 ∧ (∀ r ∈ rs, rowIn last r) ∧ (c = 0 ∨ c = 1) ∧
  SqB K b H a (ns.map V.int) ∧ LfsOk 40 ns L ∧ ∀ (H' : Hp) (v : V) (ps : List (Int × Int)) (ns' : List Int) (f : Int → Int), Same H H' → IsWorst K H' v ps ns' → HpsOk 40 ps f → (∀ p ∈ ps, 1 ≤ p.2 ∧ p.2 ≤ 10 ^ 60 ∧ p.1 % 2 = c) → Q v H'
theorem ok_worst_by (T : Txt P K mg) : Cal P w K mg base 11 "worst_by" (spWorstBy K) [] := by
  have h_need_look := ok_need_look (P := P) (w := w) (base := base) T
  have h_need_lefts := ok_need_lefts (P := P) (w := w) (base := base) T
  have h_need_near := ok_need_near (P := P) (w := w) (base := base) T
  have h_wish_by := ok_wish_by (P := P) (w := w) (base := base) T
  have h_heaps_for := ok_heaps_for (P := P) (w := w) (base := base) T
  have h_Worst := ok_Worst (P := P) (w := w) (base := base) T
  refine c_worst_by T (fun vs H Q E h => ?_) fun cdv A outer s H vs Q E hr h => ?_
  · obtain ⟨x, rs, last, c, a, b, ns, L, rfl, _⟩ := h
    rfl
  obtain ⟨x, rs, last, c, a, b, ns, L, rfl, hlk, hl2, hl8, hr1, hr2, hrs, hc, ha, hns, hQ⟩ := h
  refine ⟨_, (pss_cons (ps_expr (pe_c h_need_look hr (by decide) (by rfl) (pa_cons (pv 0) pa_nil)))
      (pss_cons (ps_set (i := 2) sc_worst_by.nd rfl (by first | exact Or.inl rfl | exact Or.inr rfl) (pe_c h_need_lefts hr (by decide) (by rfl) (pa_cons (pv 1) pa_nil)))
      (pss_cons (ps_expr (pe_c h_need_near hr (by decide) (by rfl) (pa_cons (pv 0) pa_nil)))
      (pss_one (ps_ret (pe_wmk h_Worst hr (by decide) (by rfl) (g_Worst T) (pa_cons (pe_c h_heaps_for hr (by decide) (by rfl) (pa_cons (pv 0) (pa_cons (pv 2) (pa_cons (pe_c h_wish_by hr (by decide) (by rfl) (pa_cons (pv 0) (pa_cons (pv 2) pa_nil))) pa_nil)))) (pa_cons (pv 2) pa_nil)))))))), ?_⟩
  obtain ⟨lp, ldx, lfs, lt, lts, rfl, hlp, fl1, fl2, fl3, hlt, hlr⟩ := id hlk
  have h2 := span_len hns.nd hns.span
  refine ⟨_, rfl, lp, ldx, lfs, _, rfl, hlp, ?_⟩
  refine ⟨_, rfl, a, _, b, ns, rfl, ha, ⟨by omega, fun n hn => by have := hns.span n hn; omega, hns.nd⟩, ?_⟩
  rintro v1 H1 s1 ⟨ns', pm, t2, rfl, ht2⟩
  refine ⟨_, rfl, .ref lp, rs, last, c, rfl, IsLook.mono s1 hlk, hl8, hr1, hr2, hrs, fun v2 H2 s2 _ => ?_⟩
  have s02 := s1.trans s2
  refine ⟨_, rfl, _, rfl, _, rfl, _, rfl, .ref lp, rs, last, c, t2, ns', rfl, IsLook.mono s02 hlk, hl8, hrs, Same.sqt s2 ht2, fun H3 d S s3 hd0 hw => ?_⟩
  have s03 := s02.trans s3
  have ht23 := Same.sqt (s2.trans s3) ht2
  refine ⟨.ref lp, .ref t2, rs, last, c, ns', d, _, _, rfl, IsLook.mono s03 hlk, hl2, hl8, hr1, hr2, hrs, ⟨t2, rfl, ht23⟩, hns.perm pm, hw, hc, ?_⟩
  rintro z H4 s4 ⟨ps, f, ⟨t3, ys, rfl, ht3, hys⟩, hf, hps, hmet⟩
  have ht3 := ht3.sq (K := K)
  have s04 := s03.trans s4
  have hst := start_of hf hps (hns.perm pm) (by decide)
  refine ⟨_, rfl, fun xx dx hxx hdx hne => ?_⟩
  have sD := same_new (o := .own xx) hdx
  have hxx' : upd H4 dx (.own xx) xx = none := by rw [upd_ne hne.symm]; exact hxx
  have sX := same_new (o := .ins (He.ga K "Worst") dx []) hxx'
  have sDX := sD.trans sX
  refine ⟨xx, dx, t3, t2, false, false, ys, ps, ns', rfl, upd_same, Same.sqt sDX ht3, hys.im (Im.of sDX), Same.sqt sDX (Same.sqt s4 ht23), by have := hst.1.1; omega, by have := hst.2.2.1; omega, fun H5 keep hw5 => ⟨rfl, ?_⟩⟩
  exact hQ H5 _ ps ns' f (fun b o e => keep b o (ne_of_none (s04 _ _ e) hxx) (sDX b o (s04 _ _ e))) hw5 hf hps
end
end K86
end
section
set_option Elab.async false
set_option linter.all false
set_option maxRecDepth 100000
namespace K86
open PySem PySem.Spec PyProof.Rows L2
open C8 (Cal Met Mak pe_c pe_mk pe_mt pe_mt0)
def cutI (ns : List Int) : List Int := (ns.drop (HT.sIx ns.length 0 none)).take (HT.sIx ns.length ns.length (some 63) - HT.sIx ns.length 0 none)
/-- the law's draws: the cells, the place, what is left over -/
def HorV (H : Hp) (h c : Addr) (n : Nat) : Prop := ∃ (cells : List Int) (at_ rest : Int), H h = some (.lst [.ref c, .int at_, .int rest]) ∧ H c = some (.lst (cells.map V.int)) ∧ c ≠ h ∧ cells.length ≤ 63 ∧ 0 ≤ at_ ∧ at_ ≤ n
section
variable {P : Program} {w : World} {K : PySem.W.Frag} {mg : Str → Option Value} {base : Heap}
def spHorizon (K : PySem.W.Frag) : Sp := fun vs H Q _ => ∃ (a : Addr) (ns : List Int), vs = [.ref a] ∧ SqL K H a (ns.map V.int) ∧ ns.length ≤ 63 ∧ ∀ (h c : Addr) (H' : Hp), Same H H' → H h = none → HorV H' h c 0 → Q (.ref h) H'
theorem ok_L_horizon (T : Txt P K mg) : Cal P w K mg base 1 "_law_horizon" (spHorizon K) [] := by
  refine c_L_horizon T (fun vs H Q E h => ?_) fun cdv A outer s H vs Q E hr h => ?_
  · obtain ⟨a, ns, rfl, _⟩ := h
    rfl
  obtain ⟨a, ns, rfl, ha, hl, hQ⟩ := h
  refine ⟨_, (pss_one (ps_ret (pe_lst (pa_cons (pe_lc (own := [("_law_cell", 1)]) (g := (gName 1)) (tt := tYes) rfl sc_L_horizon.nd (pi_list (pe_slice sl_list (pv 0) po_none (po_some pe_int))) (blkOk_by (own := [("_law_cell", 1)]) (N := n_L_horizon) (sc := defScope s_L_horizon) (by decide +kernel)) (fun _ _ _ _ _ => (pg_name (i := 1) sc_L_horizon.nd rfl (by first | exact Or.inl rfl | exact Or.inr rfl))) (fun _ _ _ _ _ => pts_nil) (fun _ _ _ _ _ => (pe_callTy call_int1 (by rfl) (z_int T) (by decide +kernel) (pa_cons (pv 1) pa_nil)))) (pa_cons pe_int (pa_cons pe_int pa_nil)))))), ?_⟩
  refine ⟨_, rfl, _, rfl, a, _, rfl, ha, fun c hc => ?_⟩
  have hcut : cutV (ns.map V.int) none (some 63) = (cutI ns).map V.int := by
    unfold cutV cutI
    rw [List.map_take, List.map_drop, List.length_map]
  rw [hcut]
  have s1 := same_new (o := .lst ((cutI ns).map V.int)) hc
  have hcl : (cutI ns).length ≤ 63 := by
    unfold cutI
    rw [List.length_take, List.length_drop]
    omega
  refine ⟨c, rfl, ⟨_, .inl (.inl upd_same)⟩, fun D hD => lc_map walk_list (fun i z _ => ∃ n, z = .int n) hD (fun _ _ _ _ _ h => h) (by rw [List.length_map]; omega) (fun H' e => e.seq (.inl (.inl upd_same))) ?_ ?_⟩
  · rintro i x H1 H2 N Q1 hi sm ⟨rfl, hx⟩ hq
    obtain ⟨n, hn, rfl⟩ := at_map hx
    exact ⟨rfl, tyes ⟨_, rfl, .inl ⟨n, rfl, hq _ _ (Same.refl _) ⟨n, rfl⟩⟩⟩⟩
  · rintro H1 acc sm hacc hal hf
    obtain ⟨ms, rfl⟩ : ∃ ms : List Int, acc = ms.map V.int := by
      have : ∀ l : List V, (∀ x ∈ l, ∃ n, x = V.int n) → ∃ ms : List Int, l = ms.map V.int := by
        intro l
        induction l with
        | nil => exact fun _ => ⟨[], rfl⟩
        | cons x l ih =>
          intro q
          obtain ⟨n, rfl⟩ := q x List.mem_cons_self
          obtain ⟨ms, e⟩ := ih fun y hy => q y (List.mem_cons_of_mem _ hy)
          exact ⟨n :: ms, by rw [e]; rfl⟩
      exact this acc fun x hx => let ⟨i, hi⟩ := List.getElem?_of_mem hx; hf i x hi
    refine ⟨by show 3 ≤ sizeLine; decide, fun h hh => ?_⟩
    have sh := same_new (o := .lst [.ref D, .int 0, .int 0]) hh
    have n1 : D ≠ h := ne_of_none hacc hh
    refine hQ h D _ (s1.trans (Same.trans (fun b u e => sm b u e) sh)) (Same.back s1 (Same.back (fun b u e => sm b u e) hh)) ⟨ms, 0, 0, upd_same, sh _ _ hacc, n1, ?_, by decide, by decide⟩
    rw [List.length_map, List.length_map] at hal
    omega
def spMile : Sp := fun vs H Q _ => ∃ (h c : Addr) (many n : Nat), vs = [.ref h, .int many] ∧ 1 ≤ many ∧ many ≤ 1000000 ∧ HorV H h c n ∧ n ≤ 100000 ∧ ∀ (r : Nat) (H' : Hp), r < many → Ex [h] H H' → HorV H' h c (n + 1) → Q (.int r) H'
theorem ok_L_mile (T : Txt P K mg) : Cal P w K mg base 1 "_law_mile" spMile [] := by
  refine c_L_mile T (fun vs H Q E h => ?_) fun cdv A outer s H vs Q E hr h => ?_
  · obtain ⟨h, c, many, n, rfl, _⟩ := h
    rfl
  obtain ⟨h, c, many, n, rfl, hm1, hm2, ⟨cells, at_, rest, hh, hc, nc, hcl, ha0, han⟩, hn, hQ⟩ := h
  refine ⟨_, (pss_cons (ps_if (pt_cmpR op_gt (pe_ix (r := rIxL K) ix_list (pv 0) pe_int (fun _ _ => rfl)) pe_int (nomark _)) (pss_cons (ps_set (i := 2) sc_L_mile.nd rfl (by first | exact Or.inl rfl | exact Or.inr rfl) (pe_callTy call_int1 (by rfl) (z_int T) (by decide +kernel) (pa_cons (pe_ix (r := rIxL K) ix_list (pv 0) pe_int (fun _ _ => rfl)) pa_nil)))
      (pss_cons (ps_asg (pe_op op_fdiv (pv 2) (pv 1)) (pg_sub (pv 0) pe_int set_list))
      (pss_one (ps_ret (pe_op op_mod (pe_callTy call_int1 (by rfl) (z_int T) (by decide +kernel) (pa_cons (pv 2) pa_nil)) (pv 1)))))) pss_nil)
      (pss_cons (ps_set (i := 3) sc_L_mile.nd rfl (by first | exact Or.inl rfl | exact Or.inr rfl) (pe_ix (r := rIxL K) ix_list (pv 0) pe_int (fun _ _ => rfl)))
      (pss_cons (ps_asg (pe_op op_add (pv 3) pe_int) (pg_sub (pv 0) pe_int set_list))
      (pss_cons (ps_set (i := 4) sc_L_mile.nd rfl (by first | exact Or.inl rfl | exact Or.inr rfl) (pe_op op_add (pe_op op_mul pe_int (pv 3)) pe_int))
      (pss_cons (ps_if (pt_cmpR (op_neD hr.units) (pe_ix (r := rIxL K) ix_list (pv 0) pe_int (fun _ _ => rfl)) (pe_lst pa_nil) (nomark _)) (pss_one (ps_set (i := 4) sc_L_mile.nd rfl (by first | exact Or.inl rfl | exact Or.inr rfl) (pe_ix (r := rIxL K) ix_list (pe_ix (r := rIxL K) ix_list (pv 0) pe_int (fun _ _ => rfl)) (pe_op op_mod (pe_callTy call_int1 (by rfl) (z_int T) (by decide +kernel) (pa_cons (pv 3) pa_nil)) (pe_callB call_len_seq (by rfl) (z_len T) (by decide +kernel) (pa_cons (pe_ix (r := rIxL K) ix_list (pv 0) pe_int (fun _ _ => rfl)) pa_nil))) (fun _ _ => rfl)))) pss_nil)
      (pss_cons (ps_if (PW.pt (pw_and (pt_cmpR op_lt (pv 3) (pe_callB call_len_seq (by rfl) (z_len T) (by decide +kernel) (pa_cons (pe_ix (r := rIxL K) ix_list (pv 0) pe_int (fun _ _ => rfl)) pa_nil)) (nomark _)) (pw_and1 (pt_cmpR op_ge (pe_callB call_abs (by rfl) (z_abs T) (by decide +kernel) (pa_cons (pv 4) pa_nil)) (pe_op op_pow pe_int pe_int) (nomark _))))) (pss_cons (ps_set (i := 2) sc_L_mile.nd rfl (by first | exact Or.inl rfl | exact Or.inr rfl) (pe_op op_add (pe_op op_mul pe_int (pe_op op_sub (pe_callB call_abs (by rfl) (z_abs T) (by decide +kernel) (pa_cons (pv 4) pa_nil)) (pe_op op_pow pe_int pe_int))) (pe_callTy call_int1 (by rfl) (z_int T) (by decide +kernel) (pa_cons (pe_cmpR op_lt (pv 4) pe_int (nomark _)) pa_nil))))
      (pss_cons (ps_asg (pe_op op_fdiv (pe_callTy call_int1 (by rfl) (z_int T) (by decide +kernel) (pa_cons (pv 2) pa_nil)) (pv 1)) (pg_sub (pv 0) pe_int set_list))
      (pss_one (ps_ret (pe_op op_mod (pe_callTy call_int1 (by rfl) (z_int T) (by decide +kernel) (pa_cons (pv 2) pa_nil)) (pv 1)))))) pss_nil)
      (pss_cons (ps_set (i := 5) sc_L_mile.nd rfl (by first | exact Or.inl rfl | exact Or.inr rfl) (pe_op op_mod (pe_callTy call_int1 (by rfl) (z_int T) (by decide +kernel) (pa_cons (pe_op op_pow (pe_op op_add (pe_op op_add (pe_op op_mod (pe_callTy call_int1 (by rfl) (z_int T) (by decide +kernel) (pa_cons (pv 4) pa_nil)) pe_int) (pe_op op_mul pe_int (pv 3))) pe_int) pe_int) pa_nil)) pe_int))
      (pss_cons (ps_set (i := 5) sc_L_mile.nd rfl (by first | exact Or.inl rfl | exact Or.inr rfl) (pe_op op_mod (pe_callTy call_int1 (by rfl) (z_int T) (by decide +kernel) (pa_cons (pe_op op_pow (pe_op op_add (pe_op op_add (pe_op op_mul (pv 5) (pe_op op_add (pe_op op_mul pe_int (pv 3)) pe_int)) (pe_op op_mul (pe_op op_mul pe_int (pv 3)) (pv 3))) pe_int) pe_int) pa_nil)) pe_int))
      (pss_one (ps_ret (pe_op op_mod (pe_callTy call_int1 (by rfl) (z_int T) (by decide +kernel) (pa_cons (pe_op op_fdiv (pv 5) pe_int) pa_nil)) (pv 1)))))))))))), ?_⟩
  have hhS : SqL K H h [.ref c, .int at_, .int rest] := .inl (.inl hh)
  have mod0 : ∀ z : Int, 0 ≤ z % (many : Int) ∧ z % (many : Int) < many := fun z => ⟨Int.emod_nonneg _ (by omega), Int.emod_lt_of_pos _ (by omega)⟩
  have back : ∀ (z : Int) (H' : Hp), Ex [h] H H' → HorV H' h c (n + 1) → Q (.int (z % (many : Int))) H' := fun z H' e hv => by
    have m := mod0 z
    have q := hQ (z % (many : Int)).toNat H' (by omega) e hv
    rw [show (((z % (many : Int)).toNat : Nat) : Int) = z % (many : Int) by omega] at q
    exact q
  refine ⟨_, rfl, h, _, 2, _, rfl, rfl, hhS, rfl, _, _, rfl, rfl, _, rfl, ?_⟩
  by_cases c0 : 0 < rest
  · rw [decide_eq_true c0]
    refine iteT ⟨_, rfl, h, _, 2, _, rfl, rfl, hhS, rfl, .inl ⟨_, rfl, ?_⟩⟩
    refine ⟨_, rfl, _, rfl, _, _, rfl, rfl, ⟨by omega, by omega⟩, _, rfl, h, _, 2, 2, rfl, rfl, hh, rfl, ?_⟩
    refine ⟨_, rfl, .inl ⟨_, rfl, _, rfl, _, _, rfl, rfl, (by omega : (0 : Int) < many), back rest _ (Ex.mut (by simp)) ?_⟩⟩
    exact ⟨cells, at_, rest / many, upd_same, by rw [upd_ne nc]; exact hc, nc, hcl, ha0, by omega⟩
  rw [decide_eq_false c0]
  refine iteF ⟨_, rfl, h, _, 1, _, rfl, rfl, hhS, rfl, ?_⟩
  refine ⟨_, rfl, _, _, rfl, rfl, _, rfl, h, _, 1, 1, rfl, rfl, hh, rfl, ?_⟩
  have hh1 : upd H h (.lst ([V.ref c, .int at_, .int rest].set 1 (.int (at_ + 1)))) h = some (.lst [.ref c, .int (at_ + 1), .int rest]) := upd_same
  have hc1 : upd H h (.lst ([V.ref c, .int at_, .int rest].set 1 (.int (at_ + 1)))) c = some (.lst (cells.map V.int)) := by rw [upd_ne nc]; exact hc
  have ex1 : Ex [h] H (upd H h (.lst ([V.ref c, .int at_, .int rest].set 1 (.int (at_ + 1))))) := Ex.mut (by simp)
  generalize upd H h (.lst ([V.ref c, .int at_, .int rest].set 1 (.int (at_ + 1)))) = H1 at hh1 hc1 ex1
  have hv1 : ∀ H', Same H1 H' → HorV H' h c (n + 1) := fun H' e => ⟨cells, at_ + 1, rest, e _ _ hh1, e _ _ hc1, nc, hcl, by omega, by omega⟩
  have hhS1 : SqL K H1 h [.ref c, .int (at_ + 1), .int rest] := .inl (.inl hh1)
  have hcS1 : SqL K H1 c (cells.map V.int) := .inl (.inl hc1)
  refine ⟨_, rfl, _, _, rfl, rfl, .inl ⟨by decide, by decide⟩, _, _, rfl, rfl, ?_⟩
  refine ⟨_, rfl, h, _, 0, _, rfl, rfl, hhS1, rfl, Nat.zero_le _, fun p0 hp0 => ?_⟩
  have s1 := same_new (o := .lst []) hp0
  refine ⟨_, _, dp_lst (s1.seq hcS1), dp_lst (ns := []) (.inl (.inl upd_same)), shaped_lst _, shaped_lst _, ?_⟩
  rw [eqv_lst]
  -- what follows, whatever the cell
  have hh2 := s1 _ _ hh1
  have hc2 := s1 _ _ hc1
  have hv2 := hv1 _ s1
  have ex2 := ex1.trans (Ex.of s1)
  generalize upd H1 p0 (.lst []) = H2 at hh2 hc2 hv2 ex2
  have hhS2 : SqL K H2 h [.ref c, .int (at_ + 1), .int rest] := .inl (.inl hh2)
  have hcS2 : SqL K H2 c (cells.map V.int) := .inl (.inl hc2)
  refine ⟨_, rfl, ?_⟩
  by_cases ce : cells = []
  · rw [decide_eq_true ce]
    refine iteF ?_
    refine ⟨_, rfl, _, rfl, h, _, 0, _, rfl, rfl, hhS2, rfl, c, _, rfl, .inl hcS2, _, _, rfl, rfl, _, rfl, ?_⟩
    have tail2 : Q (.int (((((((((71713 * at_ + 5581) % 2147483587 + 31663 * at_ + 5581) ^ (5 : Int).toNat) % 2147483549) * (2 * at_ + 2963) + 71713 * at_ * at_ + 31663) ^ (3 : Int).toNat) % 2147483629) / 64) % (many : Int))) H2 := back _ _ ex2 hv2
    have cp1 : CPow ((71713 * at_ + 5581) % 2147483587 + 31663 * at_ + 5581) 5 := by
      refine ⟨by decide, by decide, ?_⟩
      have := Int.emod_nonneg (71713 * at_ + 5581) (show (2147483587 : Int) ≠ 0 by decide)
      have := Int.emod_lt_of_pos (71713 * at_ + 5581) (show (0 : Int) < 2147483587 by decide)
      omega
    have m0 := Int.emod_nonneg (((71713 * at_ + 5581) % 2147483587 + 31663 * at_ + 5581) ^ (5 : Int).toNat) (show (2147483549 : Int) ≠ 0 by decide)
    have m1 := Int.emod_lt_of_pos (((71713 * at_ + 5581) % 2147483587 + 31663 * at_ + 5581) ^ (5 : Int).toNat) (show (0 : Int) < 2147483549 by decide)
    have cp2 : CPow ((((71713 * at_ + 5581) % 2147483587 + 31663 * at_ + 5581) ^ (5 : Int).toNat) % 2147483549 * (2 * at_ + 2963) + 71713 * at_ * at_ + 31663) 3 := by
      generalize (((71713 * at_ + 5581) % 2147483587 + 31663 * at_ + 5581) ^ (5 : Int).toNat) % 2147483549 = m at m0 m1
      refine ⟨by decide, by decide, ?_⟩
      have b1 : (m * (2 * at_ + 2963)).natAbs ≤ 2147483549 * 300000 := abs_mul (by omega) (by omega)
      have b2 : (71713 * at_ * at_).natAbs ≤ (71713 * 100000) * 100000 := abs_mul (by omega) (by omega)
      omega
    generalize decide (at_ < (_ : Int)) = b1
    cases b1 with
    | false =>
      refine iteF (iteF ?_)
      refine ⟨_, rfl, .inl ⟨_, rfl, _, _, rfl, rfl, (by decide : (0 : Int) < 2147483587), _, rfl, _, _, rfl, rfl, .inl ⟨by decide, by decide⟩, _, _, rfl, rfl, _, _, rfl, rfl, _, _, rfl, rfl, cp1, .inl ⟨_, rfl, _, _, rfl, rfl, (by decide : (0 : Int) < 2147483549), ?_⟩⟩⟩
      refine ⟨_, rfl, _, rfl, _, _, rfl, rfl, .inl ⟨by decide, by decide⟩, _, _, rfl, rfl, _, _, rfl, rfl, .inl ⟨by omega, by omega⟩, _, rfl, _, _, rfl, rfl, .inl ⟨by decide, by decide⟩, _, rfl, _, _, rfl, rfl, .inr ⟨by omega, by omega⟩, _, _, rfl, rfl, _, _, rfl, rfl, _, _, rfl, rfl, cp2, .inl ⟨_, rfl, _, _, rfl, rfl, (by decide : (0 : Int) < 2147483629), ?_⟩⟩
      exact ⟨_, rfl, _, _, rfl, rfl, ⟨by decide, by decide⟩, .inl ⟨_, rfl, _, rfl, _, _, rfl, rfl, (by omega : (0 : Int) < many), tail2⟩⟩
    | true =>
      refine iteT ⟨_, rfl, _, rfl, _, _, rfl, rfl, ⟨by decide, by decide, by decide⟩, _, _, rfl, rfl, _, rfl, ?_⟩
      generalize decide ((_ : Int) ≤ _) = b2
      cases b2 with
      | false =>
        refine iteF ?_
        refine ⟨_, rfl, .inl ⟨_, rfl, _, _, rfl, rfl, (by decide : (0 : Int) < 2147483587), _, rfl, _, _, rfl, rfl, .inl ⟨by decide, by decide⟩, _, _, rfl, rfl, _, _, rfl, rfl, _, _, rfl, rfl, cp1, .inl ⟨_, rfl, _, _, rfl, rfl, (by decide : (0 : Int) < 2147483549), ?_⟩⟩⟩
        refine ⟨_, rfl, _, rfl, _, _, rfl, rfl, .inl ⟨by decide, by decide⟩, _, _, rfl, rfl, _, _, rfl, rfl, .inl ⟨by omega, by omega⟩, _, rfl, _, _, rfl, rfl, .inl ⟨by decide, by decide⟩, _, rfl, _, _, rfl, rfl, .inr ⟨by omega, by omega⟩, _, _, rfl, rfl, _, _, rfl, rfl, _, _, rfl, rfl, cp2, .inl ⟨_, rfl, _, _, rfl, rfl, (by decide : (0 : Int) < 2147483629), ?_⟩⟩
        exact ⟨_, rfl, _, _, rfl, rfl, ⟨by decide, by decide⟩, .inl ⟨_, rfl, _, rfl, _, _, rfl, rfl, (by omega : (0 : Int) < many), tail2⟩⟩
      | true =>
        refine iteT ⟨_, rfl, _, rfl, _, _, rfl, rfl, ⟨by decide, by decide, by decide⟩, _, _, rfl, rfl, _, _, rfl, rfl, .inl ⟨by decide, by decide⟩, _, rfl, _, _, rfl, rfl, .inr ⟨_, rfl, _, _, rfl, rfl, ?_⟩⟩
        refine ⟨_, rfl, .inl ⟨_, rfl, _, rfl, _, _, rfl, rfl, ⟨by omega, by omega⟩, _, rfl, h, _, 2, 2, rfl, rfl, hh2, rfl, ?_⟩⟩
        refine ⟨_, rfl, .inl ⟨_, rfl, _, rfl, _, _, rfl, rfl, (by omega : (0 : Int) < many), back _ _ (ex2.trans (Ex.mut (by simp))) ?_⟩⟩
        exact ⟨cells, at_ + 1, _, upd_same, by rw [upd_ne nc]; exact hc2, nc, hcl, by omega, by omega⟩
  · rw [decide_eq_false ce]
    have hl0 : 0 < cells.length := List.length_pos_iff.mpr ce
    have e1 := Int.emod_nonneg at_ (show (cells.length : Int) ≠ 0 by omega)
    have e2 := Int.emod_lt_of_pos at_ (show (0 : Int) < cells.length by omega)
    obtain ⟨k, hk⟩ : ∃ k : Nat, at_ % (cells.length : Int) = k := ⟨(at_ % (cells.length : Int)).toNat, by omega⟩
    obtain ⟨z, hz⟩ : ∃ z, cells[k]? = some z := ⟨cells[k]'(by omega), List.getElem?_eq_getElem (by omega)⟩
    refine iteT ⟨_, rfl, h, _, 0, _, rfl, rfl, hhS2, rfl, _, rfl, .inl ⟨_, rfl, _, rfl, h, _, 0, _, rfl, rfl, hhS2, rfl, c, _, rfl, .inl hcS2, _, _, rfl, rfl, ?_, c, _, (k : Int), .int z, rfl, ?_, hcS2, ?_, ?_⟩⟩
    · rw [List.length_map]; omega
    · show V.int (at_ % ((cells.map V.int).length : Int)) = _
      rw [List.length_map, hk]
    · exact atI_nat (by rw [List.getElem?_map, hz]; rfl)
    refine ⟨_, rfl, _, rfl, h, _, 0, _, rfl, rfl, hhS2, rfl, c, _, rfl, .inl hcS2, _, _, rfl, rfl, _, rfl, ?_⟩
    have tail2 : Q (.int ((((((((z % 2147483587 + 31663 * at_ + 5581) ^ (5 : Int).toNat) % 2147483549) * (2 * at_ + 2963) + 71713 * at_ * at_ + 31663) ^ (3 : Int).toNat) % 2147483629) / 64) % (many : Int))) H2 := back _ _ ex2 hv2
    have cp1 : CPow (z % 2147483587 + 31663 * at_ + 5581) 5 := by
      refine ⟨by decide, by decide, ?_⟩
      have := Int.emod_nonneg z (show (2147483587 : Int) ≠ 0 by decide)
      have := Int.emod_lt_of_pos z (show (0 : Int) < 2147483587 by decide)
      omega
    have m0 := Int.emod_nonneg ((z % 2147483587 + 31663 * at_ + 5581) ^ (5 : Int).toNat) (show (2147483549 : Int) ≠ 0 by decide)
    have m1 := Int.emod_lt_of_pos ((z % 2147483587 + 31663 * at_ + 5581) ^ (5 : Int).toNat) (show (0 : Int) < 2147483549 by decide)
    have cp2 : CPow (((z % 2147483587 + 31663 * at_ + 5581) ^ (5 : Int).toNat) % 2147483549 * (2 * at_ + 2963) + 71713 * at_ * at_ + 31663) 3 := by
      generalize ((z % 2147483587 + 31663 * at_ + 5581) ^ (5 : Int).toNat) % 2147483549 = m at m0 m1
      refine ⟨by decide, by decide, ?_⟩
      have b1 : (m * (2 * at_ + 2963)).natAbs ≤ 2147483549 * 300000 := abs_mul (by omega) (by omega)
      have b2 : (71713 * at_ * at_).natAbs ≤ (71713 * 100000) * 100000 := abs_mul (by omega) (by omega)
      omega
    generalize decide (at_ < (_ : Int)) = b1
    cases b1 with
    | false =>
      refine iteF (iteF ?_)
      refine ⟨_, rfl, .inl ⟨_, rfl, _, _, rfl, rfl, (by decide : (0 : Int) < 2147483587), _, rfl, _, _, rfl, rfl, .inl ⟨by decide, by decide⟩, _, _, rfl, rfl, _, _, rfl, rfl, _, _, rfl, rfl, cp1, .inl ⟨_, rfl, _, _, rfl, rfl, (by decide : (0 : Int) < 2147483549), ?_⟩⟩⟩
      refine ⟨_, rfl, _, rfl, _, _, rfl, rfl, .inl ⟨by decide, by decide⟩, _, _, rfl, rfl, _, _, rfl, rfl, .inl ⟨by omega, by omega⟩, _, rfl, _, _, rfl, rfl, .inl ⟨by decide, by decide⟩, _, rfl, _, _, rfl, rfl, .inr ⟨by omega, by omega⟩, _, _, rfl, rfl, _, _, rfl, rfl, _, _, rfl, rfl, cp2, .inl ⟨_, rfl, _, _, rfl, rfl, (by decide : (0 : Int) < 2147483629), ?_⟩⟩
      exact ⟨_, rfl, _, _, rfl, rfl, ⟨by decide, by decide⟩, .inl ⟨_, rfl, _, rfl, _, _, rfl, rfl, (by omega : (0 : Int) < many), tail2⟩⟩
    | true =>
      refine iteT ⟨_, rfl, _, rfl, _, _, rfl, rfl, ⟨by decide, by decide, by decide⟩, _, _, rfl, rfl, _, rfl, ?_⟩
      generalize decide ((_ : Int) ≤ _) = b2
      cases b2 with
      | false =>
        refine iteF ?_
        refine ⟨_, rfl, .inl ⟨_, rfl, _, _, rfl, rfl, (by decide : (0 : Int) < 2147483587), _, rfl, _, _, rfl, rfl, .inl ⟨by decide, by decide⟩, _, _, rfl, rfl, _, _, rfl, rfl, _, _, rfl, rfl, cp1, .inl ⟨_, rfl, _, _, rfl, rfl, (by decide : (0 : Int) < 2147483549), ?_⟩⟩⟩
        refine ⟨_, rfl, _, rfl, _, _, rfl, rfl, .inl ⟨by decide, by decide⟩, _, _, rfl, rfl, _, _, rfl, rfl, .inl ⟨by omega, by omega⟩, _, rfl, _, _, rfl, rfl, .inl ⟨by decide, by decide⟩, _, rfl, _, _, rfl, rfl, .inr ⟨by omega, by omega⟩, _, _, rfl, rfl, _, _, rfl, rfl, _, _, rfl, rfl, cp2, .inl ⟨_, rfl, _, _, rfl, rfl, (by decide : (0 : Int) < 2147483629), ?_⟩⟩
        exact ⟨_, rfl, _, _, rfl, rfl, ⟨by decide, by decide⟩, .inl ⟨_, rfl, _, rfl, _, _, rfl, rfl, (by omega : (0 : Int) < many), tail2⟩⟩
      | true =>
        refine iteT ⟨_, rfl, _, rfl, _, _, rfl, rfl, ⟨by decide, by decide, by decide⟩, _, _, rfl, rfl, _, _, rfl, rfl, .inl ⟨by decide, by decide⟩, _, rfl, _, _, rfl, rfl, .inr ⟨_, rfl, _, _, rfl, rfl, ?_⟩⟩
        refine ⟨_, rfl, .inl ⟨_, rfl, _, rfl, _, _, rfl, rfl, ⟨by omega, by omega⟩, _, rfl, h, _, 2, 2, rfl, rfl, hh2, rfl, ?_⟩⟩
        refine ⟨_, rfl, .inl ⟨_, rfl, _, rfl, _, _, rfl, rfl, (by omega : (0 : Int) < many), back _ _ (ex2.trans (Ex.mut (by simp))) ?_⟩⟩
        exact ⟨cells, at_ + 1, _, upd_same, by rw [upd_ne nc]; exact hc2, nc, hcl, by omega, by omega⟩
def spOne : Sp := fun vs H Q _ => ∃ (h c a : Addr) (xs : List V) (n : Nat), vs = [.ref h, .ref a] ∧ H a = some (.lst xs) ∧ a ≠ h ∧ 1 ≤ xs.length ∧ xs.length ≤ 1000 ∧ HorV H h c n ∧ n ≤ 100000 ∧ ∀ (i : Nat) (v : V) (H' : Hp), xs[i]? = some v → Ex [h] H H' → HorV H' h c (n + 1) → Q v H'
theorem ok_L_one (T : Txt P K mg) : Cal P w K mg base 2 "_law_one" spOne [] := by
  have h_L_mile := ok_L_mile (P := P) (w := w) (base := base) T
  refine c_L_one T (fun vs H Q E h => ?_) fun cdv A outer s H vs Q E hr h => ?_
  · obtain ⟨h, c, a, xs, n, rfl, _⟩ := h
    rfl
  obtain ⟨h, c, a, xs, n, rfl, ha, nah, hl1, hl2, hv, hn, hQ⟩ := h
  refine ⟨_, (pss_one (ps_ret (pe_ix (r := rIxL K) ix_list (pv 1) (pe_c h_L_mile hr (by decide) (by rfl) (pa_cons (pv 0) (pa_cons (pe_callB call_len_seq (by rfl) (z_len T) (by decide +kernel) (pa_cons (pv 1) pa_nil)) pa_nil))) (fun _ _ => rfl)))), ?_⟩
  refine ⟨_, rfl, _, rfl, _, rfl, a, xs, rfl, .inl (.inl (.inl ha)), h, c, xs.length, n, rfl, hl1, by omega, hv, hn, fun r H1 hr1 ex1 hv1 => ?_⟩
  refine ⟨a, xs, r, xs[r], rfl, rfl, .inl (.inl (ex1 a _ (by simp [nah]) ha)), atI_nat (List.getElem?_eq_getElem hr1), ?_⟩
  exact hQ r _ H1 (List.getElem?_eq_getElem hr1) ex1 hv1
/-- the law's own table of ways -/
def PathsV (n : Nat) (v : V) (H : Hp) : Prop := ∃ (a : Addr) (rs : List Addr), v = .ref a ∧ H a = some (.lst (rs.map V.ref)) ∧ rs.length = n + 1 ∧ ∀ (i : Nat) r, rs[i]? = some r → H r = some (.lst ((rowP i).map V.int))
theorem PathsV.mono {n : Nat} {v : V} {H H' : Hp} (e : Same H H') (h : PathsV n v H) : PathsV n v H' := by
  obtain ⟨a, rs, rfl, h1, h2, h3⟩ := h
  exact ⟨a, rs, rfl, e _ _ h1, h2, fun i r hr => e _ _ (h3 i r hr)⟩
theorem rowP_mid : ∀ s : Nat, s < 9 → [1] ++ ((List.range s).map fun k => (rowP s).getD k 0 + (rowP s).getD (k + 1) 0) ++ [1] = rowP (s + 1) := by decide +kernel
def spPaths : Sp := fun vs H Q _ => ∃ n : Nat, vs = [.int n] ∧ n ≤ 8 ∧ RetV H Q (PathsV n)
theorem ok_L_paths (T : Txt P K mg) : Cal P w K mg base 1 "_law_paths" spPaths [] := by
  refine c_L_paths T (fun vs H Q E h => ?_) fun cdv A outer s H vs Q E hr h => ?_
  · obtain ⟨n, rfl, _⟩ := h
    rfl
  obtain ⟨n, rfl, hn, hQ⟩ := h
  refine ⟨_, (pss_cons (ps_set (i := 1) sc_L_paths.nd rfl (by first | exact Or.inl rfl | exact Or.inr rfl) (pe_lst (pa_cons (pe_lst (pa_cons pe_int pa_nil)) pa_nil)))
      (pss_cons (ps_for PassesOwn.never rfl (pi_range1 rfl (z_range T) (pa_cons (pv 0) pa_nil)) (pg_name (i := 2) sc_L_paths.nd rfl (by first | exact Or.inl rfl | exact Or.inr rfl))
      (pss_cons (ps_set (i := 3) sc_L_paths.nd rfl (by first | exact Or.inl rfl | exact Or.inr rfl) (pe_ix (r := rIxL K) ix_list (pv 1) (pe_un un_neg pe_int) (fun _ _ => rfl)))
      (pss_one (ps_expr (pe_bm PySem.F.plainAttrs_list PySem.F.slot_list_append PySem.F.type_list_append mt_append (pv 1) (pa_cons (pe_op op_cat (pe_op op_cat (pe_lst (pa_cons pe_int pa_nil)) (pe_lc (own := [("_law_at", 4)]) (g := (gName 4)) (tt := tYes) rfl sc_L_paths.nd (pi_range1 rfl (z_range T) (pa_cons (pv 2) pa_nil)) (blkOk_by (own := [("_law_at", 4)]) (N := n_L_paths) (sc := defScope s_L_paths) (by decide +kernel)) (fun _ _ _ _ _ => (pg_name (i := 4) sc_L_paths.nd rfl (by first | exact Or.inl rfl | exact Or.inr rfl))) (fun _ _ _ _ _ => pts_nil) (fun _ _ _ _ _ => (pe_op op_add (pe_ix (r := rIxL K) ix_list (pv 3) (pv 4) (fun _ _ => rfl)) (pe_ix (r := rIxL K) ix_list (pv 3) (pe_op op_add (pv 4) pe_int) (fun _ _ => rfl)))))) (pe_lst (pa_cons pe_int pa_nil))) pa_nil))))))
      (pss_one (ps_ret (pv 1))))), ?_⟩
  refine ⟨by show 1 ≤ sizeLine; decide, fun r0 hr0 => ⟨by show 1 ≤ sizeLine; decide, fun F hF => ?_⟩⟩
  have sA := same_new (o := .lst [.int 1]) hr0
  have sB := same_new (o := .lst [.ref r0]) hF
  have hF0 : H F = none := Same.back sA hF
  refine ⟨_, rfl, n, rfl, by omega, by omega, ?_⟩
  rw [Int.toNat_natCast]
  refine for_it walk_range (fun i σ H' => ∃ (e2 e3 e4 : Option V) (rs : List Addr) (b : Addr), σ = [some (.int n), some (.ref F), e2, e3, e4] ∧ Same H H' ∧ H' F = some (.lst ((rs ++ [b]).map V.ref)) ∧ rs.length = i ∧ ∀ (j : Nat) d, (rs ++ [b])[j]? = some d → H' d = some (.lst ((rowP j).map V.int)) ∧ d ≠ F)
    ⟨none, none, none, [], r0, rfl, sA.trans sB, upd_same, rfl, ?_⟩ (fun _ _ _ _ _ => True.intro) ?_ ?_
  · intro j d e
    cases j with
    | succ j => simp at e
    | zero =>
      cases e
      have h1 := sB _ _ (show upd H r0 (.lst [.int 1]) r0 = some (.lst [.int 1]) from upd_same)
      refine ⟨h1, fun z => ?_⟩
      rw [z] at h1
      rw [upd_same] at h1
      nomatch h1
  · rintro i x σ H1 H2 hi ⟨e2, e3, e4, rs, b, rfl, sm, hF1, hl, hd⟩ ⟨rfl, hxv⟩
    obtain rfl : x = .int i := by rw [hxv]; show V.int (0 + (i : Int)) = _; rw [Int.zero_add]
    have hb := hd i b (by rw [List.getElem?_append_right (by omega), hl, Nat.sub_self]; rfl)
    have em1 : atI ((rs ++ [b]).map V.ref) (-1) = some (.ref b) := by
      rw [List.map_append]
      exact atI_last _ _
    refine ⟨_, rfl, _, rfl, F, _, _, _, rfl, rfl, .inl (.inl hF1), em1, ?_⟩
    refine ⟨_, rfl, .inl ⟨rfl, _, .inl (.inl hF1)⟩, by show 1 ≤ sizeLine; decide, fun a1 ha1 => ?_⟩
    have z1 := same_new (o := .lst [.int 1]) ha1
    have hb1 := z1 _ _ hb.1
    have ha11 : upd H2 a1 (.lst [.int 1]) a1 = some (.lst [.int 1]) := upd_same
    generalize upd H2 a1 (.lst [.int 1]) = H3 at z1 hb1 ha11
    have hbS : SqL K H3 b ((rowP i).map V.int) := .inl (.inl hb1)
    have hrl := rowP_len i
    refine ⟨_, rfl, i, rfl, by omega, by omega, fun D hD => ?_⟩
    rw [Int.toNat_natCast]
    refine lc_map walk_range (fun k z _ => z = .int ((rowP i).getD k 0 + (rowP i).getD (k + 1) 0)) hD (fun _ _ _ _ _ h => h) (by omega) (fun _ _ => True.intro) ?_ ?_
    · rintro k x H4 H5 N Q1 hk s4 ⟨rfl, hxk⟩ hq
      obtain rfl : x = .int k := by rw [hxk]; show V.int (0 + (k : Int)) = _; rw [Int.zero_add]
      have g1 : ∀ m, m < (rowP i).length → atI ((rowP i).map V.int) (m : Nat) = some (.int ((rowP i).getD m 0)) := fun m hm => atI_nat (by rw [List.getElem?_map, List.getElem?_eq_getElem hm, List.getD_eq_getElem?_getD, List.getElem?_eq_getElem hm]; rfl)
      refine ⟨rfl, tyes ⟨_, rfl, _, rfl, b, _, _, _, rfl, rfl, s4.seq hbS, g1 k (by omega), _, rfl, _, rfl, _, _, rfl, rfl, b, _, _, _, rfl, rfl, s4.seq hbS, ?_, _, _, rfl, rfl, hq _ _ (Same.refl _) rfl⟩⟩
      have g2 := g1 (k + 1) (by omega)
      rw [show ((k + 1 : Nat) : Int) = (k : Int) + 1 by omega] at g2
      exact g2
    · rintro H4 acc s4 hD4 hal haf
      have hmid : acc = ((List.range i).map fun k => (rowP i).getD k 0 + (rowP i).getD (k + 1) 0).map V.int := acc_ints (by rw [hal, List.length_map, List.length_range]) fun k z hz m hm => by
        rw [List.getElem?_map] at hm
        obtain ⟨k', hk', rfl⟩ := Option.map_eq_some_iff.mp hm
        obtain ⟨h1, h2⟩ := List.getElem?_eq_some_iff.mp hk'
        rw [List.getElem_range] at h2
        rw [← h2]
        exact haf k z hz
      have s34 : Same H3 H4 := fun b u e => s4 b u e
      have hal2 : acc.length = i := hal
      refine ⟨a1, D, _, acc, rfl, rfl, s34 _ _ ha11, hD4, by show 1 + acc.length ≤ sizeLine; exact Nat.le_of_lt (sz_of (by omega)), fun p1 hp1 => ?_⟩
      have z2 := same_new (o := .lst ([V.int 1] ++ acc)) hp1
      refine ⟨by show 1 ≤ sizeLine; decide, fun p2 hp2 => ?_⟩
      have z3 := same_new (o := .lst [.int 1]) hp2
      refine ⟨p1, p2, _, _, rfl, rfl, z3 _ _ upd_same, upd_same, by show ([V.int 1] ++ acc).length + 1 ≤ sizeLine; rw [List.length_append]; exact Nat.le_of_lt (sz_of (by show 1 + acc.length + 1 ≤ _; omega)), fun p3 hp3 => ?_⟩
      have z4 := same_new (o := .lst ([V.int 1] ++ acc ++ [.int 1])) hp3
      have sAll : Same H2 (upd (upd (upd H4 p1 (.lst ([V.int 1] ++ acc))) p2 (.lst [.int 1])) p3 (.lst ([V.int 1] ++ acc ++ [.int 1]))) := z1.trans (s34.trans (z2.trans (z3.trans z4)))
      have hF4 := sAll _ _ hF1
      have hp33 : upd (upd (upd H4 p1 (.lst ([V.int 1] ++ acc))) p2 (.lst [.int 1])) p3 (.lst ([V.int 1] ++ acc ++ [.int 1])) p3 = some (.lst ((rowP (i + 1)).map V.int)) := by
        rw [upd_same, ← rowP_mid i (by omega), hmid, List.map_append, List.map_append]
        rfl
      have np3 : p3 ≠ F := fun z => by
        have h := (z1.trans (s34.trans (z2.trans z3))) _ _ hF1
        rw [z, h] at hp3
        nomatch hp3
      generalize upd (upd (upd H4 p1 (.lst ([V.int 1] ++ acc))) p2 (.lst [.int 1])) p3 (.lst ([V.int 1] ++ acc ++ [.int 1])) = H5 at sAll hF4 hp33
      refine ⟨F, _, _, rfl, rfl, hF4, sz_of (by rw [List.length_map, List.length_append, hl]; show i + 1 ≤ 100000; omega), ?_⟩
      refine ⟨_, _, _, rs ++ [b], p3, rfl, same_mut (sm.trans sAll) hF0, ?_, ?_, fun j d e => ?_⟩
      · rw [upd_same, List.map_append, List.map_append, List.map_append]
        rfl
      · rw [List.length_append, hl]
        rfl
      · by_cases c : j < i + 1
        · rw [List.getElem?_append_left (by rw [List.length_append, hl]; exact c)] at e
          obtain ⟨e1, e2⟩ := hd j d e
          exact ⟨by rw [upd_ne e2]; exact sAll _ _ e1, e2⟩
        · rw [List.getElem?_append_right (by rw [List.length_append, hl]; show i + 1 ≤ j; omega)] at e
          have hz : j - (rs ++ [b]).length = 0 := by
            cases q : j - (rs ++ [b]).length with
            | zero => rfl
            | succ z => rw [q] at e; simp at e
          rw [hz] at e
          have ej : j = i + 1 := by
            rw [List.length_append, hl] at hz
            have : j - (i + 1) = 0 := hz
            omega
          have ed : p3 = d := by simpa using e
          rw [← ed, ej]
          exact ⟨by rw [upd_ne np3]; exact hp33, np3⟩
  · rintro σ H1 ⟨e2, e3, e4, rs, b, rfl, sm, hF1, hl, hd⟩
    exact ⟨_, rfl, hQ _ _ sm ⟨F, rs ++ [b], rfl, hF1, by rw [List.length_append, hl]; rfl, fun i r hr => (hd i r hr).1⟩⟩
def spShare (K : PySem.W.Frag) : Sp := fun vs H Q _ => ∃ (v : V) (m n : Nat) (f : Int), vs = [v, .int n, .int f] ∧ PathsV m v H ∧ n ≤ m ∧ Q (.int (ways n f)) H
theorem ok_L_share (T : Txt P K mg) : Cal P w K mg base 1 "_law_share" (spShare K) [] := by
  refine c_L_share T (fun vs H Q E h => ?_) fun cdv A outer s H vs Q E hr h => ?_
  · obtain ⟨v, m, n, f, rfl, _⟩ := h
    rfl
  obtain ⟨v, m, n, f, rfl, ⟨a, rs, rfl, ha, hl, hrs⟩, hnm, hQ⟩ := h
  refine ⟨_, (pss_cons (ps_if (PW.pt (pw_or (pt_cmpR op_gt (pe_callB call_abs (by rfl) (z_abs T) (by decide +kernel) (pa_cons (pv 2) pa_nil)) (pv 1) (nomark _)) (pw_or1 (pt_cmpR op_ne (pe_op op_mod (pe_callTy call_int1 (by rfl) (z_int T) (by decide +kernel) (pa_cons (pe_op op_add (pv 1) (pv 2)) pa_nil)) pe_int) pe_int (nomark _))))) (pss_one (ps_ret pe_int)) pss_nil)
      (pss_one (ps_ret (pe_ix (r := rIxL K) ix_list (pe_ix (r := rIxL K) ix_list (pv 0) (pv 1) (fun _ _ => rfl)) (pe_op op_fdiv (pe_op op_add (pv 1) (pv 2)) pe_int) (fun _ _ => rfl))))), ?_⟩
  refine ⟨_, rfl, f, rfl, _, rfl, _, _, rfl, rfl, _, rfl, ?_⟩
  by_cases c1 : (n : Int) < (if f < 0 then -f else f)
  · rw [ways_zero (.inl c1)] at hQ
    rw [decide_eq_true c1]
    exact iteT hQ
  rw [decide_eq_false c1]
  refine iteF ⟨_, rfl, _, rfl, _, _, rfl, rfl, .inl ⟨_, rfl, _, _, rfl, rfl, (by decide : (0 : Int) < 2), rfl, _, rfl, ?_⟩⟩
  by_cases c2 : ((n : Int) + f) % 2 = 0
  · rw [show (!decide (V.int (((n : Int) + f) % 2) = V.int 0)) = false by rw [c2]; rfl]
    have hlo : 0 ≤ (n : Int) + f ∧ (n : Int) + f ≤ 2 * n := by
      by_cases cf : f < 0
      · rw [if_pos cf] at c1; omega
      · rw [if_neg cf] at c1; omega
    obtain ⟨k, hk⟩ : ∃ k : Nat, ((n : Int) + f) / 2 = k := ⟨(((n : Int) + f) / 2).toNat, by omega⟩
    have hr1 : rs[n]? = some (rs[n]'(by omega)) := List.getElem?_eq_getElem (by omega)
    have hrow := hrs n _ hr1
    have hkl : k < n + 1 := by omega
    refine iteF ⟨_, rfl, _, rfl, a, _, _, _, rfl, rfl, .inl (.inl ha), atI_nat (by rw [List.getElem?_map, hr1]; rfl), _, rfl, _, rfl, _, _, rfl, rfl, _, _, rfl, rfl, ⟨by decide, by decide⟩, _, _, (k : Int), .int (ways n f), rfl, congrArg V.int hk, .inl (.inl hrow), ?_, hQ⟩
    refine atI_nat ?_
    unfold rowP
    rw [List.map_map, List.getElem?_map, List.getElem?_range hkl]
    show some (V.int (ways n (2 * (k : Int) - n))) = _
    rw [show 2 * (k : Int) - (n : Int) = f by omega]
  · rw [show (!decide (V.int (((n : Int) + f) % 2) = V.int 0)) = true by rw [decide_eq_false (fun z => c2 (V.int.inj z))]; rfl]
    rw [ways_zero (.inr (by omega))] at hQ
    exact iteT hQ
end
end K86
end
section
set_option Elab.async false
set_option linter.all false
set_option maxRecDepth 100000
namespace K86
open PySem PySem.Spec PyProof.Rows L2
open C8 (Cal Met Mak pe_c pe_mk pe_mt pe_mt0)
section
variable {P : Program} {w : World} {K : PySem.W.Frag} {mg : Str → Option Value} {base : Heap}
/-- a spot's ticks and what a turn there changes, the law's own list -/
def tickL (c : Int) (last : Nat) (y : Int) : List Nat := (List.range last).filter fun t : Nat => decide ((y + (t : Int) + c) % 2 = 0)
def ownL (rs : List (Int × Int × Int)) (last : Nat) (c y : Int) : List (Int × Int) := (tickL c last y).map fun (t : Nat) => ((t : Int), chgI rs last y t)
def OwnV (K : PySem.W.Frag) (rs : List (Int × Int × Int)) (last : Nat) (c : Int) (x : V) (y : Int) (H : Hp) : Prop := ∃ (t l : Addr) (zs : List V), x = .ref t ∧ SqT K H t [.int y, .ref l] ∧ H l = some (.lst zs) ∧ PrL K H zs (ownL rs last c y)
def OwnN (K : PySem.W.Frag) (F : Addr) (rs : List (Int × Int × Int)) (last : Nat) (c : Int) (x : V) (y : Int) (H : Hp) : Prop := ∃ (t l : Addr) (zs : List V), x = .ref t ∧ SqT K H t [.int y, .ref l] ∧ H l = some (.lst zs) ∧ PrL K H zs (ownL rs last c y) ∧ l ≠ F
theorem sum_filter {α : Type} {p : α → Bool} {f : α → Int} : ∀ l : List α, ((l.filter p).map f).sum = (l.map fun r => if p r = true then f r else 0).sum
  | [] => rfl
  | x :: l => by
    rw [List.filter_cons]
    by_cases c : p x = true
    · rw [if_pos c, List.map_cons, List.sum_cons, List.map_cons, List.sum_cons, if_pos c, sum_filter l]
    · rw [if_neg c, List.map_cons, List.sum_cons, if_neg c, sum_filter l]
      omega
def oneChg (last : Nat) (y : Int) (t : Nat) (r : Int × Int × Int) : Int := r.2.2 * G (r.2.1.toNat - t) (r.1 - y) * 2 ^ (last - (r.2.1.toNat - t))
theorem chg_filter (rs : List (Int × Int × Int)) (last : Nat) (y : Int) (t : Nat) : ((rs.filter fun r => decide ((t : Int) < r.2.1)).map (oneChg last y t)).sum = chgI rs last y t := by
  rw [sum_filter]
  unfold chgI
  congr 1
  refine List.map_congr_left fun r _ => ?_
  by_cases c : (t : Int) < r.2.1
  · rw [if_pos (decide_eq_true c), if_pos c]; rfl
  · rw [if_neg (by rw [decide_eq_false c]; decide), if_neg c]
def spLChg (K : PySem.W.Frag) : Sp := fun vs H Q _ => ∃ (a : Addr) (xs : List V) (rs : List (Int × Int × Int)) (last : Nat) (c : Int), vs = [.ref a, .int last] ∧ H a = some (.lst xs) ∧ RwL K H xs rs ∧ 1 ≤ rs.length ∧ rs.length ≤ 40 ∧ last ≤ 8 ∧ (∀ r ∈ rs, rowIn last r ∧ (r.1 + r.2.1) % 2 = c) ∧
  ∀ (F : Addr) (ys : List V) (lo : Int) (n : Nat) (H' : Hp), Same H H' → H' F = some (.lst ys) → Paired (fun x y => OwnV K rs last c x y H') ys ((List.range n).map fun i : Nat => lo + i) → n ≤ 60 → -14 ≤ lo → lo + n ≤ 17 → (∀ r ∈ rs, lo + last ≤ r.1 ∧ r.1 + last < lo + n) → Q (.ref F) H'
theorem ok_L_changes (T : Txt P K mg) : Cal P w K mg base 2 "_law_changes" (spLChg K) [] := by
  have h_L_paths := ok_L_paths (P := P) (w := w) (base := base) T
  have h_L_share := ok_L_share (P := P) (w := w) (base := base) T
  refine c_L_changes T (fun vs H Q E h => ?_) fun cdv A outer s H vs Q E hr h => ?_
  · obtain ⟨a, xs, rs, last, c, rfl, _⟩ := h
    rfl
  obtain ⟨a, xs, rs, last, c, rfl, ha, hrs, hl1, hl2, hl8, hin, hQ⟩ := h
  refine ⟨_, (pss_cons (ps_par3 (i := 2) (j := 3) (l := 4) rfl sc_L_changes.nd rfl rfl rfl (by decide) (by decide) (by decide) rfl rfl rfl (pa_cons (pe_c h_L_paths hr (by decide) (by rfl) (pa_cons (pv 1) pa_nil)) (pa_cons (pe_lc (own := [("_law_spot", 5), ("_law_tick", 6), ("_law_weight", 7)]) (g := (gTup K 3 (gCons (gName 5) (gCons (gName 6) (gCons (gName 7) gNil))))) (tt := tYes) rfl sc_L_changes.nd (pi_list (pv 0)) (blkOk_by (own := [("_law_spot", 5), ("_law_tick", 6), ("_law_weight", 7)]) (N := n_L_changes) (sc := defScope s_L_changes) (by decide +kernel)) (fun _ _ _ _ _ => (pg_tup rfl (pgs_cons (pg_name (i := 5) sc_L_changes.nd rfl (by first | exact Or.inl rfl | exact Or.inr rfl)) (pgs_cons (pg_name (i := 6) sc_L_changes.nd rfl (by first | exact Or.inl rfl | exact Or.inr rfl)) (pgs_cons (pg_name (i := 7) sc_L_changes.nd rfl (by first | exact Or.inl rfl | exact Or.inr rfl)) pgs_nil))))) (fun _ _ _ _ _ => pts_nil) (fun _ _ _ _ _ => (pv 5))) (pa_cons (pe_lst pa_nil) pa_nil))) (by rfl))
      (pss_cons (ps_for PassesOwn.never rfl (pi_range2 rfl (z_range T) (pa_cons (pe_op op_sub (pe_callB (cr_min rfl) (by rfl) (z_min T) (by decide +kernel) (pa_cons (pv 3) pa_nil)) (pv 1)) (pa_cons (pe_op op_add (pe_op op_add (pe_callB (cr_max rfl) (by rfl) (z_max T) (by decide +kernel) (pa_cons (pv 3) pa_nil)) (pv 1)) pe_int) pa_nil))) (pg_name (i := 5) sc_L_changes.nd rfl (by first | exact Or.inl rfl | exact Or.inr rfl))
      (pss_cons (ps_set (i := 8) sc_L_changes.nd rfl (by first | exact Or.inl rfl | exact Or.inr rfl) (pe_lst pa_nil))
      (pss_cons (ps_for PassesOwn.never rfl (pi_list (pe_lc (own := [("_law_tick", 6)]) (g := (gName 6)) rfl sc_L_changes.nd (pi_range1 rfl (z_range T) (pa_cons (pv 1) pa_nil)) (blkOk_by (own := [("_law_tick", 6)]) (N := n_L_changes) (sc := defScope s_L_changes) (by decide +kernel)) (fun _ _ _ _ _ => (pg_name (i := 6) sc_L_changes.nd rfl (by first | exact Or.inl rfl | exact Or.inr rfl))) (fun _ _ _ _ _ => (pts_one (pt_cmpR op_eq (pe_op op_mod (pe_callTy call_int1 (by rfl) (z_int T) (by decide +kernel) (pa_cons (pe_op op_sub (pe_op op_sub (pe_op op_add (pv 5) (pv 6)) (pe_ix (r := rIxT K) ix_tup (pe_ix (r := rIxL K) ix_list (pv 0) pe_int (fun _ _ => rfl)) pe_int (fun _ _ => rfl))) (pe_ix (r := rIxT K) ix_tup (pe_ix (r := rIxL K) ix_list (pv 0) pe_int (fun _ _ => rfl)) pe_int (fun _ _ => rfl))) pa_nil)) pe_int) pe_int (nomark _)))) (fun _ _ _ _ _ => (pv 6)))) (pg_name (i := 6) sc_L_changes.nd rfl (by first | exact Or.inl rfl | exact Or.inr rfl))
      (pss_cons (ps_set (i := 9) sc_L_changes.nd rfl (by first | exact Or.inl rfl | exact Or.inr rfl) pe_int)
      (pss_cons (ps_for PassesOwn.never rfl (pi_list (pe_lc (own := [("_law_row", 14)]) (g := (gName 14)) rfl sc_L_changes.nd (pi_list (pv 0)) (blkOk_by (own := [("_law_row", 14)]) (N := n_L_changes) (sc := defScope s_L_changes) (by decide +kernel)) (fun _ _ _ _ _ => (pg_name (i := 14) sc_L_changes.nd rfl (by first | exact Or.inl rfl | exact Or.inr rfl))) (fun _ _ _ _ _ => (pts_one (pt_cmpR op_gt (pe_ix (r := rIxT K) ix_tup (pv 14) pe_int (fun _ _ => rfl)) (pv 6) (nomark _)))) (fun _ _ _ _ _ => (pv 14)))) (pg_tup rfl (pgs_cons (pg_name (i := 10) sc_L_changes.nd rfl (by first | exact Or.inl rfl | exact Or.inr rfl)) (pgs_cons (pg_name (i := 11) sc_L_changes.nd rfl (by first | exact Or.inl rfl | exact Or.inr rfl)) (pgs_cons (pg_name (i := 7) sc_L_changes.nd rfl (by first | exact Or.inl rfl | exact Or.inr rfl)) pgs_nil))))
      (pss_cons (ps_set (i := 12) sc_L_changes.nd rfl (by first | exact Or.inl rfl | exact Or.inr rfl) (pe_op op_sub (pe_op op_sub (pv 11) (pv 6)) pe_int))
      (pss_cons (ps_set (i := 13) sc_L_changes.nd rfl (by first | exact Or.inl rfl | exact Or.inr rfl) (pe_op op_sub (pe_c h_L_share hr (by decide) (by rfl) (pa_cons (pv 2) (pa_cons (pv 12) (pa_cons (pe_op op_sub (pe_op op_sub (pv 10) (pv 5)) pe_int) pa_nil)))) (pe_c h_L_share hr (by decide) (by rfl) (pa_cons (pv 2) (pa_cons (pv 12) (pa_cons (pe_op op_add (pe_op op_sub (pv 10) (pv 5)) pe_int) pa_nil))))))
      (pss_one (ps_set (i := 9) sc_L_changes.nd rfl (by first | exact Or.inl rfl | exact Or.inr rfl) (pe_op op_add (pv 9) (pe_op op_mul (pe_op op_mul (pv 7) (pv 13)) (pe_op op_shl pe_int (pe_op op_sub (pe_op op_sub (pv 1) (pv 12)) pe_int)))))))))
      (pss_one (ps_expr (pe_bm PySem.F.plainAttrs_list PySem.F.slot_list_append PySem.F.type_list_append mt_append (pv 8) (pa_cons (pe_tup (pa_cons (pv 6) (pa_cons (pv 9) pa_nil))) pa_nil)))))))
      (pss_one (ps_expr (pe_bm PySem.F.plainAttrs_list PySem.F.slot_list_append PySem.F.type_list_append mt_append (pv 4) (pa_cons (pe_tup (pa_cons (pv 5) (pa_cons (pv 8) pa_nil))) pa_nil)))))))
      (pss_one (ps_ret (pv 4))))), ?_⟩
  have hxl : xs.length = rs.length := Paired.length hrs
  refine ⟨_, rfl, last, rfl, hl8, fun pv H1 s1 hpv => ?_⟩
  have haS : ∀ {H'}, Same H H' → SqL K H' a xs := fun e => e.seq (.inl (.inl ha))
  refine ⟨_, rfl, a, rfl, ⟨xs, haS s1⟩, fun D hD => lc_map walk_list (fun i z _ => ∀ r, rs[i]? = some r → z = .int r.1) hD (fun _ _ _ _ _ h => h) (by omega) (fun H' e => haS (s1.trans e)) ?_ ?_⟩
  · rintro i x H2 H3 N Q1 hi sm ⟨rfl, hx⟩ hq
    obtain ⟨r, hr1, xa, rfl, hP⟩ := paired_at hrs hx
    refine ⟨xa, _, rfl, Same.sqt (s1.trans sm) hP, rfl, _, _, rfl, _, _, rfl, _, _, rfl, rfl, rfl, tyes ⟨_, rfl, hq _ _ (Same.refl _) fun r' hr' => ?_⟩⟩
    rw [hr1] at hr'
    cases hr'
    rfl
  rintro H2 acc0 sm0 hacc0 hal0 hf0
  have e0 : acc0 = (rs.map (·.1)).map V.int := acc_ints (by rw [hal0, List.length_map, hxl]) fun i z hz m hm => by
    rw [List.getElem?_map] at hm
    obtain ⟨r, hr1, rfl⟩ := Option.map_eq_some_iff.mp hm
    exact hf0 i z hz r hr1
  rw [e0] at hacc0
  have s12 : Same H1 H2 := fun b u e => sm0 b u e
  refine ⟨Nat.zero_le _, fun F hF => ⟨_, _, _, rfl, ?_⟩⟩
  have sF := same_new (o := .lst []) hF
  have s03 := s1.trans (s12.trans sF)
  have hD3 := sF _ _ hacc0
  have hF3 : upd H2 F (.lst []) F = some (.lst []) := upd_same
  have hF0 : H F = none := Same.back (s1.trans s12) hF
  have hpv3 := hpv.mono (s12.trans sF)
  generalize upd H2 F (.lst []) = HB at s03 hD3 hF3 hpv3
  have hlen1 : 0 < (rs.map (·.1)).length := by rw [List.length_map]; omega
  refine ⟨_, rfl, D, _, rfl, .inl (.inl hD3), hlen1, fun lo hlo hle => ?_⟩
  refine ⟨_, rfl, _, _, rfl, rfl, _, rfl, D, _, rfl, .inl (.inl hD3), hlen1, fun hi hhi hge => ?_⟩
  have hloB : -6 ≤ lo ∧ lo ≤ 7 := by
    obtain ⟨r, h1, rfl⟩ := List.mem_map.mp hlo
    have := (hin r h1).1
    exact ⟨this.1, this.2.1⟩
  have hhiB : -6 ≤ hi ∧ hi ≤ 7 := by
    obtain ⟨r, h1, rfl⟩ := List.mem_map.mp hhi
    have := (hin r h1).1
    exact ⟨this.1, this.2.1⟩
  have hlh : lo ≤ hi := hge _ hlo
  refine ⟨_, rfl, _, _, rfl, rfl, _, _, rfl, rfl, _, _, rfl, ⟨by omega, by omega, by omega, by omega⟩, ?_⟩
  obtain ⟨r0, hr0⟩ : ∃ r, rs[0]? = some r := ⟨rs[0]'(by omega), List.getElem?_eq_getElem (by omega)⟩
  obtain ⟨x0, hx0⟩ : ∃ x, xs[0]? = some x := ⟨xs[0]'(by omega), List.getElem?_eq_getElem (by omega)⟩
  obtain ⟨r0', hr0', a0, rfl, hP0⟩ := paired_at hrs hx0
  rw [hr0] at hr0'
  cases hr0'
  have hc0 := (hin r0 (List.mem_of_getElem? hr0)).2
  refine for_it walk_range (fun i σ H' => ∃ (e5 e6 e7 e8 e9 e10 e11 e12 e13 e14 : Option V) (ys : List V), σ = [some (.ref a), some (.int last), some pv, some (.ref D), some (.ref F), e5, e6, e7, e8, e9, e10, e11, e12, e13, e14] ∧ Ex [F] HB H' ∧ H' F = some (.lst ys) ∧ ys.length = i ∧ Paired (fun x y => OwnN K F rs last c x y H') ys ((List.range i).map fun i : Nat => lo - last + i))
    ⟨_, _, _, _, none, none, none, none, none, none, [], rfl, Ex.refl _ _, hF3, rfl, .nil⟩ (fun _ _ _ _ _ => True.intro) ?_ ?_
  · rintro i x σ H4 H5 hi5 ⟨e5, e6, e7, e8, e9, e10, e11, e12, e13, e14, ys, rfl, ex, hF4, hyl, hys⟩ ⟨rfl, hxv⟩
    generalize hyv : lo - (last : Int) + (i : Int) = y at *
    obtain rfl : x = .int y := by rw [hxv]; exact congrArg V.int hyv
    refine ⟨Nat.zero_le _, fun O hO => ?_⟩
    have sO := same_new (o := .lst []) hO
    have sm5 : Same H H5 := Ex.same s03 (fun b hb => by rw [List.mem_singleton.mp hb]; exact hF0) ex
    have hO0 : H O = none := Same.back sm5 hO
    have smO := sm5.trans sO
    have nOF : O ≠ F := (ne_of_none hF4 hO).symm
    have hOO : upd H5 O (.lst []) O = some (.lst []) := upd_same
    have hFO := sO _ _ hF4
    have hpvO : PathsV last pv (upd H5 O (.lst [])) := by
      obtain ⟨pa, prs, rfl, q1, q2, q3⟩ := hpv3
      have nF : ∀ b u, HB b = some u → u ≠ .lst [] → b ≠ F := fun b u e n z => by
        rw [z, hF3] at e
        exact n (Option.some.inj e).symm
      have k : ∀ b u, HB b = some u → u ≠ .lst [] → upd H5 O (.lst []) b = some u := fun b u e n => sO b u (ex b u (by simp [nF b u e n]) e)
      refine ⟨pa, prs, rfl, k _ _ q1 (fun z => ?_), q2, fun j r hr => k _ _ (q3 j r hr) (fun z => ?_)⟩
      · have : prs.map V.ref = [] := HO.lst.inj z
        rw [List.map_eq_nil_iff] at this
        rw [this] at q2
        nomatch q2
      · have h := congrArg List.length (HO.lst.inj z)
        rw [List.length_map, rowP_len] at h
        nomatch h
    have exO : Ex [F] HB (upd H5 O (.lst [])) := ex.trans (Ex.of sO)
    have hysO : Paired (fun x y => OwnN K F rs last c x y (upd H5 O (.lst []))) ys ((List.range i).map fun i : Nat => lo - last + i) := Paired.mapP hys fun x z ⟨t, l, zs, b0, b1, b2, b3, b4⟩ => ⟨t, l, zs, b0, Same.sqt sO b1, sO _ _ b2, b3.im (Im.of sO), b4⟩
    have sO5 : ∀ b, H5 b = none → b ≠ O → upd H5 O (.lst []) b = none := fun b h n => by rw [upd_ne n]; exact h
    have h5O : H5 O = none := hO
    generalize upd H5 O (.lst []) = H6 at smO hOO hFO hpvO exO hysO sO sO5
    -- the ticks
    refine ⟨_, rfl, last, rfl, by omega, by omega, fun TL hTL => ?_⟩
    rw [Int.toNat_natCast]
    have r0a : SqT K H a0 [.int r0.1, .int r0.2.1, .int r0.2.2] := hP0
    refine lc_it walk_range (fun j H' => Same H6 H' ∧ H' TL = some (.lst ((((List.range j).filter fun t : Nat => decide ((y + (t : Int) + c) % 2 = 0)).map fun t : Nat => (t : Int)).map V.int)))
      ⟨same_new hTL, upd_same⟩ (fun _ _ _ _ => True.intro) ?_ ?_
    · rintro j x H7 H8 hj ⟨s7, hT7⟩ ⟨rfl, hxj⟩
      obtain rfl : x = .int j := by rw [hxj]; show V.int (0 + (j : Int)) = _; rw [Int.zero_add]
      have s08 := smO.trans s7
      refine ⟨rfl, _, rfl, _, rfl, _, _, rfl, rfl, _, rfl, a, _, 0, _, rfl, rfl, haS s08, atI_nat (j := 0) hx0, a0, _, 0, _, rfl, rfl, Same.sqt s08 r0a, rfl, _, _, rfl, rfl, _, rfl, a, _, 0, _, rfl, rfl, haS s08, atI_nat (j := 0) hx0, a0, _, 1, _, rfl, rfl, Same.sqt s08 r0a, rfl, _, _, rfl, rfl, .inl ⟨_, rfl, _, _, rfl, rfl, (by decide : (0 : Int) < 2), rfl, _, rfl, ?_⟩⟩
      have flt : (List.range (j + 1)).filter (fun t : Nat => decide ((y + (t : Int) + c) % 2 = 0)) = (List.range j).filter (fun t : Nat => decide ((y + (t : Int) + c) % 2 = 0)) ++ (if (y + (j : Int) + c) % 2 = 0 then [j] else []) := by
        rw [List.range_succ, List.filter_append, List.filter_cons]
        by_cases cc : (y + (j : Int) + c) % 2 = 0
        · rw [if_pos (decide_eq_true cc), if_pos cc]; rfl
        · rw [if_neg (by rw [decide_eq_false cc]; decide), if_neg cc]; rfl
      have hlen : ((List.range j).filter fun t : Nat => decide ((y + (t : Int) + c) % 2 = 0)).length ≤ j := by
        have := List.length_filter_le (fun t : Nat => decide ((y + (t : Int) + c) % 2 = 0)) (List.range j)
        rw [List.length_range] at this
        exact this
      rw [flt]
      by_cases cc : (y + (j : Int) + c) % 2 = 0
      · rw [decide_eq_true (show V.int ((y + (j : Int) - r0.1 - r0.2.1) % 2) = V.int 0 by congr 1; omega), if_pos cc]
        refine iteT ⟨_, rfl, _, hT7, sz_of (by rw [List.length_map, List.length_map]; omega), same_mut s7 hTL, ?_⟩
        rw [List.map_append, List.map_append]
        exact upd_same
      · rw [decide_eq_false (show ¬ V.int ((y + (j : Int) - r0.1 - r0.2.1) % 2) = V.int 0 from fun z => by have := V.int.inj z; omega), if_neg cc, List.append_nil]
        exact iteF ⟨s7, hT7⟩
    · rintro H7 ⟨s7, hT7⟩
      have hTk : H7 TL = some (.lst ((tickL c last y).map fun t : Nat => V.int (t : Int))) := by
        rw [hT7, List.map_map]
        rfl
      have nTF : TL ≠ F := (ne_of_none hFO hTL).symm
      have nTO : TL ≠ O := (ne_of_none hOO hTL).symm
      have hO7 := s7 _ _ hOO
      have smO7 := smO.trans s7
      have hpv7 := hpvO.mono s7
      refine ⟨TL, rfl, ⟨_, .inl (.inl hTk)⟩, ?_⟩
      refine for_it walk_list (fun j σ H' => ∃ (e6 e7 e9 e10 e11 e12 e13 e14 : Option V) (zs : List V), σ = [some (.ref a), some (.int last), some pv, some (.ref D), some (.ref F), some (.int y), e6, e7, some (.ref O), e9, e10, e11, e12, e13, e14] ∧ Ex [O] H7 H' ∧ H' O = some (.lst zs) ∧ PrL K H' zs ((ownL rs last c y).take j))
        ⟨_, _, _, _, _, _, _, _, [], rfl, Ex.refl _ _, hO7, by rw [List.take_zero]; exact .nil⟩ (fun j σ H' _ ⟨_, _, _, _, _, _, _, _, _, _, e, _⟩ => .inl (.inl (e TL _ (by simp [nTO]) hTk))) ?_ ?_
      · rintro j x σ H8 H9 hj9 ⟨e6, e7, e9, e10, e11, e12, e13, e14, zs, rfl, ex8, hO8, hzs⟩ ⟨rfl, hx⟩
        rw [List.getElem?_map] at hx
        obtain ⟨t, ht, rfl⟩ := Option.map_eq_some_iff.mp hx
        have htl : t < last := List.mem_range.mp (List.mem_filter.mp (List.mem_of_getElem? ht)).1
        have sm9 : Same H H9 := Ex.same smO7 (fun b hb => by rw [List.mem_singleton.mp hb]; exact hO0) ex8
        have hpv9 : PathsV last pv H9 := by
          obtain ⟨pa, prs, rfl, q1, q2, q3⟩ := hpvO
          have k : ∀ b u, H6 b = some u → u ≠ .lst [] → H9 b = some u := fun b u e n => ex8 b u (fun z => by
            rw [List.mem_singleton.mp z, hOO] at e
            exact n (Option.some.inj e).symm) (s7 b u e)
          refine ⟨pa, prs, rfl, k _ _ q1 (fun z => ?_), q2, fun j r hr => k _ _ (q3 j r hr) (fun z => ?_)⟩
          · have : prs.map V.ref = [] := HO.lst.inj z
            rw [List.map_eq_nil_iff] at this
            rw [this] at q2
            nomatch q2
          · have h := congrArg List.length (HO.lst.inj z)
            rw [List.length_map, rowP_len] at h
            nomatch h
        refine ⟨_, rfl, a, rfl, ⟨xs, haS sm9⟩, fun RL hRL => lc_it walk_list (fun k H' => Same H9 H' ∧ ∃ acc, H' RL = some (.lst acc) ∧ acc.length ≤ k ∧ RwL K H' acc ((rs.take k).filter fun r => decide ((t : Int) < r.2.1)))
          ⟨same_new hRL, [], upd_same, Nat.le_refl _, .nil⟩ (fun k H' _ ⟨e, _⟩ => haS (sm9.trans e)) ?_ ?_⟩
        · rintro k x HA HC hk ⟨sA, acc, hacc, hal, hrw⟩ ⟨rfl, hx⟩
          obtain ⟨r, hr1, xa, rfl, hP⟩ := paired_at hrs hx
          have hPA := Same.sqt (sm9.trans sA) hP
          refine ⟨rfl, _, rfl, xa, _, 1, _, rfl, rfl, hPA, rfl, _, rfl, _, _, rfl, rfl, _, rfl, ?_⟩
          by_cases cr : (t : Int) < r.2.1
          · rw [decide_eq_true cr]
            refine iteT ⟨_, rfl, acc, hacc, sz_of (by omega), same_mut sA hRL, acc ++ [.ref xa], upd_same, by rw [List.length_append]; exact Nat.succ_le_succ hal, ?_⟩
            have im : Im HC (upd HC RL (.lst (acc ++ [.ref xa]))) := Im.mut (by rw [hacc]; trivial)
            rw [take_succ_at hr1, List.filter_append, List.filter_cons, if_pos (decide_eq_true cr)]
            exact paired_app (hrw.im im) (.cons ⟨xa, rfl, im.sqt hPA⟩ .nil)
          · rw [decide_eq_false cr]
            refine iteF ⟨sA, acc, hacc, by omega, ?_⟩
            rw [take_succ_at hr1, List.filter_append, List.filter_cons, if_neg (by rw [decide_eq_false cr]; decide), List.filter_nil, List.append_nil]
            exact hrw
        rintro HA ⟨sA, acc, hacc, hal, hrw⟩
        rw [hxl, List.take_length] at hrw
        generalize hfil : (rs.filter fun r => decide ((t : Int) < r.2.1)) = fl at hrw
        have hflm : ∀ r ∈ fl, r ∈ rs ∧ (t : Int) < r.2.1 := fun r hr => by
          rw [← hfil] at hr
          have m := List.mem_filter.mp hr
          exact ⟨m.1, of_decide_eq_true m.2⟩
        have hpvA := hpv9.mono sA
        refine ⟨RL, rfl, ⟨acc, .inl (.inl hacc)⟩, for_it walk_list (fun k σ H' => ∃ (e7 e10 e11 e12 e13 e14 : Option V), σ = [some (.ref a), some (.int last), some pv, some (.ref D), some (.ref F), some (.int y), some (.int (t : Int)), e7, some (.ref O), some (.int (((fl.take k).map (oneChg last y t)).sum)), e10, e11, e12, e13, e14] ∧ H' = HA)
          ⟨_, _, _, _, _, _, rfl, rfl⟩ (fun k σ H' _ ⟨_, _, _, _, _, _, _, e⟩ => by rw [e]; exact .inl (.inl hacc)) ?_ ?_⟩
        · rintro k x σ HD HG hk ⟨e7, e10, e11, e12, e13, e14, rfl, rfl⟩ ⟨rfl, hx⟩
          obtain ⟨r, hr1, xa, rfl, hP⟩ := paired_at hrw hx
          obtain ⟨hrm, hrt⟩ := hflm r (List.mem_of_getElem? hr1)
          obtain ⟨⟨i1, i2, i3, i4, i5, i6⟩, _⟩ := hin r hrm
          obtain ⟨n, hn⟩ : ∃ n : Nat, r.2.1 - (t : Int) - 1 = n := ⟨(r.2.1 - (t : Int) - 1).toNat, by omega⟩
          have hnl : n + 1 ≤ last := by omega
          have eG : ways n (r.1 - y - 1) - ways n (r.1 - y + 1) = G (r.2.1.toNat - t) (r.1 - y) := by
            rw [show r.2.1.toNat - t = n + 1 by omega]
            rfl
          have hgl := G_le (r.2.1.toNat - t) (r.1 - y)
          have h8 : (2 : Int) ^ (r.2.1.toNat - t) ≤ 2 ^ 8 := two_pow_le (by omega)
          have h9 : (2 : Int) ^ 8 = 256 := by decide
          refine ⟨xa, _, rfl, hP, rfl, _, _, rfl, _, _, rfl, _, _, rfl, rfl, ?_⟩
          refine ⟨_, rfl, _, rfl, _, _, rfl, rfl, _, _, rfl, rfl, ?_⟩
          refine ⟨_, rfl, _, rfl, _, rfl, _, rfl, _, _, rfl, rfl, _, _, rfl, rfl, pv, last, n, r.1 - y - 1, by rw [← hn]; rfl, hpvA, by omega, ?_⟩
          refine ⟨_, rfl, _, rfl, _, rfl, _, rfl, _, _, rfl, rfl, _, _, rfl, rfl, pv, last, n, r.1 - y + 1, by rw [← hn]; rfl, hpvA, by omega, _, _, rfl, rfl, ?_⟩
          refine ⟨_, rfl, _, rfl, _, rfl, _, _, rfl, rfl, .inl ⟨by omega, by omega⟩, _, rfl, _, rfl, _, _, rfl, rfl, _, _, rfl, rfl, _, _, rfl, rfl, ⟨?_, ?_, by decide⟩, _, _, rfl, rfl, .inr ⟨?_, ?_⟩, _, _, rfl, rfl, ?_⟩
          · omega
          · omega
          · show -(2 ^ 64) < (1 : Int) * 2 ^ (((last : Int) - (r.2.1 - (t : Int) - 1)) - 1).toNat
            have := two_pos (((last : Int) - (r.2.1 - (t : Int) - 1)) - 1).toNat
            omega
          · show (1 : Int) * 2 ^ (((last : Int) - (r.2.1 - (t : Int) - 1)) - 1).toNat < 2 ^ 64
            have : (2 : Int) ^ (((last : Int) - (r.2.1 - (t : Int) - 1)) - 1).toNat ≤ 2 ^ 8 := two_pow_le (by omega)
            omega
          · refine ⟨some (.int r.2.2), some (.int r.1), some (.int r.2.1), some (.int (r.2.1 - (t : Int) - 1)), some (.int (ways n (r.1 - y - 1) - ways n (r.1 - y + 1))), e14, ?_, rfl⟩
            have e : ((fl.take (k + 1)).map (oneChg last y t)).sum = ((fl.take k).map (oneChg last y t)).sum + r.2.2 * (ways n (r.1 - y - 1) - ways n (r.1 - y + 1)) * (1 * 2 ^ (((last : Int) - (r.2.1 - (t : Int) - 1)) - 1).toNat) := by
              rw [take_succ_at hr1, List.map_append, List.sum_append, eG]
              congr 1
              show oneChg last y t r + 0 = _
              unfold oneChg
              rw [Int.one_mul, Int.add_zero, show (((last : Int) - (r.2.1 - (t : Int) - 1)) - 1).toNat = last - (r.2.1.toNat - t) by omega]
            rw [e]
            rfl
        · rintro σ HD ⟨e7, e10, e11, e12, e13, e14, rfl, rfl⟩
          rw [Paired.length hrw, List.take_length, ← hfil, chg_filter]
          have hOA := sA _ _ hO8
          have hzl : zs.length ≤ 8 := by
            have h1 := Paired.length hzs
            have h2 := List.length_take_le' j (ownL rs last c y)
            have h3 : (ownL rs last c y).length ≤ last := by
              unfold ownL tickL
              rw [List.length_map]
              have := List.length_filter_le (fun t : Nat => decide ((y + (t : Int) + c) % 2 = 0)) (List.range last)
              rw [List.length_range] at this
              exact this
            omega
          refine ⟨_, rfl, .inl ⟨rfl, _, .inl (.inl hOA)⟩, _, rfl, _, rfl, by show 2 ≤ sizeLine; decide, fun T1 hT1 => ?_⟩
          have sT := same_new (o := .tup [.int (t : Int), .int (chgI rs last y t)]) hT1
          have hOT := sT _ _ hOA
          refine ⟨O, zs, _, rfl, rfl, hOT, sz_of (by omega), ?_⟩
          have im : Im (upd HD T1 (.tup [.int (t : Int), .int (chgI rs last y t)])) (upd (upd HD T1 (.tup [.int (t : Int), .int (chgI rs last y t)])) O (.lst (zs ++ [.ref T1]))) := Im.mut (by rw [hOT]; trivial)
          refine ⟨_, _, _, _, _, _, _, _, zs ++ [.ref T1], rfl, (ex8.trans (Ex.of (sA.trans sT))).trans (Ex.mut (by simp)), upd_same, ?_⟩
          have hown : (ownL rs last c y)[j]? = some ((t : Int), chgI rs last y t) := by
            unfold ownL
            rw [List.getElem?_map, ht]
            rfl
          rw [take_succ_at hown]
          exact paired_app ((hzs.im (Im.of (sA.trans sT))).im im) (.cons ⟨T1, rfl, im.sqt (.inl (.inl upd_same))⟩ .nil)
      · rintro σ H8 ⟨e6, e7, e9, e10, e11, e12, e13, e14, zs, rfl, ex8, hO8, hzs⟩
        have hll : ((tickL c last y).map fun t : Nat => V.int (t : Int)).length = (ownL rs last c y).length := by
          unfold ownL
          rw [List.length_map, List.length_map]
        rw [hll, List.take_length] at hzs
        have hF8 : H8 F = some (.lst ys) := ex8 F _ (by simp [nOF.symm]) (s7 _ _ hFO)
        refine ⟨_, rfl, .inl ⟨rfl, _, .inl (.inl hF8)⟩, _, rfl, _, rfl, by show 2 ≤ sizeLine; decide, fun T1 hT1 => ?_⟩
        have sT := same_new (o := .tup [.int y, .ref O]) hT1
        have hFT := sT _ _ hF8
        have im : Im (upd H8 T1 (.tup [.int y, .ref O])) (upd (upd H8 T1 (.tup [.int y, .ref O])) F (.lst (ys ++ [.ref T1]))) := Im.mut (by rw [hFT]; trivial)
        have exH : Ex [F] HB H8 := fun b u n e => ex8 b u (fun z => by
          have h0 := ex b u n e
          rw [List.mem_singleton.mp z, h5O] at h0
          nomatch h0) (s7 b u (exO b u n e))
        have imA : Im H6 H8 := ⟨fun b us q => ex8 b _ (fun z => by
          have q2 := s7 _ _ q
          rw [List.mem_singleton.mp z, hO7] at q2
          nomatch q2) (s7 _ _ q), fun b o us q => ex8 b _ (fun z => by
          have q2 := s7 _ _ q
          rw [List.mem_singleton.mp z, hO7] at q2
          nomatch q2) (s7 _ _ q)⟩
        refine ⟨F, ys, _, rfl, rfl, hFT, sz_of (by omega), ?_⟩
        refine ⟨_, _, _, _, _, _, _, _, _, _, ys ++ [.ref T1], rfl, (exH.trans (Ex.of sT)).trans (Ex.mut (by simp)), upd_same, by rw [List.length_append, hyl]; rfl, ?_⟩
        rw [List.range_succ, List.map_append]
        refine paired_app (Paired.mapP hys fun x z ⟨t, l, zs', b0, b1, b2, b3, b4⟩ => ?_) (.cons ⟨T1, O, zs, rfl, ?_, ?_, ?_, nOF⟩ .nil)
        · have nlO : l ≠ O := ne_of_none b2 h5O
          refine ⟨t, l, zs', b0, im.sqt (Same.sqt sT (imA.sqt (Same.sqt sO b1))), ?_, ((((b3.im (Im.of sO)).im imA).im (Im.of sT)).im im), b4⟩
          rw [upd_ne b4]
          exact sT _ _ (ex8 l _ (by simp [nlO]) (s7 _ _ (sO _ _ b2)))
        · show SqT K _ T1 [.int (lo - (last : Int) + (i : Int)), .ref O]
          rw [hyv]
          exact im.sqt (.inl (.inl upd_same))
        · rw [upd_ne nOF]
          exact sT _ _ hO8
        · show PrL K _ zs (ownL rs last c (lo - (last : Int) + (i : Int)))
          rw [hyv]
          exact (hzs.im (Im.of sT)).im im
  · rintro σ H4 ⟨e5, e6, e7, e8, e9, e10, e11, e12, e13, e14, ys, rfl, ex, hF4, hyl, hys⟩
    refine ⟨_, rfl, hQ F ys (lo - last) _ H4 (Ex.same s03 (fun b hb => by rw [List.mem_singleton.mp hb]; exact hF0) ex) hF4 (Paired.mapP hys fun x z ⟨t, l, zs, b0, b1, b2, b3, _⟩ => ⟨t, l, zs, b0, b1, b2, b3⟩) (by omega) (by omega) (by omega) fun r hr => ?_⟩
    have h1 := hle r.1 (List.mem_map.mpr ⟨r, hr, rfl⟩)
    have h2 := hge r.1 (List.mem_map.mpr ⟨r, hr, rfl⟩)
    omega
end
end K86
end
section
set_option Elab.async false
set_option linter.all false
set_option maxRecDepth 100000
namespace K86
open PySem PySem.Spec PyProof.Rows L2
open C8 (Cal Met Mak pe_c pe_mk pe_mt pe_mt0)
section
variable {P : Program} {w : World} {K : PySem.W.Frag} {mg : Str → Option Value} {base : Heap}
def spGrt (K : PySem.W.Frag) : Sp := fun vs H Q _ => ∃ (a : Addr) (ns : List Int), vs = [.ref a] ∧ SqL K H a (ns.map V.int) ∧ ns.length ≤ 6 ∧ ∀ (m : Int) (H' : Hp), Same H H' → m ∈ (grS ns).map (·.1) → (∀ x ∈ (grS ns).map (·.1), x ≤ m) → Q (.int m) H'
theorem ok_L_greatest (T : Txt P K mg) : Cal P w K mg base 1 "_law_greatest" (spGrt K) [] := by
  refine c_L_greatest T (fun vs H Q E h => ?_) fun cdv A outer s H vs Q E hr h => ?_
  · obtain ⟨a, ns, rfl, _⟩ := h
    rfl
  obtain ⟨a, ns, rfl, ha, hl, hQ⟩ := h
  refine ⟨_, (pss_cons (ps_set (i := 1) sc_L_greatest.nd rfl (by first | exact Or.inl rfl | exact Or.inr rfl) (pe_lst (pa_cons (pe_tup (pa_cons pe_int (pa_cons pe_int pa_nil))) pa_nil)))
      (pss_cons (ps_for PassesOwn.never rfl (pi_list (pv 0)) (pg_name (i := 2) sc_L_greatest.nd rfl (by first | exact Or.inl rfl | exact Or.inr rfl))
      (pss_cons (ps_set (i := 3) sc_L_greatest.nd rfl (by first | exact Or.inl rfl | exact Or.inr rfl) (pe_lst pa_nil))
      (pss_cons (ps_for PassesOwn.never rfl (pi_list (pv 1)) (pg_tup rfl (pgs_cons (pg_name (i := 4) sc_L_greatest.nd rfl (by first | exact Or.inl rfl | exact Or.inr rfl)) (pgs_cons (pg_name (i := 5) sc_L_greatest.nd rfl (by first | exact Or.inl rfl | exact Or.inr rfl)) pgs_nil)))
      (pss_one (ps_set (i := 3) sc_L_greatest.nd rfl (by first | exact Or.inl rfl | exact Or.inr rfl) (pe_op op_cat (pv 3) (pe_lc (own := [("_law_each", 6)]) (g := (gName 6)) (tt := tYes) rfl sc_L_greatest.nd (pi_tup (pe_ifExp (pt_cmpR op_ne (pv 5) pe_int (nomark _)) (pe_tup (pa_cons (pv 5) pa_nil)) (pe_tup (pa_cons pe_int (pa_cons (pe_un un_neg pe_int) pa_nil))))) (blkOk_by (own := [("_law_each", 6)]) (N := n_L_greatest) (sc := defScope s_L_greatest) (by decide +kernel)) (fun _ _ _ _ _ => (pg_name (i := 6) sc_L_greatest.nd rfl (by first | exact Or.inl rfl | exact Or.inr rfl))) (fun _ _ _ _ _ => pts_nil) (fun _ _ _ _ _ => (pe_tup (pa_cons (pe_op op_add (pv 4) (pe_op op_mul (pv 6) (pv 2))) (pa_cons (pe_un un_neg (pv 6)) pa_nil)))))))))
      (pss_one (ps_set (i := 1) sc_L_greatest.nd rfl (by first | exact Or.inl rfl | exact Or.inr rfl) (pe_op op_cat (pv 1) (pv 3)))))))
      (pss_one (ps_ret (pe_callB (cr_max rfl) (by rfl) (z_max T) (by decide +kernel) (pa_cons (pe_lc (own := [("_law_total", 4), ("_law_sign", 5)]) (g := (gTup K 2 (gCons (gName 4) (gCons (gName 5) gNil)))) (tt := tYes) rfl sc_L_greatest.nd (pi_list (pv 1)) (blkOk_by (own := [("_law_total", 4), ("_law_sign", 5)]) (N := n_L_greatest) (sc := defScope s_L_greatest) (by decide +kernel)) (fun _ _ _ _ _ => (pg_tup rfl (pgs_cons (pg_name (i := 4) sc_L_greatest.nd rfl (by first | exact Or.inl rfl | exact Or.inr rfl)) (pgs_cons (pg_name (i := 5) sc_L_greatest.nd rfl (by first | exact Or.inl rfl | exact Or.inr rfl)) pgs_nil)))) (fun _ _ _ _ _ => pts_nil) (fun _ _ _ _ _ => (pv 4))) pa_nil)))))), ?_⟩
  refine ⟨by show 2 ≤ sizeLine; decide, fun t0 ht0 => ⟨by show 1 ≤ sizeLine; decide, fun S0 hS0 => ?_⟩⟩
  have sA := same_new (o := .tup [.int 0, .int 0]) ht0
  have sB := same_new (o := .lst [.ref t0]) hS0
  have haS : ∀ {H'}, Same H H' → SqL K H' a (ns.map V.int) := fun e => e.seq ha
  refine ⟨_, rfl, a, rfl, ⟨_, haS (sA.trans sB)⟩, for_it walk_list (fun i σ H' => ∃ (e2 e3 e4 e5 e6 : Option V) (F : Addr) (xs : List V), σ = [some (.ref a), some (.ref F), e2, e3, e4, e5, e6] ∧ Same H H' ∧ H' F = some (.lst xs) ∧ PrL K H' xs (grS (ns.take i)) ∧ (∀ p ∈ grS (ns.take i), p.2 = 0 ∨ p.2 = 1 ∨ p.2 = -1) ∧ (grS (ns.take i)).length ≤ 3 ^ i)
    ⟨none, none, none, none, none, S0, [.ref t0], rfl, sA.trans sB, upd_same, .cons ⟨t0, rfl, Same.sqt sB (.inl (.inl upd_same))⟩ .nil, fun p hp => by rw [List.mem_singleton.mp hp]; exact .inl rfl, Nat.le_refl _⟩ (fun i σ H' _ ⟨_, _, _, _, _, _, _, _, e, _⟩ => haS e) ?_ ?_⟩
  · rintro i x σ H1 H2 hi ⟨e2, e3, e4, e5, e6, F, xs, rfl, sm, hF, hxs, hsg, hgl⟩ ⟨rfl, hx⟩
    obtain ⟨n, hn, rfl⟩ := at_map hx
    have hxl := Paired.length hxs
    have h36 : (3 : Nat) ^ i ≤ 3 ^ 6 := Nat.pow_le_pow_right (by decide) (by rw [List.length_map] at hi; omega)
    have h36v : (3 : Nat) ^ 6 = 729 := by decide
    refine ⟨Nat.zero_le _, fun M0 hM0 => ?_⟩
    have sM := same_new (o := .lst []) hM0
    refine ⟨_, rfl, F, rfl, ⟨xs, .inl (.inl (sM _ _ hF))⟩, for_it walk_list (fun j σ H' => ∃ (e4 e5 e6 : Option V) (M : Addr) (ys : List V), σ = [some (.ref a), some (.ref F), some (.int n), some (.ref M), e4, e5, e6] ∧ Same H2 H' ∧ H' M = some (.lst ys) ∧ PrL K H' ys (((grS (ns.take i)).take j).flatMap (grOne n)))
      ⟨_, _, _, M0, [], rfl, sM, upd_same, .nil⟩ (fun j σ H' _ ⟨_, _, _, _, _, _, e, _⟩ => e.seq (.inl (.inl hF))) ?_ ?_⟩
    · rintro j x σ HA HB hj ⟨e4, e5, e6, M, ys, rfl, s0B, hM, hys⟩ ⟨rfl, hx⟩
      obtain ⟨p, hp, xa, rfl, hP⟩ := paired_at hxs hx
      have hpz := hsg p (List.mem_of_getElem? hp)
      have hyl : ys.length ≤ 2 * j := by
        have h1 := Paired.length hys
        have h2 := flat_len n ((grS (ns.take i)).take j)
        have h3 := List.length_take_le j (grS (ns.take i))
        omega
      refine ⟨xa, _, rfl, Same.sqt s0B hP, rfl, _, _, rfl, _, _, rfl, rfl, ?_⟩
      refine ⟨_, rfl, _, rfl, rfl, _, rfl, ?_⟩
      by_cases c : p.2 = 0
      · rw [show (!decide (V.int p.2 = V.int 0)) = false by rw [c]; rfl]
        refine iteF ⟨_, rfl, by show 2 ≤ sizeLine; decide, fun u hu => ?_⟩
        have su := same_new (o := .tup [.int 1, .int (-1)]) hu
        have hut : SqT K (upd HB u (.tup [.int 1, .int (-1)])) u ([1, -1].map V.int) := .inl (.inl upd_same)
        refine ⟨u, rfl, ⟨_, hut⟩, fun D hD => lc_map walk_tup (fun k z H' => ∀ e, ([1, -1] : List Int)[k]? = some e → P2 K H' z (p.1 + e * n) (-e)) hD (fun _ _ _ _ im h e he => (h e he).im im) (by simp) (fun H' e => Same.sqt e hut) ?_ ?_⟩
        · rintro k x HD HE N Q1 hk sD ⟨rfl, hx⟩ hq
          obtain ⟨e, he, rfl⟩ := at_map hx
          have hes : e = 0 ∨ e = 1 ∨ e = -1 := by
            have := List.mem_of_getElem? he
            rcases List.mem_cons.mp this with h | h
            · exact .inr (.inl h)
            · exact .inr (.inr (List.mem_singleton.mp h))
          refine ⟨rfl, tyes ⟨_, rfl, _, rfl, _, rfl, _, _, rfl, rfl, .inl ⟨by omega, by omega⟩, _, _, rfl, rfl, _, rfl, _, rfl, by show 2 ≤ sizeLine; decide, fun q hq2 => hq _ _ (same_new hq2) fun e' he' => ?_⟩⟩
          rw [he] at he'
          cases he'
          exact ⟨q, rfl, .inl (.inl upd_same)⟩
        · rintro HD acc sD hacc hal haf
          have sBD : Same HB HD := su.trans fun b u e => sD b u e
          have hpr : PrL K HD acc ([1, -1].map fun e => (p.1 + e * n, -e)) := paired_of (by rw [hal, List.length_map, List.length_map]) fun k z m h1 h2 => by
            rw [List.getElem?_map] at h2
            obtain ⟨e, he, rfl⟩ := Option.map_eq_some_iff.mp h2
            exact haf k z h1 e he
          refine ⟨M, D, ys, acc, rfl, rfl, sBD _ _ hM, hacc, Nat.le_of_lt (sz_of (by have : acc.length ≤ 2 := (by rw [hal, List.length_map]; simp); omega)), fun q hq => ?_⟩
          have sq := same_new (o := .lst (ys ++ acc)) hq
          refine ⟨_, _, _, q, ys ++ acc, rfl, s0B.trans (sBD.trans sq), upd_same, ?_⟩
          rw [take_succ_at hp, List.flatMap_append, List.flatMap_cons, List.flatMap_nil, List.append_nil]
          refine paired_app (hys.im (Im.of (sBD.trans sq))) ?_
          rw [show grOne n p = ([1, -1].map fun e => (p.1 + e * n, -e)) from by unfold grOne; rw [if_neg (by rw [c]; decide)]; rfl]
          exact hpr.im (Im.of sq)
      · rw [show (!decide (V.int p.2 = V.int 0)) = true by rw [decide_eq_false (fun z => c (V.int.inj z))]; rfl]
        refine iteT ⟨_, rfl, by show 1 ≤ sizeLine; decide, fun u hu => ?_⟩
        have su := same_new (o := .tup [.int p.2]) hu
        have hut : SqT K (upd HB u (.tup [.int p.2])) u ([p.2].map V.int) := .inl (.inl upd_same)
        refine ⟨u, rfl, ⟨_, hut⟩, fun D hD => lc_map walk_tup (fun k z H' => ∀ e, ([p.2] : List Int)[k]? = some e → P2 K H' z (p.1 + e * n) (-e)) hD (fun _ _ _ _ im h e he => (h e he).im im) (by simp) (fun H' e => Same.sqt e hut) ?_ ?_⟩
        · rintro k x HD HE N Q1 hk sD ⟨rfl, hx⟩ hq
          obtain ⟨e, he, rfl⟩ := at_map hx
          have hes : e = 0 ∨ e = 1 ∨ e = -1 := by
            have := List.mem_of_getElem? he
            rw [List.mem_singleton.mp this]
            exact hpz
          refine ⟨rfl, tyes ⟨_, rfl, _, rfl, _, rfl, _, _, rfl, rfl, .inl ⟨by omega, by omega⟩, _, _, rfl, rfl, _, rfl, _, rfl, by show 2 ≤ sizeLine; decide, fun q hq2 => hq _ _ (same_new hq2) fun e' he' => ?_⟩⟩
          rw [he] at he'
          cases he'
          exact ⟨q, rfl, .inl (.inl upd_same)⟩
        · rintro HD acc sD hacc hal haf
          have sBD : Same HB HD := su.trans fun b u e => sD b u e
          have hpr : PrL K HD acc ([p.2].map fun e => (p.1 + e * n, -e)) := paired_of (by rw [hal, List.length_map, List.length_map]) fun k z m h1 h2 => by
            rw [List.getElem?_map] at h2
            obtain ⟨e, he, rfl⟩ := Option.map_eq_some_iff.mp h2
            exact haf k z h1 e he
          refine ⟨M, D, ys, acc, rfl, rfl, sBD _ _ hM, hacc, Nat.le_of_lt (sz_of (by have : acc.length ≤ 2 := (by rw [hal, List.length_map]; simp); omega)), fun q hq => ?_⟩
          have sq := same_new (o := .lst (ys ++ acc)) hq
          refine ⟨_, _, _, q, ys ++ acc, rfl, s0B.trans (sBD.trans sq), upd_same, ?_⟩
          rw [take_succ_at hp, List.flatMap_append, List.flatMap_cons, List.flatMap_nil, List.append_nil]
          refine paired_app (hys.im (Im.of (sBD.trans sq))) ?_
          rw [show grOne n p = ([p.2].map fun e => (p.1 + e * n, -e)) from by unfold grOne; rw [if_pos c]; rfl]
          exact hpr.im (Im.of sq)
    · rintro σ HA ⟨e4, e5, e6, M, ys, rfl, s0A, hM, hys⟩
      rw [hxl, List.take_length] at hys
      have hFA := s0A _ _ hF
      have hyl : ys.length ≤ 2 * 729 := by
        have h1 := Paired.length hys
        have h2 := flat_len n (grS (ns.take i))
        omega
      refine ⟨_, rfl, _, rfl, F, M, xs, ys, rfl, rfl, hFA, hM, Nat.le_of_lt (sz_of (by omega)), fun q hq => ?_⟩
      have sq := same_new (o := .lst (xs ++ ys)) hq
      have eg : grS (ns.take (i + 1)) = grNext (grS (ns.take i)) n := by
        unfold grS
        rw [take_succ_at hn, List.foldl_append]
        rfl
      refine ⟨_, _, _, _, _, q, xs ++ ys, rfl, sm.trans (s0A.trans sq), upd_same, ?_, ?_, ?_⟩
      · rw [eg]
        exact paired_app (hxs.im (Im.of (s0A.trans sq))) (hys.im (Im.of sq))
      · rw [eg]
        exact grNext_ok hsg
      · rw [eg]
        have := grNext_len (grS (ns.take i)) n
        rw [Nat.pow_succ]
        omega
  · rintro σ H1 ⟨e2, e3, e4, e5, e6, F, xs, rfl, sm, hF, hxs, hsg, hgl⟩
    rw [List.length_map, List.take_length] at hxs hgl
    have hxl := Paired.length hxs
    have h36 : (3 : Nat) ^ ns.length ≤ 3 ^ 6 := Nat.pow_le_pow_right (by decide) hl
    have h36v : (3 : Nat) ^ 6 = 729 := by decide
    refine ⟨_, rfl, F, rfl, ⟨xs, .inl (.inl hF)⟩, fun D hD => lc_map walk_list (fun k z _ => ∀ p, (grS ns)[k]? = some p → z = .int p.1) hD (fun _ _ _ _ _ h => h) (by omega) (fun H' e => e.seq (.inl (.inl hF))) ?_ ?_⟩
    · rintro k x H3 H4 N Q1 hk sD ⟨rfl, hx⟩ hq
      obtain ⟨p, hp, xa, rfl, hP⟩ := paired_at hxs hx
      refine ⟨xa, _, rfl, Same.sqt sD hP, rfl, _, _, rfl, _, _, rfl, rfl, rfl, tyes ⟨_, rfl, hq _ _ (Same.refl _) fun p' hp' => ?_⟩⟩
      rw [hp] at hp'
      cases hp'
      rfl
    · rintro H3 acc sD hacc hal hf
      have e : acc = ((grS ns).map (·.1)).map V.int := acc_ints (by rw [hal, List.length_map, hxl]) fun k z hz m hm => by
        rw [List.getElem?_map] at hm
        obtain ⟨p, hp, rfl⟩ := Option.map_eq_some_iff.mp hm
        exact hf k z hz p hp
      rw [e] at hacc
      have hpos : 0 < ((grS ns).map (·.1)).length := by
        have : ∀ (l : List Int) (S : List (Int × Int)), 0 < S.length → 0 < (l.foldl grNext S).length := by
          intro l
          induction l with
          | nil => exact fun S h => h
          | cons x l ih => exact fun S h => ih _ (by unfold grNext; rw [List.length_append]; omega)
        rw [List.length_map]
        exact this ns _ (by decide)
      exact ⟨D, _, rfl, .inl (.inl hacc), hpos, fun m hm hle => hQ m _ (sm.trans fun b u e => sD b u e) hm hle⟩
/-- the law's own state: heaps and hands as dicts -/
def HdV (H : Hp) (d : Addr) (L : List (Int × Int)) : Prop := H d = some (.dK (enc V.int L))
def LdV (H : Hp) (d : Addr) (ns : List Int) : Prop := H d = some (.dK (enc V.bl (ns.map fun y => (y, true))))
theorem drop_tr {ns : List Int} {y : Int} : dropL (ns.map fun z => (z, true)) y = (ns.filter fun z => decide (z ≠ y)).map fun z => (z, true) := by
  unfold dropL
  rw [List.filter_map]
  rfl
theorem put_tr {ns : List Int} {y : Int} (h : y ∉ ns) : putL (ns.map fun z => (z, true)) y true = (ns ++ [y]).map fun z => (z, true) := by
  rw [putL_new (by rw [keys_tr]; exact h), List.map_append]
  rfl
def spLSent (K : PySem.W.Frag) : Sp := fun vs H Q _ => ∃ (d1 d2 : Addr) (HL : List (Int × Int)) (ns : List Int) (B : Nat) (h : Int → Int) (L : Int → Bool), vs = [.ref d1, .ref d2] ∧ HdV H d1 HL ∧ LdV H d2 ns ∧ d1 ≠ d2 ∧ B ≤ 100 ∧ HpsOk B HL h ∧ LfsOk B ns L ∧
  ∀ (H' : Hp) (p e1 e2 : Addr) (HL' : List (Int × Int)) (ns' : List Int), Same H H' → H' p = some (.tup [.ref e1, .ref e2]) → HdV H' e1 HL' → LdV H' e2 ns' → e1 ≠ e2 → HpsOk (B + 1) HL' (stepH h L) → LfsOk B ns' (stepL h L) → H e1 = none → H e2 = none → Q (.ref p) H'
theorem ok_L_sent (T : Txt P K mg) : Cal P w K mg base 1 "_law_sent" (spLSent K) [] := by
  refine c_L_sent T (fun vs H Q E h => ?_) fun cdv A outer s H vs Q E hr h => ?_
  · obtain ⟨d1, d2, HL, ns, B, h, L, rfl, _⟩ := h
    rfl
  obtain ⟨d1, d2, HL, ns, B, h, L, rfl, hd1, hd2, nd, hB, hh, hL, hQ⟩ := h
  refine ⟨_, (pss_cons (ps_par (i := 2) (j := 3) rfl sc_L_sent.nd rfl rfl (by decide) rfl rfl (pa_cons pe_dnewK (pa_cons (pe_callTy call_dictD (by rfl) (z_dict T) (by decide +kernel) (pa_cons (pv 1) pa_nil)) pa_nil)) (by rfl))
      (pss_cons (ps_lock (ps_for PassesOwn.never rfl (pi_keys (pv 0)) (pg_name (i := 4) sc_L_sent.nd rfl (by first | exact Or.inl rfl | exact Or.inr rfl))
      (pss_cons (ps_par (i := 5) (j := 6) rfl sc_L_sent.nd rfl rfl (by decide) rfl rfl (pa_cons (pe_dget (hu_of hr) (pv 0) (pv 4) (fun _ _ => rfl)) (pa_cons (pe_cmp (pc_din (hu_of hr) (pv 4) (pv 1)) rfl) pa_nil)) (by rfl))
      (pss_cons (ps_set (i := 7) sc_L_sent.nd rfl (by first | exact Or.inl rfl | exact Or.inr rfl) (pe_op op_fdiv (pe_op op_add (pv 5) (pe_callTy call_int1 (by rfl) (z_int T) (by decide +kernel) (pa_cons (pv 6) pa_nil))) pe_int))
      (pss_cons (ps_dput (hu_of hr) (pv 2) (pe_op op_sub (pv 4) pe_int) (pe_op op_add (pe_dget2 (hu_of hr) (pv 2) (pe_op op_sub (pv 4) pe_int) pe_int ⟨rfl, rfl, rfl, rfl⟩) (pv 7)) rfl)
      (pss_cons (ps_dput (hu_of hr) (pv 2) (pe_op op_add (pv 4) pe_int) (pe_op op_sub (pe_op op_add (pe_dget2 (hu_of hr) (pv 2) (pe_op op_add (pv 4) pe_int) pe_int ⟨rfl, rfl, rfl, rfl⟩) (pv 5)) (pv 7)) rfl)
      (pss_one (ps_if (pt_cmpR op_eq (pe_op op_mod (pe_callTy call_int1 (by rfl) (z_int T) (by decide +kernel) (pa_cons (pv 5) pa_nil)) pe_int) pe_int (nomark _)) (pss_one (ps_if (pt_val (pv 6)) (pss_one (ps_expr (pe_dpop1 (pv 3) (pv 4) ⟨rfl, rfl, rfl, rfl⟩))) (pss_one (ps_dput (hu_of hr) (pv 3) (pv 4) pe_bl rfl)))) pss_nil))))))))
      (pss_one (ps_ret (pe_tup (pa_cons (pv 2) (pa_cons (pv 3) pa_nil))))))), ?_⟩
  have hd1' : H d1 = some (.dK (enc V.int HL)) := hd1
  have hd2' : H d2 = some (.dK (enc V.bl (ns.map fun y => (y, true)))) := hd2
  refine fun D1 hD1 => ?_
  have sD1 := same_new (o := .dK []) hD1
  refine ⟨_, rfl, d2, _, rfl, .inl (sD1 _ _ hd2'), fun D2 hD2 => ⟨_, _, rfl, ?_⟩⟩
  have sD2 := same_new (o := .dK (enc V.bl (ns.map fun y => (y, true)))) hD2
  have s12 := sD1.trans sD2
  have hD20 : H D2 = none := Same.back sD1 hD2
  have n1 : D1 ≠ d1 := (ne_of_none hd1' hD1).symm
  have n2 : D2 ≠ d1 := (ne_of_none hd1' hD20).symm
  have n12 : D1 ≠ D2 := fun z => by rw [← z, upd_same] at hD2; nomatch hD2
  have n3 : D1 ≠ d2 := (ne_of_none hd2' hD1).symm
  have n4 : D2 ≠ d2 := (ne_of_none hd2' hD20).symm
  have h1B : upd (upd H D1 (.dK [])) D2 (.dK (enc V.bl (ns.map fun y => (y, true)))) D1 = some (.dK (enc V.int [])) := sD2 _ _ upd_same
  have h2B : upd (upd H D1 (.dK [])) D2 (.dK (enc V.bl (ns.map fun y => (y, true)))) D2 = some (.dK (enc V.bl (ns.map fun y => (y, true)))) := upd_same
  have hdB := s12 _ _ hd1'
  have hd2B := s12 _ _ hd2'
  generalize upd (upd H D1 (.dK [])) D2 (.dK (enc V.bl (ns.map fun y => (y, true)))) = HB at s12 h1B h2B hdB hd2B
  refine ⟨d1, _, hdB, True.intro, fun od => ⟨_, rfl, d1, od, rfl, .inl ⟨enc V.int HL, upd_same, ?_⟩⟩⟩
  have hLL : upd HB d1 (.frz od (.dK (enc V.int HL))) d1 = some (.frz od (.dK (enc V.int HL))) := upd_same
  have h1L : upd HB d1 (.frz od (.dK (enc V.int HL))) D1 = some (.dK (enc V.int [])) := by rw [upd_ne n1]; exact h1B
  have h2L : upd HB d1 (.frz od (.dK (enc V.int HL))) D2 = some (.dK (enc V.bl (ns.map fun y => (y, true)))) := by rw [upd_ne n2]; exact h2B
  have hdL : upd HB d1 (.frz od (.dK (enc V.int HL))) d2 = some (.dK (enc V.bl (ns.map fun y => (y, true)))) := by rw [upd_ne nd.symm]; exact hd2B
  have exL : Ex [d1] HB (upd HB d1 (.frz od (.dK (enc V.int HL)))) := Ex.mut (by simp)
  generalize upd HB d1 (.frz od (.dK (enc V.int HL))) = HL0 at hLL h1L h2L hdL exL
  have hHl := hh.len
  refine for_it walk_keys (fun i σ H' => ∃ (e4 e5 e6 e7 : Option V) (LT : List (Int × Int)) (hn : List Int), σ = [some (.ref d1), some (.ref d2), some (.ref D1), some (.ref D2), e4, e5, e6, e7] ∧ Ex [D1, D2] HL0 H' ∧ H' D1 = some (.dK (enc V.int LT)) ∧ H' D2 = some (.dK (enc V.bl (hn.map fun y => (y, true)))) ∧
      (keysL LT).Nodup ∧ (∀ y, at0 LT y = sentTo h L ((keysL HL).take i) y) ∧ (∀ y ∈ keysL LT, -((B + 1 : Nat) : Int) ≤ y ∧ y ≤ (B + 1 : Nat)) ∧ LfsOk B hn (turnL h L ((keysL HL).take i)))
    ⟨none, none, none, none, [], ns, rfl, Ex.refl _ _, h1L, h2L, List.nodup_nil, fun y => rfl, fun y hy => (nomatch hy), ⟨hL.nd, fun y => by unfold turnL; rw [if_neg (fun z => nomatch z.1)]; exact hL.at_ y, hL.span⟩⟩ (fun i σ H' _ ⟨_, _, _, _, _, _, _, e, _⟩ => e d1 _ (by simp [n1.symm, n2.symm]) hLL) ?_ ?_
  · rintro i x σ H3 H4 hi ⟨e4, e5, e6, e7, LT, hn, rfl, ex, h13, h23, nLT, aLT, sLT, oL⟩ ⟨rfl, k, v, hkv, rfl⟩
    unfold enc at hkv
    rw [List.getElem?_map] at hkv
    obtain ⟨q, hq, eq⟩ := Option.map_eq_some_iff.mp hkv
    cases eq
    have hky : (keysL HL)[i]? = some q.1 := by unfold keysL; rw [List.getElem?_map, hq]; rfl
    have hys := hh.span q.1 (List.mem_of_getElem? hky)
    have hqm := hh.mem (List.mem_of_getElem? hq)
    have hg := getL_of hh.nd (k := q.1) (v := q.2) (List.mem_of_getElem? hq)
    have hd4 : H4 d1 = some (.frz od (.dK (enc V.int HL))) := ex d1 _ (by simp [n1.symm, n2.symm]) hLL
    have hd24 : H4 d2 = some (.dK (enc V.bl (ns.map fun y => (y, true)))) := ex d2 _ (by simp [n3.symm, n4.symm]) hdL
    have hgv : DGet H4 d1 (.int q.1) (some (.int q.2)) := by
      have z := DGet.fi hd4 q.1
      rw [hg] at z
      exact z
    refine ⟨_, rfl, _, rfl, d1, _, rfl, hgv, _, rfl, _, rfl, d2, _, rfl, DGet.i hd24 q.1, _, _, rfl, ?_⟩
    rw [isSome_tr hL]
    rw [hqm]
    generalize q.1 = y at hky hys
    have hll := span_len nLT sLT
    unfold keysL at hll
    rw [List.length_map] at hll
    refine ⟨_, rfl, _, rfl, .inr ⟨_, rfl, _, _, rfl, rfl, _, _, rfl, rfl, ⟨by decide, by decide⟩, ?_⟩⟩
    have elf : (h y + if L y = true then 1 else 0) / 2 = lft h L y := by
      unfold lft
      cases L y
      · rw [if_neg (by decide), if_neg (by decide)]; congr 1; omega
      · rw [if_pos rfl, if_pos rfl]; omega
    refine ⟨_, rfl, D1, rfl, .inl ⟨_, .inl h13⟩, _, rfl, _, _, rfl, rfl, _, DGet.i h13 (y - 1), ?_⟩
    rw [getD_int]
    refine ⟨_, rfl, _, _, rfl, rfl, _, rfl, _, rfl, _, _, rfl, rfl, D1, _, rfl, DPut.i h13 (y - 1) (at0 LT (y - 1) + (h y + if L y = true then 1 else 0) / 2) rfl (by omega), ?_⟩
    rw [elf]
    have h14 : upd H4 D1 (.dK (enc V.int (putL LT (y - 1) (at0 LT (y - 1) + lft h L y)))) D1 = some (.dK (enc V.int (putL LT (y - 1) (at0 LT (y - 1) + lft h L y)))) := upd_same
    have h24 : upd H4 D1 (.dK (enc V.int (putL LT (y - 1) (at0 LT (y - 1) + lft h L y)))) D2 = some (.dK (enc V.bl (hn.map fun y => (y, true)))) := by rw [upd_ne n12.symm]; exact h23
    have ex4 : Ex [D1, D2] HL0 (upd H4 D1 (.dK (enc V.int (putL LT (y - 1) (at0 LT (y - 1) + lft h L y))))) := ex.trans (Ex.mut (by simp))
    generalize upd H4 D1 (.dK (enc V.int (putL LT (y - 1) (at0 LT (y - 1) + lft h L y)))) = H5 at h14 h24 ex4
    generalize hLT1 : putL LT (y - 1) (at0 LT (y - 1) + lft h L y) = LT1 at h14
    have nLT1 : (keysL LT1).Nodup := by rw [← hLT1]; exact nd_put nLT
    have aLT1 : ∀ z, at0 LT1 z = if z = y - 1 then sentTo h L ((keysL HL).take i) (y - 1) + lft h L y else sentTo h L ((keysL HL).take i) z := fun z => by rw [← hLT1, at0_put, aLT, aLT]
    have sLT1 : ∀ z ∈ keysL LT1, -((B + 1 : Nat) : Int) ≤ z ∧ z ≤ (B + 1 : Nat) := fun z hz => by
      rw [← hLT1] at hz
      rcases mem_put.mp hz with rfl | hz
      · omega
      · exact sLT z hz
    have hll1 := span_len nLT1 sLT1
    unfold keysL at hll1
    rw [List.length_map] at hll1
    refine ⟨_, rfl, D1, rfl, .inl ⟨_, .inl h14⟩, _, rfl, _, _, rfl, rfl, _, DGet.i h14 (y + 1), ?_⟩
    rw [getD_int]
    refine ⟨_, rfl, _, _, rfl, rfl, _, rfl, _, _, rfl, rfl, _, rfl, _, rfl, _, _, rfl, rfl, D1, _, rfl, DPut.i h14 (y + 1) (at0 LT1 (y + 1) + h y - (h y + if L y = true then 1 else 0) / 2) rfl (by omega), ?_⟩
    rw [elf]
    have h15 : upd H5 D1 (.dK (enc V.int (putL LT1 (y + 1) (at0 LT1 (y + 1) + h y - lft h L y)))) D1 = some (.dK (enc V.int (putL LT1 (y + 1) (at0 LT1 (y + 1) + h y - lft h L y)))) := upd_same
    have h25 : upd H5 D1 (.dK (enc V.int (putL LT1 (y + 1) (at0 LT1 (y + 1) + h y - lft h L y)))) D2 = some (.dK (enc V.bl (hn.map fun y => (y, true)))) := by rw [upd_ne n12.symm]; exact h24
    have ex5 : Ex [D1, D2] HL0 (upd H5 D1 (.dK (enc V.int (putL LT1 (y + 1) (at0 LT1 (y + 1) + h y - lft h L y))))) := ex4.trans (Ex.mut (by simp))
    generalize upd H5 D1 (.dK (enc V.int (putL LT1 (y + 1) (at0 LT1 (y + 1) + h y - lft h L y)))) = H6 at h15 h25 ex5
    generalize hLT2 : putL LT1 (y + 1) (at0 LT1 (y + 1) + h y - lft h L y) = LT2 at h15
    have nLT2 : (keysL LT2).Nodup := by rw [← hLT2]; exact nd_put nLT1
    have aLT2 : ∀ z, at0 LT2 z = sentTo h L ((keysL HL).take (i + 1)) z := fun z => by
      rw [← hLT2, at0_put, aLT1, aLT1, take_succ_at hky, sentTo_snoc]
      unfold rgt
      by_cases c1 : z = y + 1
      · rw [if_pos c1, if_neg (by omega), if_neg (by omega), if_pos (by omega), c1]; omega
      · by_cases c2 : z = y - 1
        · rw [if_neg c1, if_pos c2, if_pos (by omega), if_neg (by omega), c2]; omega
        · rw [if_neg c1, if_neg c2, if_neg (by omega), if_neg (by omega)]; omega
    have sLT2 : ∀ z ∈ keysL LT2, -((B + 1 : Nat) : Int) ≤ z ∧ z ≤ (B + 1 : Nat) := fun z hz => by
      rw [← hLT2] at hz
      rcases mem_put.mp hz with rfl | hz
      · omega
      · exact sLT1 z hz
    have ny : y ∉ (keysL HL).take i := by
      have n := nodup_next (f := id) (by rw [List.map_id]; exact hh.nd) hky
      rw [List.map_id] at n
      exact n
    have tyL : turnL h L ((keysL HL).take i) y = L y := by unfold turnL; rw [if_neg (fun w => ny w.1)]
    have hnl := span_len oL.nd oL.span
    have other : ∀ z, z ≠ y → turnL h L ((keysL HL).take (i + 1)) z = turnL h L ((keysL HL).take i) z := fun z hz => by
      rw [take_succ_at hky]
      unfold turnL
      by_cases cd : z ∈ (keysL HL).take i ∧ h z % 2 = 1
      · rw [if_pos cd, if_pos ⟨List.mem_append_left _ cd.1, cd.2⟩]
      · rw [if_neg cd, if_neg (fun w => cd ⟨(List.mem_append.mp w.1).elim id (fun v => absurd (List.mem_singleton.mp v) hz), w.2⟩)]
    refine ⟨_, rfl, .inl ⟨_, rfl, _, _, rfl, rfl, (by decide : (0 : Int) < 2), rfl, _, rfl, ?_⟩⟩
    by_cases c : h y % 2 = 1
    · have same1 : turnL h L ((keysL HL).take (i + 1)) y = !L y := by
        rw [take_succ_at hky]
        unfold turnL
        rw [if_pos ⟨List.mem_append_right _ (List.mem_singleton.mpr rfl), c⟩]
      rw [decide_eq_true (show V.int (h y % 2) = V.int 1 by rw [c])]
      cases hLy : L y with
      | true =>
        rw [hLy] at tyL same1
        have hyn : y ∈ hn := (oL.at_ y).mpr tyL
        have hgt : getL (hn.map fun z => (z, true)) y = some true := getL_of (by rw [keys_tr]; exact oL.nd) (List.mem_map.mpr ⟨y, hyn, rfl⟩)
        refine iteT ⟨_, rfl, _, rfl, iteT ⟨_, rfl, D2, rfl, .inl ⟨_, .inl h25⟩, _, rfl, _, Sum.inl y, .bl true, h25, rfl, by rw [valV_enc, hgt]; rfl, ?_⟩⟩
        refine ⟨_, _, _, _, LT2, hn.filter fun z => decide (z ≠ y), rfl, ex5.trans (Ex.mut (by simp)), by rw [upd_ne n12]; exact h15, by rw [upd_same, dropK_enc, drop_tr], nLT2, aLT2, sLT2, ⟨oL.nd.filter _, fun z => ?_, fun z hz => oL.span z (List.mem_filter.mp hz).1⟩⟩
        rw [List.mem_filter]
        by_cases cz : z = y
        · rw [cz, same1]
          exact ⟨fun w => absurd rfl (of_decide_eq_true w.2), fun w => by nomatch w⟩
        · rw [other z cz]
          exact ⟨fun w => (oL.at_ z).mp w.1, fun w => ⟨(oL.at_ z).mpr w, decide_eq_true cz⟩⟩
      | false =>
        rw [hLy] at tyL same1
        have hyn : y ∉ hn := fun z => by
          have := (oL.at_ y).mp z
          rw [tyL] at this
          nomatch this
        refine iteT ⟨_, rfl, _, rfl, iteF ⟨_, rfl, _, rfl, D2, _, rfl, DPut.i h25 y true rfl (by rw [List.length_map]; omega), ?_⟩⟩
        refine ⟨_, _, _, _, LT2, hn ++ [y], rfl, ex5.trans (Ex.mut (by simp)), by rw [upd_ne n12]; exact h15, by rw [upd_same, put_tr hyn], nLT2, aLT2, sLT2, ⟨?_, fun z => ?_, fun z hz => ?_⟩⟩
        · rw [List.nodup_append]
          exact ⟨oL.nd, List.nodup_cons.mpr ⟨fun z => (nomatch z), List.nodup_nil⟩, fun a ha b hb e => hyn (by rw [← List.mem_singleton.mp hb, ← e]; exact ha)⟩
        · by_cases cz : z = y
          · rw [cz, same1]
            exact ⟨fun _ => rfl, fun _ => List.mem_append_right _ (List.mem_singleton.mpr rfl)⟩
          · rw [other z cz, List.mem_append, List.mem_singleton]
            exact ⟨fun w => (oL.at_ z).mp (w.elim id fun v => absurd v cz), fun w => .inl ((oL.at_ z).mpr w)⟩
        · rcases List.mem_append.mp hz with hz | hz
          · exact oL.span z hz
          · rw [List.mem_singleton.mp hz]; exact hys
    · rw [decide_eq_false (show ¬ V.int (h y % 2) = V.int 1 from fun z => c (V.int.inj z))]
      refine iteF ⟨_, _, _, _, LT2, hn, rfl, ex5, h15, h25, nLT2, aLT2, sLT2, ⟨oL.nd, fun z => ?_, oL.span⟩⟩
      rw [oL.at_ z]
      by_cases cz : z = y
      · rw [cz, take_succ_at hky]
        unfold turnL
        rw [if_neg (fun w => c w.2), if_neg (fun w => c w.2)]
      · rw [other z cz]
  · rintro σ H3 ⟨e4, e5, e6, e7, LT, hn, rfl, ex, h13, h23, nLT, aLT, sLT, oL⟩
    rw [enc_len, show HL.length = (keysL HL).length by unfold keysL; rw [List.length_map], List.take_length] at aLT oL
    have hd3 : H3 d1 = some (.frz od (.dK (enc V.int HL))) := ex d1 _ (by simp [n1.symm, n2.symm]) hLL
    refine ⟨hd3, ?_⟩
    have exF : Ex [D1, D2] HB (upd H3 d1 (.dK (enc V.int HL))) := Ex.unlock hdB (Ex.trans (fun b u n e => exL b u (fun z => n (by rw [List.mem_singleton.mp z]; simp)) e) ex.more)
    have smF : Same H (upd H3 d1 (.dK (enc V.int HL))) := Ex.same s12 (fun b hb => by
      rcases List.mem_cons.mp hb with hb | hb
      · rw [hb]; exact hD1
      · rw [List.mem_singleton.mp hb]; exact hD20) exF
    refine ⟨_, rfl, _, rfl, by show 2 ≤ sizeLine; decide, fun p hp => ?_⟩
    have sp := same_new (o := .tup [.ref D1, .ref D2]) hp
    refine hQ _ p D1 D2 LT hn (smF.trans sp) upd_same (sp _ _ (by rw [upd_ne n1]; exact h13)) (sp _ _ (by rw [upd_ne n2]; exact h23)) n12 ⟨nLT, fun y => (aLT y).trans (sentTo_all hh.nd (fun z hz => hh.zero hz) y), stepH_nn hh.nn, sLT⟩ ⟨oL.nd, fun y => ?_, oL.span⟩ hD1 hD20
    rw [oL.at_ y]
    unfold turnL stepL
    by_cases c : h y % 2 = 1
    · have hy : y ∈ keysL HL := Decidable.by_contra fun z => by rw [hh.zero z] at c; nomatch c
      rw [if_pos ⟨hy, c⟩, if_pos c]
    · rw [if_neg (fun w => c w.2), if_neg c]
def spWithin (K : PySem.W.Frag) : Sp := fun vs H Q _ => ∃ (last : Nat) (lo hi g : Int) (x y : V), vs = [x, .int g, y, .int last] ∧ last ≤ 8 ∧ FrV K last lo x H ∧ FrV K last hi y H ∧ lo.natAbs < 2 ^ 2000 ∧ hi.natAbs < 2 ^ 2000 ∧ Q (.bl (decide (lo ≤ g) && decide (g ≤ hi))) H
theorem ok_L_is_within (T : Txt P K mg) : Cal P w K mg base 1 "_law_is_within" (spWithin K) [] := by
  refine c_L_is_within T (fun vs H Q E h => ?_) fun cdv A outer s H vs Q E hr h => ?_
  · obtain ⟨last, lo, hi, g, x, y, rfl, _⟩ := h
    rfl
  obtain ⟨last, lo, hi, g, x, y, rfl, hl8, ⟨a, rfl, ha⟩, ⟨b, rfl, hb⟩, hlo, hhi, hQ⟩ := h
  refine ⟨_, (pss_one (ps_ret (pe_and (pe_cmpR op_le (pe_op op_shlW (pe_ix (r := rIxT K) ix_tup (pv 0) pe_int (fun _ _ => rfl)) (pv 3)) (pe_op op_mul (pv 1) (pe_ix (r := rIxT K) ix_tup (pv 0) pe_int (fun _ _ => rfl))) (nomark _)) (pe_one (pe_cmpR op_le (pe_op op_mul (pv 1) (pe_ix (r := rIxT K) ix_tup (pv 2) pe_int (fun _ _ => rfl))) (pe_op op_shlW (pe_ix (r := rIxT K) ix_tup (pv 2) pe_int (fun _ _ => rfl)) (pv 3)) (nomark _)))))), ?_⟩
  have sa := frac_sm (show last ≤ 12 by omega) lo
  have sb := frac_sm (show last ≤ 12 by omega) hi
  have e1 : CShl (frac last lo).1 (last : Int) := shl_ok (n := 2000) (Nat.lt_of_le_of_lt (frac_abs last lo) hlo) (by omega)
  have e2 : CShl (frac last hi).1 (last : Int) := shl_ok (n := 2000) (Nat.lt_of_le_of_lt (frac_abs last hi) hhi) (by omega)
  refine ⟨_, rfl, _, _, _, _, rfl, rfl, ha, rfl, _, rfl, _, _, rfl, rfl, e1, _, rfl, _, rfl, _, _, _, _, rfl, rfl, ha, rfl, _, _, rfl, rfl, .inr ⟨by omega, by omega⟩, _, _, rfl, rfl, _, rfl, ?_⟩
  have q1 : decide ((frac last lo).1 * 2 ^ ((last : Int)).toNat ≤ g * (frac last lo).2) = decide (lo ≤ g) := by
    rw [Int.toNat_natCast]
    exact decide_eq_decide.mpr (frac_le_iff last lo g)
  have q2 : decide (g * (frac last hi).2 ≤ (frac last hi).1 * 2 ^ ((last : Int)).toNat) = decide (g ≤ hi) := by
    rw [Int.toNat_natCast]
    exact decide_eq_decide.mpr (frac_ge_iff last hi g)
  rw [q1]
  cases h1 : decide (lo ≤ g) with
  | false =>
    rw [h1] at hQ
    exact iteF hQ
  | true =>
    rw [h1] at hQ
    refine iteT ⟨_, rfl, _, rfl, _, _, _, _, rfl, rfl, hb, rfl, _, _, rfl, rfl, .inr ⟨by omega, by omega⟩, _, rfl, _, _, _, _, rfl, rfl, hb, rfl, _, rfl, _, _, rfl, rfl, e2, _, _, rfl, rfl, ?_⟩
    show Q (.bl (decide (g * (frac last hi).2 ≤ (frac last hi).1 * 2 ^ ((last : Int)).toNat))) H
    rw [q2]
    exact hQ
end
end K86
end
section
set_option Elab.async false
set_option linter.all false
set_option maxRecDepth 100000
namespace K86
open PySem PySem.Spec PyProof.Rows L2
open C8 (Cal Met Mak pe_c pe_mk pe_mt pe_mt0)
section
variable {P : Program} {w : World} {K : PySem.W.Frag} {mg : Str → Option Value} {base : Heap}
/-- one row's part of the gap, at scale last -/
def gapOne (last : Nat) (ps : List (Int × Int)) (h : Int → Int) (L : Int → Bool) (r : Int × Int × Int) : Int := r.2.2 * ((runS h L r.2.1.toNat).1 r.1 * 2 ^ last - meanI ps r.1 r.2.1.toNat * 2 ^ (last - r.2.1.toNat))
def gapTo (last : Nat) (rs : List (Int × Int × Int)) (ps : List (Int × Int)) (h : Int → Int) (L : Int → Bool) (n : Nat) : Int := ((List.range n).map fun t : Nat => ((rs.filter fun r => decide (r.2.1 = (t : Int))).map (gapOne last ps h L)).sum).sum
def spLGap (K : PySem.W.Frag) : Sp := fun vs H Q _ => ∃ (a : Addr) (xs : List V) (rs : List (Int × Int × Int)) (last : Nat) (a1 : Addr) (b1 : Bool) (ys : List V) (ps : List (Int × Int)) (a2 : Addr) (ns : List Int) (B : Nat) (h : Int → Int) (L : Int → Bool), vs = [.ref a, .ref a1, .ref a2, .int last] ∧ H a = some (.lst xs) ∧ RwL K H xs rs ∧ rs.length ≤ 40 ∧ last ≤ 8 ∧ (∀ r ∈ rs, rowIn last r) ∧
  SqB K b1 H a1 ys ∧ PrL K H ys ps ∧ SqL K H a2 (ns.map V.int) ∧ B ≤ 80 ∧ HpsOk B ps h ∧ LfsOk B ns L ∧ (∀ y, h y ≤ 10 ^ 60) ∧ RetV H Q fun v _ => v = .int (gapTo last rs ps h L (last + 1))
theorem ok_L_gap (T : Txt P K mg) : Cal P w K mg base 2 "_law_gap" (spLGap K) [] := by
  have h_L_paths := ok_L_paths (P := P) (w := w) (base := base) T
  have h_L_share := ok_L_share (P := P) (w := w) (base := base) T
  have h_L_sent := ok_L_sent (P := P) (w := w) (base := base) T
  refine c_L_gap T (fun vs H Q E h => ?_) fun cdv A outer s H vs Q E hr h => ?_
  · obtain ⟨a, xs, rs, last, a1, b1, ys, ps, a2, ns, B, h, L, rfl, _⟩ := h
    rfl
  obtain ⟨a, xs, rs, last, a1, b1, ys, ps, a2, ns, B, h, L, rfl, ha, hrs, hrl, hl8, hin, ha1, hps, ha2, hB, hh, hL, hM, hQ⟩ := h
  refine ⟨_, (pss_cons (ps_asg (pe_tup (pa_cons (pe_callTy (cr_dictX rfl) (by rfl) (z_dict T) (by decide +kernel) (pa_cons (pe_lc (own := [("_law_spot", 14), ("_law_many", 15)]) (g := (gTup K 2 (gCons (gName 14) (gCons (gName 15) gNil)))) (tt := tYes) rfl sc_L_gap.nd (pi_or (pi_list (pv 1)) (pi_tup (pv 1))) (blkOk_by (own := [("_law_spot", 14), ("_law_many", 15)]) (N := n_L_gap) (sc := defScope s_L_gap) (by decide +kernel)) (fun _ _ _ _ _ => (pg_tup rfl (pgs_cons (pg_name (i := 14) sc_L_gap.nd rfl (by first | exact Or.inl rfl | exact Or.inr rfl)) (pgs_cons (pg_name (i := 15) sc_L_gap.nd rfl (by first | exact Or.inl rfl | exact Or.inr rfl)) pgs_nil)))) (fun _ _ _ _ _ => pts_nil) (fun _ _ _ _ _ => (pe_tup (pa_cons (pv 14) (pa_cons (pv 15) pa_nil))))) pa_nil)) (pa_cons (pe_callTy (cr_dictX rfl) (by rfl) (z_dict T) (by decide +kernel) (pa_cons (pe_lc (own := [("_law_spot", 14)]) (g := (gName 14)) (tt := tYes) rfl sc_L_gap.nd (pi_list (pv 2)) (blkOk_by (own := [("_law_spot", 14)]) (N := n_L_gap) (sc := defScope s_L_gap) (by decide +kernel)) (fun _ _ _ _ _ => (pg_name (i := 14) sc_L_gap.nd rfl (by first | exact Or.inl rfl | exact Or.inr rfl))) (fun _ _ _ _ _ => pts_nil) (fun _ _ _ _ _ => (pe_tup (pa_cons (pv 14) (pa_cons pe_bl pa_nil))))) pa_nil)) (pa_cons (pe_c h_L_paths hr (by decide) (by rfl) (pa_cons (pv 3) pa_nil)) (pa_cons pe_int pa_nil))))) (pg_tup rfl (pgs_cons (pg_name (i := 4) sc_L_gap.nd rfl (by first | exact Or.inl rfl | exact Or.inr rfl)) (pgs_cons (pg_name (i := 5) sc_L_gap.nd rfl (by first | exact Or.inl rfl | exact Or.inr rfl)) (pgs_cons (pg_name (i := 6) sc_L_gap.nd rfl (by first | exact Or.inl rfl | exact Or.inr rfl)) (pgs_cons (pg_name (i := 7) sc_L_gap.nd rfl (by first | exact Or.inl rfl | exact Or.inr rfl)) pgs_nil))))))
      (pss_cons (ps_for PassesOwn.never rfl (pi_range1 rfl (z_range T) (pa_cons (pe_op op_add (pv 3) pe_int) pa_nil)) (pg_name (i := 8) sc_L_gap.nd rfl (by first | exact Or.inl rfl | exact Or.inr rfl))
      (pss_cons (ps_for PassesOwn.never rfl (pi_list (pe_lc (own := [("_law_row", 13)]) (g := (gName 13)) rfl sc_L_gap.nd (pi_list (pv 0)) (blkOk_by (own := [("_law_row", 13)]) (N := n_L_gap) (sc := defScope s_L_gap) (by decide +kernel)) (fun _ _ _ _ _ => (pg_name (i := 13) sc_L_gap.nd rfl (by first | exact Or.inl rfl | exact Or.inr rfl))) (fun _ _ _ _ _ => (pts_one (pt_cmpR op_eq (pe_ix (r := rIxT K) ix_tup (pv 13) pe_int (fun _ _ => rfl)) (pv 8) (nomark _)))) (fun _ _ _ _ _ => (pv 13)))) (pg_tup rfl (pgs_cons (pg_name (i := 9) sc_L_gap.nd rfl (by first | exact Or.inl rfl | exact Or.inr rfl)) (pgs_cons (pg_name (i := 10) sc_L_gap.nd rfl (by first | exact Or.inl rfl | exact Or.inr rfl)) (pgs_cons (pg_name (i := 11) sc_L_gap.nd rfl (by first | exact Or.inl rfl | exact Or.inr rfl)) pgs_nil))))
      (pss_cons (ps_set (i := 12) sc_L_gap.nd rfl (by first | exact Or.inl rfl | exact Or.inr rfl) (pe_callB (cr_sum rfl) (by rfl) (z_sum T) (by decide +kernel) (pa_cons (pe_lc (own := [("_law_spot", 14), ("_law_many", 15)]) (g := (gTup K 2 (gCons (gName 14) (gCons (gName 15) gNil)))) (tt := tYes) rfl sc_L_gap.nd (pi_or (pi_list (pv 1)) (pi_tup (pv 1))) (blkOk_by (own := [("_law_spot", 14), ("_law_many", 15)]) (N := n_L_gap) (sc := defScope s_L_gap) (by decide +kernel)) (fun _ _ _ _ _ => (pg_tup rfl (pgs_cons (pg_name (i := 14) sc_L_gap.nd rfl (by first | exact Or.inl rfl | exact Or.inr rfl)) (pgs_cons (pg_name (i := 15) sc_L_gap.nd rfl (by first | exact Or.inl rfl | exact Or.inr rfl)) pgs_nil)))) (fun _ _ _ _ _ => pts_nil) (fun _ _ _ _ _ => (pe_op op_mul (pv 15) (pe_c h_L_share hr (by decide) (by rfl) (pa_cons (pv 6) (pa_cons (pv 10) (pa_cons (pe_op op_sub (pv 9) (pv 14)) pa_nil))))))) pa_nil)))
      (pss_one (ps_set (i := 7) sc_L_gap.nd rfl (by first | exact Or.inl rfl | exact Or.inr rfl) (pe_op op_add (pv 7) (pe_op op_mul (pv 11) (pe_op op_sub (pe_op op_shlW (pe_dget2 (hu_of hr) (pv 4) (pv 9) pe_int ⟨rfl, rfl, rfl, rfl⟩) (pv 3)) (pe_op op_mul (pv 12) (pe_op op_shl pe_int (pe_op op_sub (pv 3) (pv 10)))))))))))
      (pss_one (ps_asg (pe_c h_L_sent hr (by decide) (by rfl) (pa_cons (pv 4) (pa_cons (pv 5) pa_nil))) (pg_tup rfl (pgs_cons (pg_name (i := 4) sc_L_gap.nd rfl (by first | exact Or.inl rfl | exact Or.inr rfl)) (pgs_cons (pg_name (i := 5) sc_L_gap.nd rfl (by first | exact Or.inl rfl | exact Or.inr rfl)) pgs_nil)))))))
      (pss_one (ps_ret (pv 7))))), ?_⟩
  have hyl : ys.length = ps.length := Paired.length hps
  have hxl : xs.length = rs.length := Paired.length hrs
  have hpl := hh.len
  have hnl := span_len hL.nd hL.span
  have haS : ∀ {H'}, Same H H' → SqL K H' a xs := fun e => e.seq (.inl (.inl ha))
  -- the two dicts
  refine sq_or rfl ha1 fun J wk D hD => lc_map wk (fun i z H' => ∀ p, ps[i]? = some p → ∃ t, z = .ref t ∧ SqT K H' t [.int p.1, .int p.2]) hD (fun _ _ _ _ e h p hp => let ⟨t, h1, h2⟩ := h p hp; ⟨t, h1, e.sqt h2⟩) (by omega) (fun H' e => ha1.mono e) (fun i x H1 H2 N Q1 hi sm ⟨e, hx⟩ hq => ?_) fun H2 acc sm hacc hal hf => ?_
  · obtain ⟨p, hp, xa, rfl, hP⟩ := paired_at hps hx
    subst e
    refine ⟨xa, _, rfl, Same.sqt sm hP, rfl, _, _, rfl, _, _, rfl, rfl, rfl, tyes ⟨_, rfl, _, rfl, by show 2 ≤ sizeLine; decide, fun q hq2 => hq _ _ (same_new hq2) fun p' hp' => ?_⟩⟩
    rw [hp] at hp'
    cases hp'
    exact ⟨q, rfl, .inl (.inl upd_same)⟩
  have smA : Same H H2 := fun b u e => sm b u e
  refine ⟨Int, V.int, D, acc, ps, rfl, .inl (.inl (.inl hacc)), paired_of (by rw [hal, hyl]) fun i x p h1 h2 => hf i x h1 p h2, hh.nd, by omega, fun d1 hd1 => ?_⟩
  have s1 := same_new (o := .dK (enc V.int ps)) hd1
  have sm1 := smA.trans s1
  refine ⟨_, rfl, a2, rfl, ⟨_, sm1.seq ha2⟩, fun D2 hD2 => lc_map walk_list (fun i z H' => ∀ y, ns[i]? = some y → ∃ t, z = .ref t ∧ SqT K H' t [.int y, .bl true]) hD2 (fun _ _ _ _ e h p hp => let ⟨t, h1, h2⟩ := h p hp; ⟨t, h1, e.sqt h2⟩) (by rw [List.length_map]; omega) (fun H' e => (sm1.trans e).seq ha2) ?_ ?_⟩
  · rintro i x H3 H4 N Q1 hi s3 ⟨rfl, hx⟩ hq
    obtain ⟨y, hy, rfl⟩ := at_map hx
    refine ⟨rfl, tyes ⟨_, rfl, by show 2 ≤ sizeLine; decide, fun q hq2 => hq _ _ (same_new hq2) fun y' hy' => ?_⟩⟩
    rw [hy] at hy'
    cases hy'
    exact ⟨q, rfl, .inl (.inl upd_same)⟩
  rintro H3 acc2 sm3 hacc2 hal2 hf2
  have s3 : Same (upd H2 d1 (.dK (enc V.int ps))) H3 := fun b u e => sm3 b u e
  have hd13 : H3 d1 = some (.dK (enc V.int ps)) := s3 _ _ upd_same
  refine ⟨Bool, V.bl, D2, acc2, ns.map fun y => (y, true), rfl, .inl (.inl (.inl hacc2)), paired_of (by rw [hal2, List.length_map, List.length_map]) fun i x p h1 h2 => by
    rw [List.getElem?_map] at h2
    obtain ⟨y, hy, rfl⟩ := Option.map_eq_some_iff.mp h2
    exact hf2 i x h1 y hy, by rw [keys_tr]; exact hL.nd, by rw [List.length_map]; omega, fun d2 hd2 => ?_⟩
  have s4 := same_new (o := .dK (enc V.bl (ns.map fun y => (y, true)))) hd2
  have sm4 := (sm1.trans s3).trans s4
  have hd14 := s4 _ _ hd13
  have hd24 : upd H3 d2 (.dK (enc V.bl (ns.map fun y => (y, true)))) d2 = some (.dK (enc V.bl (ns.map fun y => (y, true)))) := upd_same
  have nd12 : d1 ≠ d2 := ne_of_none hd13 hd2
  generalize upd H3 d2 (.dK (enc V.bl (ns.map fun y => (y, true)))) = H4 at sm4 hd14 hd24
  refine ⟨_, rfl, last, rfl, hl8, fun pv H5 s5 hpv => ⟨by show 4 ≤ sizeLine; decide, fun tp htp => ?_⟩⟩
  have s6 := same_new (o := .tup [.ref d1, .ref d2, pv, .int 0]) htp
  have s56 := s5.trans s6
  refine ⟨tp, _, rfl, .inl (.inl upd_same), rfl, _, _, rfl, _, _, rfl, _, _, rfl, _, _, rfl, rfl, ?_⟩
  have sm6 := sm4.trans s56
  have hd16 := s56 _ _ hd14
  have hd26 := s56 _ _ hd24
  have hpv6 := hpv.mono s6
  generalize upd H5 tp (.tup [.ref d1, .ref d2, pv, .int 0]) = HB at sm6 hd16 hd26 hpv6
  refine ⟨_, rfl, _, _, rfl, rfl, (last : Int) + 1, rfl, by omega, by omega, ?_⟩
  rw [show ((last : Int) + 1).toNat = last + 1 by omega]
  refine for_it walk_range (fun i σ H' => ∃ (e8 e9 e10 e11 e12 e13 e14 e15 : Option V) (d1 d2 : Addr) (HL : List (Int × Int)) (nl : List Int), σ = [some (.ref a), some (.ref a1), some (.ref a2), some (.int last), some (.ref d1), some (.ref d2), some pv, some (.int (gapTo last rs ps h L i)), e8, e9, e10, e11, e12, e13, e14, e15] ∧ Same HB H' ∧ HdV H' d1 HL ∧ LdV H' d2 nl ∧ d1 ≠ d2 ∧ HpsOk (B + i) HL (runS h L i).1 ∧ LfsOk (B + i) nl (runS h L i).2)
    ⟨none, none, none, none, none, none, none, none, d1, d2, ps, ns, rfl, Same.refl _, hd16, hd26, nd12, hh, hL⟩ (fun _ _ _ _ _ => True.intro) ?_ ?_
  · rintro i x σ H7 H8 hi ⟨e8, e9, e10, e11, e12, e13, e14, e15, d1, d2, HL, nl, rfl, s7, hd17, hd27, nd7, hh7, hL7⟩ ⟨rfl, hxv⟩
    obtain rfl : x = .int i := by rw [hxv]; show V.int (0 + (i : Int)) = _; rw [Int.zero_add]
    have sm7 := sm6.trans s7
    refine ⟨_, rfl, a, rfl, ⟨xs, haS sm7⟩, fun RL hRL => lc_it walk_list (fun k H' => Same H8 H' ∧ ∃ acc, H' RL = some (.lst acc) ∧ acc.length ≤ k ∧ RwL K H' acc ((rs.take k).filter fun r => decide (r.2.1 = (i : Int))))
      ⟨same_new hRL, [], upd_same, Nat.le_refl _, .nil⟩ (fun k H' _ ⟨e, _⟩ => haS (sm7.trans e)) ?_ ?_⟩
    · rintro k x HA HC hk ⟨sA, acc, hacc, hal, hrw⟩ ⟨rfl, hx⟩
      obtain ⟨r, hr1, xa, rfl, hP⟩ := paired_at hrs hx
      have hPA := Same.sqt (sm7.trans sA) hP
      refine ⟨rfl, _, rfl, xa, _, 1, _, rfl, rfl, hPA, rfl, _, rfl, rfl, _, rfl, ?_⟩
      by_cases cr : r.2.1 = (i : Int)
      · rw [decide_eq_true (show V.int r.2.1 = V.int i by rw [cr])]
        refine iteT ⟨_, rfl, acc, hacc, sz_of (by omega), same_mut sA hRL, acc ++ [.ref xa], upd_same, by rw [List.length_append]; exact Nat.succ_le_succ hal, ?_⟩
        have im : Im HC (upd HC RL (.lst (acc ++ [.ref xa]))) := Im.mut (by rw [hacc]; trivial)
        rw [take_succ_at hr1, List.filter_append, List.filter_cons, if_pos (decide_eq_true cr)]
        exact paired_app (hrw.im im) (.cons ⟨xa, rfl, im.sqt hPA⟩ .nil)
      · rw [decide_eq_false (show ¬ V.int r.2.1 = V.int i from fun z => cr (V.int.inj z))]
        refine iteF ⟨sA, acc, hacc, by omega, ?_⟩
        rw [take_succ_at hr1, List.filter_append, List.filter_cons, if_neg (by rw [decide_eq_false cr]; decide), List.filter_nil, List.append_nil]
        exact hrw
    rintro HA ⟨sA, acc, hacc, hal, hrw⟩
    rw [hxl, List.take_length] at hrw
    generalize hfil : (rs.filter fun r => decide (r.2.1 = (i : Int))) = fl at hrw
    have hflm : ∀ r ∈ fl, r ∈ rs ∧ r.2.1 = (i : Int) := fun r hr => by
      rw [← hfil] at hr
      have m := List.mem_filter.mp hr
      exact ⟨m.1, of_decide_eq_true m.2⟩
    have smA7 := sm7.trans sA
    have haccS : SqL K HA RL acc := .inl (.inl hacc)
    refine ⟨RL, rfl, ⟨acc, haccS⟩, for_it walk_list (fun k σ H' => ∃ (e9 e10 e11 e12 e13 e14 e15 : Option V), σ = [some (.ref a), some (.ref a1), some (.ref a2), some (.int last), some (.ref d1), some (.ref d2), some pv, some (.int (gapTo last rs ps h L i + ((fl.take k).map (gapOne last ps h L)).sum)), some (.int (i : Int)), e9, e10, e11, e12, e13, e14, e15] ∧ Same HA H')
      ⟨_, _, _, _, _, _, _, by rw [List.take_zero, List.map_nil, List.sum_nil, Int.add_zero]; rfl, Same.refl _⟩ (fun k σ H' _ ⟨_, _, _, _, _, _, _, _, e⟩ => e.seq haccS) ?_ ?_⟩
    · rintro k x σ HD HG hk ⟨e9, e10, e11, e12, e13, e14, e15, rfl, sD⟩ ⟨rfl, hx⟩
      obtain ⟨r, hr1, xa, rfl, hP⟩ := paired_at hrw hx
      obtain ⟨hrm, hrt⟩ := hflm r (List.mem_of_getElem? hr1)
      obtain ⟨i1, i2, i3, i4, i5, i6⟩ := hin r hrm
      have hP2 : SqT K HG xa [.int r.1, .int (i : Int), .int r.2.2] := by rw [← hrt]; exact Same.sqt sD hP
      have smG := smA7.trans sD
      refine ⟨xa, _, rfl, hP2, rfl, _, _, rfl, _, _, rfl, _, _, rfl, rfl, ?_⟩
      refine sq_or rfl (ha1.mono smG) fun J wk D4 hD4 => lc_map wk (fun j z _ => ∀ p, ps[j]? = some p → z = .int (p.2 * ways i (r.1 - p.1))) hD4 (fun _ _ _ _ _ h => h) (by omega) (fun H' e => ha1.mono (smG.trans e)) (fun j x H1 H2 N Q1 hj sm9 ⟨e, hx9⟩ hq => ?_) fun H2 acc9 sm9 hacc9 hal9 hf9 => ?_
      · obtain ⟨p, hp, xb, rfl, hPb⟩ := paired_at hps hx9
        subst e
        have hw0 := ways_nn i (r.1 - p.1)
        have hw1 : ways i (r.1 - p.1) ≤ 2 ^ 8 := Int.le_trans (P_le i _) (two_pow_le (by omega))
        have hw2 : (2 : Int) ^ 8 = 256 := by decide
        refine ⟨xb, _, rfl, Same.sqt (smG.trans sm9) hPb, rfl, _, _, rfl, _, _, rfl, rfl, rfl, tyes ?_⟩
        refine ⟨_, rfl, _, rfl, _, rfl, _, rfl, _, rfl, _, _, rfl, rfl, pv, last, i, r.1 - p.1, rfl, hpv6.mono (s7.trans (sA.trans (sD.trans sm9))), by omega, _, _, rfl, rfl, .inr ⟨by omega, by omega⟩, hq _ _ (Same.refl _) fun p' hp' => ?_⟩
        rw [hp] at hp'
        cases hp'
        rfl
      have e9' : acc9 = (ps.map fun p => p.2 * ways i (r.1 - p.1)).map V.int := acc_ints (by rw [hal9, hyl, List.length_map]) fun j z hz m hm => by
        rw [List.getElem?_map] at hm
        obtain ⟨p, hp, rfl⟩ := Option.map_eq_some_iff.mp hm
        exact hf9 j z hz p hp
      rw [e9'] at hacc9
      have s9 : Same HG H2 := fun b u e => sm9 b u e
      have hd19 : H2 d1 = some (.dK (enc V.int HL)) := (sA.trans (sD.trans s9)) _ _ hd17
      refine ⟨D4, _, rfl, .inl (.inl hacc9), ?_⟩
      refine ⟨_, rfl, _, rfl, _, rfl, d1, rfl, .inl ⟨_, .inl hd19⟩, _, rfl, _, DGet.i hd19 r.1, ?_⟩
      rw [getD_int, hh7.at_]
      have hb1 := runS_nn (L := L) hh.nn i r.1
      have hb2 := runS_le (L := L) hh.nn hM i r.1
      have hb3 : (2 : Int) ^ i * 10 ^ 60 ≤ 2 ^ 8 * 10 ^ 60 := Int.mul_le_mul_of_nonneg_right (two_pow_le (by omega)) (by decide)
      have cs : CShl ((runS h L i).1 r.1) (last : Int) := shl_ok (n := 220) (by
        have h1 : (2 : Int) ^ 8 * 10 ^ 60 < 2 ^ 220 := by decide
        have h2 : (runS h L i).1 r.1 < 2 ^ 220 := by omega
        have h3 : (((runS h L i).1 r.1).natAbs : Int) < ((2 ^ 220 : Nat) : Int) := by
          rw [show (((runS h L i).1 r.1).natAbs : Int) = (runS h L i).1 r.1 by omega]
          exact h2
        exact_mod_cast h3) (by omega)
      refine ⟨_, rfl, _, _, rfl, rfl, cs, _, rfl, _, rfl, _, rfl, _, _, rfl, rfl, _, _, rfl, rfl, ⟨by omega, by omega, by decide⟩, _, _, rfl, rfl, .inr ⟨?_, ?_⟩, _, _, rfl, rfl, _, _, rfl, rfl, .inl ⟨by omega, by omega⟩, _, _, rfl, rfl, ?_⟩
      · show -(2 ^ 64) < (1 : Int) * 2 ^ ((last : Int) - (i : Int)).toNat
        have := two_pos ((last : Int) - (i : Int)).toNat
        omega
      · show (1 : Int) * 2 ^ ((last : Int) - (i : Int)).toNat < 2 ^ 64
        have : (2 : Int) ^ ((last : Int) - (i : Int)).toNat ≤ 2 ^ 8 := two_pow_le (by omega)
        omega
      · refine ⟨some (.int r.1), some (.int (i : Int)), some (.int r.2.2), some (.int (ps.map fun p => p.2 * ways i (r.1 - p.1)).sum), e13, e14, e15, ?_, sD.trans s9⟩
        have e : gapTo last rs ps h L i + ((fl.take (k + 1)).map (gapOne last ps h L)).sum = (gapTo last rs ps h L i + ((fl.take k).map (gapOne last ps h L)).sum) + r.2.2 * ((runS h L i).1 r.1 * 2 ^ ((last : Int)).toNat - (ps.map fun p => p.2 * ways i (r.1 - p.1)).sum * (1 * 2 ^ ((last : Int) - (i : Int)).toNat)) := by
          rw [take_succ_at hr1, List.map_append, List.sum_append, Int.add_assoc]
          congr 2
          show gapOne last ps h L r + 0 = _
          unfold gapOne meanI
          rw [Int.one_mul, Int.add_zero, Int.toNat_natCast, show r.2.1.toNat = i by omega, show ((last : Int) - (i : Int)).toNat = last - i by omega]
        rw [e]
        rfl
    · rintro σ HD ⟨e9, e10, e11, e12, e13, e14, e15, rfl, sD⟩
      rw [Paired.length hrw, List.take_length]
      refine ⟨_, rfl, _, rfl, d1, d2, HL, nl, B + i, _, _, rfl, (sA.trans sD) _ _ hd17, (sA.trans sD) _ _ hd27, nd7, by omega, hh7, hL7, fun HE p q1 q2 HL' nl' sE hpE hq1 hq2 nq hh' hL' _ _ => ?_⟩
      refine ⟨p, _, rfl, .inl (.inl hpE), rfl, _, _, rfl, _, _, rfl, rfl, ?_⟩
      refine ⟨some (.int (i : Int)), e9, e10, e11, e12, e13, e14, e15, q1, q2, HL', nl', ?_, s7.trans (sA.trans (sD.trans sE)), hq1, hq2, nq, hh', hL'.up (by omega)⟩
      have e : gapTo last rs ps h L (i + 1) = gapTo last rs ps h L i + (fl.map (gapOne last ps h L)).sum := by
        unfold gapTo
        rw [List.range_succ, List.map_append, List.sum_append, ← hfil]
        simp
      rw [e]
      rfl
  · rintro σ H7 ⟨e8, e9, e10, e11, e12, e13, e14, e15, d1, d2, HL, nl, rfl, s7, _⟩
    exact ⟨_, rfl, hQ _ _ (sm6.trans s7) rfl⟩
end
end K86
end
section
set_option Elab.async false
set_option linter.all false
set_option maxRecDepth 100000
namespace K86
open PySem PySem.Spec PyProof.Rows L2
open C8 (Cal Met Mak pe_c pe_mk pe_mt pe_mt0)
theorem Ex.fresh {l : List Addr} {H H1 : Hp} {D : Addr} {o : HO} (e : Ex l H H1) (h : H D = none) : Ex l H (upd H1 D o) := fun b u n q => by
  rw [upd_ne (ne_of_none q h)]
  exact e b u n q
theorem HorV.mono {H H' : Hp} {h c : Addr} {n m : Nat} (e : Same H H') (hv : HorV H h c n) (hm : n ≤ m) : HorV H' h c m := by
  obtain ⟨cells, a, r, h1, h2, h3, h4, h5, h6⟩ := hv
  exact ⟨cells, a, r, e _ _ h1, e _ _ h2, h3, h4, h5, by omega⟩
theorem Im.exl {H H' : Hp} {h : Addr} {xs : List V} (e : H h = some (.lst xs)) (x : Ex [h] H H') : Im H H' :=
  ⟨fun b us q => x b _ (fun z => by rw [List.mem_singleton.mp z, e] at q; nomatch q) q, fun b o us q => x b _ (fun z => by rw [List.mem_singleton.mp z, e] at q; nomatch q) q⟩
theorem HorV.im {H H' : Hp} {h c : Addr} {n : Nat} (v : HorV H h c n) (x : Ex [h] H H') : Im H H' := by
  obtain ⟨_, _, _, q, _⟩ := v
  exact Im.exl q x
theorem erase_map {sp : List Int} : ∀ r : Nat, (sp.map V.int).eraseIdx r = (sp.eraseIdx r).map V.int := by
  induction sp with
  | nil => intro r; rfl
  | cons x l ih =>
    intro r
    cases r with
    | zero => rfl
    | succ r =>
      show V.int x :: (l.map V.int).eraseIdx r = V.int x :: (l.eraseIdx r).map V.int
      rw [ih r]
theorem erase_perm {sp : List Int} : ∀ {r : Nat} {y : Int}, sp[r]? = some y → sp.Perm (y :: sp.eraseIdx r) := by
  induction sp with
  | nil => intro r y h; nomatch h
  | cons x l ih =>
    intro r y h
    cases r with
    | zero => cases h; exact .refl _
    | succ r =>
      have h2 : l[r]? = some y := h
      exact (List.Perm.cons x (ih h2)).trans (.swap y x _)
theorem seq_nat {r m : Nat} (h : r < m) : seqIndex? (r : Int) m = some r := (ixN_seq (by
  unfold ixN
  rw [if_pos (by omega), if_pos (by omega), Int.toNat_natCast])).1
def spotsL (c : Int) (k : Nat) : List Int := ((List.range k).map fun i : Nat => -13 + (i : Int)).filter fun z => decide ((z + c) % 2 = 0)
section
variable {P : Program} {w : World} {K : PySem.W.Frag} {mg : Str → Option Value} {base : Heap}
/-- a drawn start -/
def spLStart (K : PySem.W.Frag) : Sp := fun vs H Q _ => ∃ (h k0 : Addr) (n : Nat) (c : Int), vs = [.ref h, .int c] ∧ HorV H h k0 n ∧ n ≤ 90000 ∧ (c = 0 ∨ c = 1) ∧
  ∀ (H' : Hp) (p a1 a2 : Addr) (ys : List V) (ps : List (Int × Int)) (ns : List Int), Ex [h] H H' → HorV H' h k0 (n + 1000) → H' p = some (.tup [.ref a1, .ref a2]) → H' a1 = some (.lst ys) → PrL K H' ys ps → H' a2 = some (.lst (ns.map V.int)) → H a1 = none → H a2 = none →
    (keysL ps).Nodup → (∀ q ∈ ps, -13 ≤ q.1 ∧ q.1 ≤ 13 ∧ q.1 % 2 = c ∧ 1 ≤ q.2 ∧ q.2 ≤ 10 ^ 60) → ns.Nodup → (∀ y ∈ ns, -13 ≤ y ∧ y ≤ 13) → Q (.ref p) H'
theorem ok_L_start (T : Txt P K mg) : Cal P w K mg base 3 "_law_start" (spLStart K) [] := by
  have h_L_mile := ok_L_mile (P := P) (w := w) (base := base) T
  have h_L_one := ok_L_one (P := P) (w := w) (base := base) T
  refine c_L_start T (fun vs H Q E h => ?_) fun cdv A outer s H vs Q E hr h => ?_
  · obtain ⟨h, k0, n, c, rfl, _⟩ := h
    rfl
  obtain ⟨h, k0, n, c, rfl, hv, hn, hc, hQ⟩ := h
  refine ⟨_, (pss_cons (ps_setLc (i := 2) (own := [("_law_spot", 3)]) (g := (gName 3)) rfl sc_L_start.nd rfl rfl (sw_true rfl rfl rfl (by decide +kernel)) (pi_range2 rfl (z_range T) (pa_cons (pe_un un_neg pe_int) (pa_cons pe_int pa_nil))) (blkOk_by (own := [("_law_spot", 3)]) (N := n_L_start) (sc := defScope s_L_start) (by decide +kernel)) (fun _ _ _ _ _ => (pg_name (i := 3) sc_L_start.nd rfl (by first | exact Or.inl rfl | exact Or.inr rfl))) (fun _ _ _ _ _ => (pts_one (pt_cmpR op_eq (pe_op op_mod (pe_callTy call_int1 (by rfl) (z_int T) (by decide +kernel) (pa_cons (pe_op op_add (pv 3) (pv 1)) pa_nil)) pe_int) pe_int (nomark _)))) (fun _ _ _ _ _ => (pv 3)))
      (pss_cons (ps_set (i := 4) sc_L_start.nd rfl (by first | exact Or.inl rfl | exact Or.inr rfl) (pe_lst pa_nil))
      (pss_cons (ps_for PassesOwn.never rfl (pi_range1 rfl (z_range T) (pa_cons (pe_op op_add pe_int (pe_c h_L_mile hr (by decide) (by rfl) (pa_cons (pv 0) (pa_cons pe_int pa_nil)))) pa_nil)) (pg_name (i := 5) sc_L_start.nd rfl (by first | exact Or.inl rfl | exact Or.inr rfl))
      (pss_cons (ps_set (i := 3) sc_L_start.nd rfl (by first | exact Or.inl rfl | exact Or.inr rfl) (pe_bm PySem.F.plainAttrs_list PySem.F.slot_list_pop PySem.F.type_list_pop mt_popAt (pv 2) (pa_cons (pe_c h_L_mile hr (by decide) (by rfl) (pa_cons (pv 0) (pa_cons (pe_callB call_len_seq (by rfl) (z_len T) (by decide +kernel) (pa_cons (pv 2) pa_nil)) pa_nil))) pa_nil)))
      (pss_one (ps_expr (pe_bm PySem.F.plainAttrs_list PySem.F.slot_list_append PySem.F.type_list_append mt_append (pv 4) (pa_cons (pe_tup (pa_cons (pv 3) (pa_cons (pe_c h_L_one hr (by decide) (by rfl) (pa_cons (pv 0) (pa_cons (pe_lst (pa_cons pe_int (pa_cons pe_int (pa_cons pe_int (pa_cons (pe_op op_add pe_int (pe_c h_L_mile hr (by decide) (by rfl) (pa_cons (pv 0) (pa_cons pe_int pa_nil)))) (pa_cons (pe_op op_add (pe_op op_pow pe_int pe_int) (pe_c h_L_mile hr (by decide) (by rfl) (pa_cons (pv 0) (pa_cons pe_int pa_nil)))) (pa_cons (pe_op op_pow pe_int pe_int) pa_nil))))))) pa_nil))) pa_nil))) pa_nil))))))
      (pss_one (ps_ret (pe_tup (pa_cons (pv 4) (pa_cons (pe_lc (own := [("_law_spot", 3)]) (g := (gName 3)) rfl sc_L_start.nd (pi_range2 rfl (z_range T) (pa_cons (pe_un un_neg pe_int) (pa_cons pe_int pa_nil))) (blkOk_by (own := [("_law_spot", 3)]) (N := n_L_start) (sc := defScope s_L_start) (by decide +kernel)) (fun _ _ _ _ _ => (pg_name (i := 3) sc_L_start.nd rfl (by first | exact Or.inl rfl | exact Or.inr rfl))) (fun _ _ _ _ _ => (pts_one (pt_cmpR op_eq (pe_c h_L_mile hr (by decide) (by rfl) (pa_cons (pv 0) (pa_cons pe_int pa_nil))) pe_int (nomark _)))) (fun _ _ _ _ _ => (pv 3))) pa_nil)))))))), ?_⟩
  refine ⟨_, rfl, _, _, rfl, ⟨by decide, by decide, by decide, by decide⟩, fun SP hSP => ?_⟩
  refine lc_it (walk_range (n := 27)) (fun k H' => Same H H' ∧ H' SP = some (.lst ((spotsL c k).map V.int))) ⟨same_new hSP, upd_same⟩ (fun _ _ _ _ => True.intro) ?_ ?_
  · rintro k x H1 H2 hk ⟨s1, h1⟩ ⟨rfl, hxk⟩
    obtain rfl : x = .int (-13 + (k : Int)) := hxk
    have hsl : (spotsL c k).length ≤ k := by
      unfold spotsL
      have := List.length_filter_le (fun z => decide ((z + c) % 2 = 0)) ((List.range k).map fun i : Nat => -13 + (i : Int))
      rw [List.length_map, List.length_range] at this
      exact this
    have hs : spotsL c (k + 1) = spotsL c k ++ (if (-13 + (k : Int) + c) % 2 = 0 then [-13 + (k : Int)] else []) := by
      unfold spotsL
      rw [List.range_succ, List.map_append, List.filter_append, List.map_cons, List.map_nil, List.filter_cons]
      by_cases cc : (-13 + (k : Int) + c) % 2 = 0
      · rw [if_pos (decide_eq_true cc), if_pos cc]; rfl
      · rw [if_neg (by rw [decide_eq_false cc]; decide), if_neg cc]; rfl
    rw [hs]
    refine ⟨rfl, _, rfl, _, rfl, _, _, rfl, rfl, .inl ⟨_, rfl, _, _, rfl, rfl, (by decide : (0 : Int) < 2), rfl, _, rfl, ?_⟩⟩
    by_cases cc : (-13 + (k : Int) + c) % 2 = 0
    · rw [decide_eq_true (show V.int ((-13 + (k : Int) + c) % 2) = V.int 0 by rw [cc]), if_pos cc]
      refine iteT ⟨_, rfl, _, h1, sz_of (by rw [List.length_map]; omega), same_mut s1 hSP, ?_⟩
      rw [List.map_append]
      exact upd_same
    · rw [decide_eq_false (show ¬ V.int ((-13 + (k : Int) + c) % 2) = V.int 0 from fun z => cc (V.int.inj z)), if_neg cc, List.append_nil]
      exact iteF ⟨s1, h1⟩
  rintro H1 ⟨s1, h1⟩
  have hSP0 : H SP = none := hSP
  have hhE : ∃ u, H h = some u := by
    obtain ⟨_, _, _, q, _⟩ := hv
    exact ⟨_, q⟩
  have hk0E : ∃ u, H k0 = some u := by
    obtain ⟨_, _, _, _, q, _⟩ := hv
    exact ⟨_, q⟩
  obtain ⟨uk, huk⟩ := hk0E
  have nSPk : k0 ≠ SP := ne_of_none huk hSP0
  obtain ⟨uh, huh⟩ := hhE
  have nSPh : SP ≠ h := fun z => by rw [z, huh] at hSP0; nomatch hSP0
  refine ⟨Nat.zero_le _, fun HP hHP => ?_⟩
  have sHP := same_new (o := .lst []) hHP
  have hHP0 : H HP = none := Same.back s1 hHP
  have nHPh : HP ≠ h := fun z => by rw [z, huh] at hHP0; nomatch hHP0
  have nSPHP : SP ≠ HP := fun z => by rw [← z, h1] at hHP; nomatch hHP
  refine ⟨_, rfl, h, k0, 8, n, rfl, by decide, by decide, hv.mono (s1.trans sHP) (Nat.le_refl _), by omega, fun r H2 hr2 ex2 hv2 => ?_⟩
  have exH2 : Ex [h] H H2 := (Ex.of (s1.trans sHP)).trans ex2
  have h1b : H2 SP = some (.lst ((spotsL c 27).map V.int)) := ex2 SP _ (by simp [nSPh]) (sHP _ _ h1)
  have h2b : H2 HP = some (.lst []) := ex2 HP _ (by simp [nHPh]) upd_same
  refine ⟨_, _, rfl, rfl, _, rfl, by omega, by omega, ?_⟩
  rw [show ((1 : Int) + (r : Int)).toNat = r + 1 by omega]
  have hsp27 : ∀ c', (c' = 0 ∨ c' = 1) → (spotsL c' 27).Nodup ∧ 13 ≤ (spotsL c' 27).length ∧ (spotsL c' 27).length ≤ 14 ∧ ∀ y ∈ spotsL c' 27, -13 ≤ y ∧ y ≤ 13 ∧ y % 2 = c' := by
    rintro c' (rfl | rfl) <;> decide +kernel
  obtain ⟨k1, k2, k3, k4⟩ := hsp27 c hc
  refine for_it walk_range (fun i σ H' => ∃ (e3 e5 : Option V) (sp : List Int) (ys : List V) (ps : List (Int × Int)), σ = [some (.ref h), some (.int c), some (.ref SP), e3, some (.ref HP), e5] ∧ Ex [h] H H' ∧ HorV H' h k0 (n + 1 + 4 * i) ∧ H' SP = some (.lst (sp.map V.int)) ∧ sp.length + i = (spotsL c 27).length ∧ H' HP = some (.lst ys) ∧ PrL K H' ys ps ∧ (keysL ps ++ sp).Nodup ∧ (∀ y ∈ sp, -13 ≤ y ∧ y ≤ 13 ∧ y % 2 = c) ∧
      (∀ q ∈ ps, -13 ≤ q.1 ∧ q.1 ≤ 13 ∧ q.1 % 2 = c ∧ 1 ≤ q.2 ∧ q.2 ≤ 10 ^ 60) ∧ ps.length = i)
    ⟨_, _, spotsL c 27, [], [], rfl, exH2, hv2, h1b, rfl, h2b, .nil, k1, k4, fun q h => (nomatch h), rfl⟩ (fun _ _ _ _ _ => True.intro) ?_ ?_
  · rintro i x σ H3 H4 hi ⟨e3, e5, sp, ys, ps, rfl, ex4, hv4, hS4, hsl, hP4, hys, hnd, hspB, hpsB, hpl⟩ ⟨rfl, hxv⟩
    have hsl1 : 1 ≤ sp.length := by omega
    refine ⟨_, rfl, .inl ⟨rfl, _, .inl (.inl hS4)⟩, _, rfl, _, rfl, SP, _, rfl, .inl (.inl (.inl hS4)), h, k0, sp.length, _, ?_, hsl1, by omega, hv4, by omega, fun r5 H5 hr5 ex5 hv5 => ?_⟩
    · rw [List.length_map]; rfl
    obtain ⟨y, hy⟩ : ∃ y, sp[r5]? = some y := ⟨sp[r5], List.getElem?_eq_getElem hr5⟩
    have hS5 : H5 SP = some (.lst (sp.map V.int)) := ex5 SP _ (by simp [nSPh]) hS4
    have hP5 : H5 HP = some (.lst ys) := ex5 HP _ (by simp [nHPh]) hP4
    refine ⟨SP, _, r5, r5, .int y, rfl, rfl, hS5, by omega, by omega, seq_nat (by rw [List.length_map]; exact hr5), by rw [List.getElem?_map, hy]; rfl, ?_⟩
    rw [erase_map]
    have hS6 : upd H5 SP (.lst ((sp.eraseIdx r5).map V.int)) SP = some (.lst ((sp.eraseIdx r5).map V.int)) := upd_same
    have hP6 : upd H5 SP (.lst ((sp.eraseIdx r5).map V.int)) HP = some (.lst ys) := by rw [upd_ne nSPHP.symm]; exact hP5
    have im6 : Im H4 (upd H5 SP (.lst ((sp.eraseIdx r5).map V.int))) := (hv4.im ex5).trans (Im.mut (by rw [hS5]; trivial))
    have ex6 : Ex [h] H (upd H5 SP (.lst ((sp.eraseIdx r5).map V.int))) := (ex4.trans ex5).fresh hSP0
    have hv6 : HorV (upd H5 SP (.lst ((sp.eraseIdx r5).map V.int))) h k0 (n + 1 + 4 * i + 1) := by
      obtain ⟨cells, a, rr, q1, q2, q3, q4, q5, q6⟩ := hv5
      exact ⟨cells, a, rr, by rw [upd_ne nSPh.symm]; exact q1, by rw [upd_ne nSPk]; exact q2, q3, q4, q5, q6⟩
    generalize upd H5 SP (.lst ((sp.eraseIdx r5).map V.int)) = H6 at hS6 hP6 ex6 hv6 im6
    refine ⟨_, rfl, .inl ⟨rfl, _, .inl (.inl hP6)⟩, _, rfl, _, rfl, _, rfl, h, k0, 99, _, rfl, by decide, by decide, hv6, by omega, fun r7 H7 hr7 ex7 hv7 => ?_⟩
    refine ⟨_, _, rfl, rfl, _, _, rfl, rfl, ⟨by decide, by decide, by decide⟩, _, rfl, h, k0, 999, _, rfl, by decide, by decide, hv7, by omega, fun r8 H8 hr8 ex8 hv8 => ?_⟩
    refine ⟨_, _, rfl, rfl, _, _, rfl, rfl, ⟨by decide, by decide, by decide⟩, by show 6 ≤ sizeLine; decide, fun LL hLL => ?_⟩
    have sL := same_new (o := .lst [.int 1, .int 2, .int 3, .int (1 + (r7 : Int)), .int (2 ^ 30 + (r8 : Int)), .int (10 ^ 60)]) hLL
    have hv9 : HorV (upd H8 LL (.lst [.int 1, .int 2, .int 3, .int (1 + (r7 : Int)), .int (2 ^ 30 + (r8 : Int)), .int (10 ^ 60)])) h k0 (n + 1 + 4 * i + 1 + 1 + 1) := hv8.mono sL (Nat.le_refl _)
    have nLh : LL ≠ h := fun z => by
      obtain ⟨_, _, _, q, _⟩ := hv8
      rw [← z, hLL] at q
      nomatch q
    have ex8' : Ex [h] H H8 := (ex6.trans ex7).trans ex8
    have hS8 : H8 SP = some (.lst ((sp.eraseIdx r5).map V.int)) := ex8 SP _ (by simp [nSPh]) (ex7 SP _ (by simp [nSPh]) hS6)
    have hP8 : H8 HP = some (.lst ys) := ex8 HP _ (by simp [nHPh]) (ex7 HP _ (by simp [nHPh]) hP6)
    refine ⟨h, k0, LL, _, _, rfl, upd_same, nLh, by show 1 ≤ 6; decide, by show 6 ≤ 1000; decide, hv9, by omega, fun j v H9 hj ex9 hvv => ?_⟩
    obtain ⟨wv, rfl, hwv⟩ : ∃ wv : Int, v = .int wv ∧ 1 ≤ wv ∧ wv ≤ 10 ^ 60 := by
      have hm := List.mem_of_getElem? hj
      simp only [List.mem_cons, List.not_mem_nil, or_false] at hm
      have t1 : (2 : Int) ^ (30 : Int).toNat = 1073741824 := by decide
      have t2 : (10 : Int) ^ (60 : Int).toNat = 10 ^ 60 := by decide
      rcases hm with e | e | e | e | e | e
      · exact ⟨1, e, by decide, by decide⟩
      · exact ⟨2, e, by decide, by decide⟩
      · exact ⟨3, e, by decide, by decide⟩
      · exact ⟨1 + r7, e, by omega, by omega⟩
      · exact ⟨1073741824 + r8, by rw [e]; show V.int (2 ^ (30 : Int).toNat + (r8 : Int)) = _; rw [t1], by omega, by omega⟩
      · exact ⟨10 ^ 60, by rw [e]; show V.int (10 ^ (60 : Int).toNat) = _; rw [t2], by decide, by decide⟩
    have exA : Ex [h] H H9 := (ex8'.trans (Ex.of sL)).trans ex9
    have hS9 : H9 SP = some (.lst ((sp.eraseIdx r5).map V.int)) := ex9 SP _ (by simp [nSPh]) (sL _ _ hS8)
    have hP9 : H9 HP = some (.lst ys) := ex9 HP _ (by simp [nHPh]) (sL _ _ hP8)
    have hysl : ys.length = i := (Paired.length hys).trans hpl
    refine ⟨by show 2 ≤ sizeLine; decide, fun T1 hT1 => ?_⟩
    have sT := same_new (o := .tup [.int y, .int wv]) hT1
    have hPT := sT _ _ hP9
    refine ⟨HP, ys, _, rfl, rfl, hPT, sz_of (by omega), ?_⟩
    have hST := sT _ _ hS9
    have hpe := erase_perm hy
    have hyB := hspB y (List.mem_of_getElem? hy)
    have exQ : Ex [h] H (upd (upd H9 T1 (.tup [.int y, .int wv])) HP (.lst (ys ++ [.ref T1]))) := (exA.trans (Ex.of sT)).fresh hHP0
    have nHPk : k0 ≠ HP := ne_of_none huk hHP0
    have hvQ : HorV (upd (upd H9 T1 (.tup [.int y, .int wv])) HP (.lst (ys ++ [.ref T1]))) h k0 (n + 1 + 4 * (i + 1)) := by
      obtain ⟨cells, a, rr, q1, q2, q3, q4, q5, q6⟩ := hvv.mono sT (Nat.le_refl _)
      exact ⟨cells, a, rr, by rw [upd_ne nHPh.symm]; exact q1, by rw [upd_ne nHPk]; exact q2, q3, q4, q5, by omega⟩
    refine ⟨_, _, sp.eraseIdx r5, ys ++ [.ref T1], ps ++ [(y, wv)], rfl, exQ, hvQ, by rw [upd_ne nSPHP]; exact hST, ?_, upd_same, ?_, ?_, fun z hz => hspB z (hpe.mem_iff.mpr (List.mem_cons_of_mem _ hz)), fun q hq => ?_, by rw [List.length_append, hpl]; rfl⟩
    · have := hpe.length_eq
      rw [List.length_cons] at this
      omega
    · have im : Im (upd H9 T1 (.tup [.int y, .int wv])) (upd (upd H9 T1 (.tup [.int y, .int wv])) HP (.lst (ys ++ [.ref T1]))) := Im.mut (by rw [hPT]; trivial)
      have imA := im6.trans ((hv6.im ex7).trans ((hv7.im ex8).trans ((Im.of sL).trans ((hv9.im ex9).trans ((Im.of sT).trans im)))))
      exact paired_app (hys.im imA) (.cons ⟨T1, rfl, im.sqt (.inl (.inl upd_same))⟩ .nil)
    · unfold keysL at hnd ⊢
      rw [List.map_append, List.append_assoc]
      exact ((List.Perm.append_left _ hpe).nodup_iff).mp hnd
    · rcases List.mem_append.mp hq with hq | hq
      · exact hpsB q hq
      · rw [List.mem_singleton.mp hq]
        exact ⟨hyB.1, hyB.2.1, hyB.2.2, hwv.1, hwv.2⟩
  · rintro σ H3 ⟨e3, e5, sp, ys, ps, rfl, ex4, hv4, hS4, hsl, hP4, hys, hnd, hspB, hpsB, hpl⟩
    have nHv : (keysL ps).Nodup := (List.nodup_append.mp hnd).1
    refine ⟨_, rfl, _, rfl, _, _, rfl, ⟨by decide, by decide, by decide, by decide⟩, fun LP hLP => ?_⟩
    have nLPh : LP ≠ h := fun z => by
      obtain ⟨_, _, _, q, _⟩ := hv4
      rw [← z, hLP] at q
      nomatch q
    have hLP0 : H LP = none := by
      cases q : H LP with
      | none => rfl
      | some u => rw [ex4 LP u (by simp [nLPh]) q] at hLP; nomatch hLP
    have sLP := same_new (o := .lst []) hLP
    refine lc_it (walk_range (n := 27)) (fun k H' => Ex [h] H H' ∧ HorV H' h k0 (n + 1 + 4 * (r + 1) + k) ∧ H' HP = some (.lst ys) ∧ PrL K H' ys ps ∧ ∃ ns : List Int, H' LP = some (.lst (ns.map V.int)) ∧ ns.Nodup ∧ ns.length ≤ k ∧ ∀ y ∈ ns, -13 ≤ y ∧ y < -13 + (k : Int))
      ⟨ex4.trans (Ex.of sLP), hv4.mono sLP (Nat.le_refl _), sLP _ _ hP4, hys.im (Im.of sLP), [], upd_same, List.nodup_nil, Nat.le_refl _, fun y hy => (nomatch hy)⟩ (fun _ _ _ _ => True.intro) ?_ ?_
    · rintro k x HA HC hk ⟨exA, hvA, hPA, hysA, nl, hLA, hnd2, hll, hbd⟩ ⟨rfl, hxk⟩
      obtain rfl : x = .int (-13 + (k : Int)) := hxk
      refine ⟨rfl, _, rfl, h, k0, 2, _, rfl, by decide, by decide, hvA, by omega, fun r5 H5 hr5 ex5 hv5 => ⟨rfl, _, rfl, ?_⟩⟩
      have hP5 := ex5 HP _ (by simp [nHPh]) hPA
      have hL5 := ex5 LP _ (by simp [nLPh]) hLA
      have im5 := hvA.im ex5
      by_cases c0 : r5 = 0
      · rw [decide_eq_true (show V.int (r5 : Int) = V.int 0 by rw [c0]; rfl)]
        have nLk : k0 ≠ LP := ne_of_none huk hLP0
        have nLHP : LP ≠ HP := fun z => by rw [z, hP4] at hLP; nomatch hLP
        have im : Im H5 (upd H5 LP (.lst (nl.map V.int ++ [.int (-13 + (k : Int))]))) := Im.mut (by rw [hL5]; trivial)
        refine iteT ⟨_, rfl, _, hL5, sz_of (by rw [List.length_map]; omega), (exA.trans ex5).fresh hLP0, ?_, by rw [upd_ne nLHP.symm]; exact hP5, (hysA.im im5).im im, nl ++ [-13 + (k : Int)], by rw [List.map_append]; exact upd_same, ?_, by rw [List.length_append]; exact Nat.succ_le_succ hll, fun y hy => ?_⟩
        · obtain ⟨cells, a, rr, q1, q2, q3, q4, q5, q6⟩ := hv5
          exact ⟨cells, a, rr, by rw [upd_ne nLPh.symm]; exact q1, by rw [upd_ne nLk]; exact q2, q3, q4, q5, by omega⟩
        · rw [List.nodup_append]
          refine ⟨hnd2, List.nodup_cons.mpr ⟨fun z => (nomatch z), List.nodup_nil⟩, fun a ha b hb e => ?_⟩
          rw [List.mem_singleton.mp hb] at e
          have := hbd a ha
          omega
        · rcases List.mem_append.mp hy with hy | hy
          · have := hbd y hy
            omega
          · rw [List.mem_singleton.mp hy]
            omega
      · rw [decide_eq_false (show ¬ V.int (r5 : Int) = V.int 0 from fun z => c0 (by have := V.int.inj z; omega))]
        exact iteF ⟨exA.trans ex5, hv5, hP5, hysA.im im5, nl, hL5, hnd2, by omega, fun y hy => by have := hbd y hy; omega⟩
    · rintro HA ⟨exA, hvA, hPA, hysA, nl, hLA, hnd2, hll, hbd⟩
      refine ⟨by show 2 ≤ sizeLine; decide, fun p hp => ?_⟩
      have sp := same_new (o := .tup [.ref HP, .ref LP]) hp
      exact hQ _ p HP LP ys ps nl (exA.trans (Ex.of sp)) (hvA.mono sp (by omega)) upd_same (sp _ _ hPA) (hysA.im (Im.of sp)) (sp _ _ hLA) hHP0 hLP0 nHv hpsB hnd2 fun y hy => by have := hbd y hy; omega
end
end K86
end
section
set_option Elab.async false
set_option linter.all false
set_option maxRecDepth 100000
set_option maxHeartbeats 4000000
namespace K86
open PySem PySem.Spec PyProof.Rows L2
open C8 (Cal Met Mak pe_c pe_mk pe_mt pe_mt0)
/-- tables with keys (tick, spot) -/
def encT (W : List ((Int × Int) × Int)) : List (List Key × V) := W.map fun p => ([Sum.inl p.1.1, Sum.inl p.1.2], V.int p.2)
def putP (W : List ((Int × Int) × Int)) (k : Int × Int) (v : Int) : List ((Int × Int) × Int) := if k ∈ W.map (·.1) then W.map (fun p => if p.1 = k then (p.1, v) else p) else W ++ [(k, v)]
theorem keyT {a b : Int × Int} : ([Sum.inl a.1, Sum.inl a.2] : List Key) = [Sum.inl b.1, Sum.inl b.2] ↔ a = b := by
  constructor
  · intro h
    have h1 := List.cons.inj h
    have h2 := List.cons.inj h1.2
    exact Prod.ext (Sum.inl.inj h1.1) (Sum.inl.inj h2.1)
  · intro h; rw [h]
theorem anyT {W : List ((Int × Int) × Int)} {k : Int × Int} : ((encT W).any fun kv => decide (kv.1 = [Sum.inl k.1, Sum.inl k.2])) = true ↔ k ∈ W.map (·.1) := by
  unfold encT
  rw [List.any_map, List.any_eq_true]
  constructor
  · rintro ⟨p, hp, e⟩
    exact List.mem_map.mpr ⟨p, hp, keyT.mp (of_decide_eq_true e)⟩
  · intro h
    obtain ⟨p, hp, e⟩ := List.mem_map.mp h
    exact ⟨p, hp, decide_eq_true (keyT.mpr e)⟩
theorem putK_T {W : List ((Int × Int) × Int)} {k : Int × Int} {v : Int} : putK (encT W) [Sum.inl k.1, Sum.inl k.2] (V.int v) = encT (putP W k v) := by
  unfold putK putP
  by_cases h : k ∈ W.map (·.1)
  · rw [if_pos (anyT.mpr h), if_pos h]
    unfold encT
    rw [List.map_map, List.map_map]
    refine List.map_congr_left fun p _ => ?_
    show (if ([Sum.inl p.1.1, Sum.inl p.1.2] : List Key) = [Sum.inl k.1, Sum.inl k.2] then _ else _) = (([Sum.inl (if p.1 = k then (p.1, v) else p).1.1, Sum.inl (if p.1 = k then (p.1, v) else p).1.2] : List Key), V.int (if p.1 = k then (p.1, v) else p).2)
    by_cases e : p.1 = k
    · rw [if_pos e, if_pos (keyT.mpr e)]
    · rw [if_neg e, if_neg (fun z => e (keyT.mp z))]
  · rw [if_neg (fun z => h (anyT.mp z)), if_neg h]
    unfold encT
    rw [List.map_append]
    rfl
theorem putP_nd {W : List ((Int × Int) × Int)} {k : Int × Int} {v : Int} (h : (W.map (·.1)).Nodup) : ((putP W k v).map (·.1)).Nodup := by
  unfold putP
  split
  · rw [List.map_map]
    rw [show (W.map ((fun x : (Int × Int) × Int => x.1) ∘ fun p => if p.1 = k then (p.1, v) else p)) = W.map (·.1) from List.map_congr_left fun p _ => by
      show (if p.1 = k then (p.1, v) else p).1 = p.1
      split <;> rfl]
    exact h
  · rename_i hk
    rw [List.map_append, List.nodup_append]
    refine ⟨h, List.nodup_cons.mpr ⟨fun z => (nomatch z), List.nodup_nil⟩, fun a ha b hb e => hk ?_⟩
    rw [List.mem_singleton.mp hb] at e
    have e2 : a = k := e
    rw [← e2]
    exact ha
theorem putP_mem {W : List ((Int × Int) × Int)} {k : Int × Int} {v : Int} {p : (Int × Int) × Int} (h : p ∈ putP W k v) : p = (k, v) ∨ p ∈ W := by
  unfold putP at h
  split at h
  · obtain ⟨q, hq, e⟩ := List.mem_map.mp h
    by_cases c : q.1 = k
    · rw [if_pos c] at e
      exact .inl (by rw [← e, c])
    · rw [if_neg c] at e
      exact .inr (by rw [← e]; exact hq)
  · rcases List.mem_append.mp h with h | h
    · exact .inr h
    · exact .inl (List.mem_singleton.mp h)
theorem putP_key {W : List ((Int × Int) × Int)} {k j : Int × Int} {v : Int} (h : j ∈ W.map (·.1) ∨ j = k) : j ∈ (putP W k v).map (·.1) := by
  unfold putP
  split
  · rename_i hk
    rw [List.map_map, show (W.map ((fun x : (Int × Int) × Int => x.1) ∘ fun p => if p.1 = k then (p.1, v) else p)) = W.map (·.1) from List.map_congr_left fun p _ => by
      show (if p.1 = k then (p.1, v) else p).1 = p.1
      split <;> rfl]
    exact h.elim id fun z => z ▸ hk
  · rw [List.map_append, List.mem_append]
    exact h.imp id fun z => List.mem_singleton.mpr z
theorem putP_len {W : List ((Int × Int) × Int)} {k : Int × Int} {v : Int} : (putP W k v).length ≤ W.length + 1 := by
  unfold putP
  split
  · rw [List.length_map]; omega
  · rw [List.length_append]; exact Nat.le_refl _
theorem valT {W : List ((Int × Int) × Int)} (hn : (W.map (·.1)).Nodup) {p : (Int × Int) × Int} (h : p ∈ W) : valV (encT W) [Sum.inl p.1.1, Sum.inl p.1.2] = some (V.int p.2) := by
  have hn2 : ((encT W).map (·.1)).Nodup := by
    unfold encT
    rw [List.map_map]
    have e : (W.map ((fun x : List Key × V => x.1) ∘ fun p : (Int × Int) × Int => (([Sum.inl p.1.1, Sum.inl p.1.2] : List Key), V.int p.2))) = (W.map (·.1)).map fun k : Int × Int => ([Sum.inl k.1, Sum.inl k.2] : List Key) := by rw [List.map_map]; rfl
    rw [e]
    unfold List.Nodup at hn ⊢
    rw [List.pairwise_map]
    exact hn.imp fun hab z => hab (keyT.mp z)
  exact val_nodup hn2 (([Sum.inl p.1.1, Sum.inl p.1.2] : List Key), V.int p.2) (List.mem_map.mpr ⟨p, h, rfl⟩)
def vW (W : List ((Int × Int) × Int)) (k : Int × Int) : Int := ((W.find? fun p => decide (p.1 = k)).map (·.2)).getD 0
theorem vW_of : ∀ {W : List ((Int × Int) × Int)}, (W.map (·.1)).Nodup → ∀ {k : Int × Int} {v : Int}, (k, v) ∈ W → vW W k = v
  | [], _, k, v, h => nomatch h
  | p :: W, hn, k, v, h => by
    have n2 := List.nodup_cons.mp hn
    unfold vW
    rw [List.find?_cons]
    by_cases c : p.1 = k
    · rw [decide_eq_true c]
      rcases List.mem_cons.mp h with e | e
      · rw [← e]; rfl
      · exact absurd (List.mem_map.mpr ⟨(k, v), e, c.symm⟩) n2.1
    · rw [decide_eq_false c]
      rcases List.mem_cons.mp h with e | e
      · exact absurd (by rw [← e]) c
      · exact vW_of n2.2 e
section
variable {X : Cx}
def rSortedDT (K : PySem.W.Frag) : List V → Hp → VK → Prop := fun vs H Q => ∃ (d : Addr) (W : List ((Int × Int) × Int)), vs = [.ref d] ∧ H d = some (.dT (encT W)) ∧ (W.map (·.1)).Nodup ∧ W.length < 64 ∧
  ∀ (ks : List (Int × Int)) (xs : List V) (p : Addr) (H' : Hp), ks.Perm (W.map (·.1)) → ks.Pairwise (fun a b => a.1 < b.1 ∨ (a.1 = b.1 ∧ a.2 ≤ b.2)) → H p = none → Same H H' → H' p = some (.lst xs) → PrL K H' xs ks → Q (.ref p) H'
/-- a tuple of two ints of ours -/
theorem pair_of {pins : List (Addr × Obj)} {σ : L2.St} {H : Hp} {s : Shared} (I : Inv X pins σ H s) {t : Addr} {x y : Int} (h : H t = some (.tup [.int x, .int y])) : Srt.IsPair s.heap (.ref t) x y := by
  obtain ⟨_, its, rv, o, ho, hc, n, hd⟩ := I.hok t _ h
  obtain ⟨u1, u2, rfl, ⟨t1, rfl⟩, ⟨t2, rfl⟩⟩ := vals2 rv
  exact ⟨t, o, t1, t2, n, rfl, ho, hc, hd⟩
theorem cr_sDT (hc : X.calm = true) : CallR X (.builtin "sorted") (rSortedDT X.K) := by
  intro pins s σ H vs us Q I r h
  obtain ⟨d, W, rfl, hd, hnd, hl, q⟩ := h
  rw [Vals.ref1 r]
  obtain ⟨z, lo, xs', rel, o, es, ep, ho, hx, hdat, hes, his, hn⟩ := dt_of I.hok hd
  have l1 : (encT W).length = xs'.length := Paired.length rel
  have lW : (encT W).length = W.length := by unfold encT; rw [List.length_map]
  have l2 : es.size = xs'.length := size_of_entries hes
  have hz : es.size ≤ sizeLine := by rw [l2, ← l1]; exact z
  -- the keys, as they come
  have at_ : ∀ (j : Nat) (v : Value), (∃ hi : j < es.size, v = es[j].key) → ∃ (t : Addr) (p : (Int × Int) × Int), W[j]? = some p ∧ v = .ref t ∧ H t = some (.tup [.int p.1.1, .int p.1.2]) := by
    rintro j v ⟨hi, rfl⟩
    have hj : j < xs'.length := by omega
    have e1 : es[j]? = some (entryOfKey (tupleKind (mixKind X.prog X.w)) xs'[j]) := by rw [entry_at hes j, List.getElem?_eq_getElem hj]; rfl
    rw [Array.getElem?_eq_getElem hi] at e1
    have e2 := Option.some.inj e1
    obtain ⟨y, e3, e4, e5, _⟩   := paired_back rel (List.getElem?_eq_getElem hj)
    unfold encT at e3
    rw [List.getElem?_map] at e3
    obtain ⟨p, hp, e6⟩ := Option.map_eq_some_iff.mp e3
    rw [← e6] at e5
    exact ⟨xs'[j].2.1, p, hp, by rw [e2]; rfl, e5⟩
  refine sorted_collect (PySem.W.kdu_collect (A := X.A.in1) (PySem.KdlSrc.rawDict lo) (I.ok.hd hc) ⟨o, ho, hx, hdat⟩ hz fun h1 tk acc k1 hacc => ?_)
  have hal : acc.toList.length = W.length := by rw [Array.length_toList, hacc.1]; omega
  have hat : ∀ (j : Nat) (v : Value), acc.toList[j]? = some v → ∃ (t : Addr) (p : (Int × Int) × Int), W[j]? = some p ∧ v = .ref t ∧ H t = some (.tup [.int p.1.1, .int p.1.2]) := fun j v e => at_ j v (hacc.2 j v (by rw [← Array.getElem?_toList]; exact e))
  have hmem : ∀ v ∈ acc.toList, ∃ (t : Addr) (p : (Int × Int) × Int), p ∈ W ∧ v = .ref t ∧ H t = some (.tup [.int p.1.1, .int p.1.2]) := fun v hv => by
    obtain ⟨j, hj⟩ := List.getElem?_of_mem hv
    obtain ⟨t, p, e1, e2, e3⟩ := hat j v hj
    exact ⟨t, p, List.mem_of_getElem? e1, e2, e3⟩
  have hpair : ∀ v ∈ acc.toList, Srt.IsPair s.heap v (pairAt s.heap v).1 (pairAt s.heap v).2 := fun v hv => by
    obtain ⟨t, p, _, rfl, e3⟩ := hmem v hv
    exact pairAt_is (pair_of I e3)
  have hkeys : acc.toList.map (pairAt s.heap) = W.map (·.1) := by
    refine List.ext_getElem? fun j => ?_
    rw [List.getElem?_map, List.getElem?_map]
    cases e : acc.toList[j]? with
    | none =>
      rw [List.getElem?_eq_none (by have := List.getElem?_eq_none_iff.mp e; omega)]
      rfl
    | some v =>
      obtain ⟨t, p, e1, rfl, e3⟩ := hat j v e
      rw [e1]
      show some (pairAt s.heap (.ref t)) = some p.1
      rw [pairAt_of (pair_of I e3)]
  refine ⟨_, SrtO.swo_lex (pairAt s.heap), by rw [Array.length_toList, hacc.1]; exact hz, fun h2 h' b hb kk => ?_, fun out h' p ks kst kk hle hn => ?_⟩
  · refine SrtO.pairs_sortableO (s := { s with heap := h', toks := tk }) (by omega) (fun v hm => (hpair v hm).keeps fun b o e _ => (kk b o (k1 b o e)).2) fun o e => ?_
    have e' : some o = some (seqObj "list" acc.toList.toArray 0) := e.symm.trans hb
    cases e'
    intro c
    exact absurd (Value.type.inj c) (by decide)
  · obtain ⟨n, hn⟩ := hn
    have I1 : Inv X pins σ H { s with heap := h1, toks := tk } := I.kept (t' := tk) k1
    have hf : H p = none := I1.hok.fresh hle
    have houtm : ∀ v ∈ out, ∃ (t : Addr) (p : (Int × Int) × Int), p ∈ W ∧ v = .ref t ∧ H t = some (.tup [.int p.1.1, .int p.1.2]) := fun v hv => hmem v (kst.perm.mem_iff.mp hv)
    have hrefs : ∀ u ∈ out, ∃ a, u = Value.ref a := fun u hu => by
      obtain ⟨t, _, _, e, _⟩ := houtm u hu
      exact ⟨t, e⟩
    have hpm := kst.perm.map (pairAt s.heap)
    rw [hkeys] at hpm
    have hlen : (out.map backV).length ≤ sizeLine := by
      rw [List.length_map, kst.perm.length_eq, Array.length_toList, hacc.1]
      exact hz
    refine ⟨.ref p, upd H p (.lst (out.map backV)), I1.laid (t' := tk) kk hle ⟨hlen, out, n, vals_back hrefs, hn⟩, rfl, q (out.map (pairAt s.heap)) (out.map backV) p _ hpm (lex_srt ks) hf (same_new hf) upd_same ?_⟩
    refine paired_of (by rw [List.length_map, List.length_map]) fun j x k e1 e2 => ?_
    rw [List.getElem?_map] at e1 e2
    cases e : out[j]? with
    | none => rw [e] at e1; nomatch e1
    | some v =>
      rw [e] at e1 e2
      obtain ⟨t, pp, _, rfl, e3⟩ := houtm v (List.mem_of_getElem? e)
      have e4 : V.ref t = x := Option.some.inj e1
      have e5 : pairAt s.heap (.ref t) = k := Option.some.inj e2
      rw [pairAt_of (pair_of I e3)] at e5
      subst e4 e5
      exact P2.of (by rw [upd_ne (ne_of_none e3 hf)]; exact e3)
end
section
variable {P : Program} {w : World} {K : PySem.W.Frag} {mg : Str → Option Value} {base : Heap}
def spLRows (K : PySem.W.Frag) : Sp := fun vs H Q _ => ∃ (h k0 : Addr) (n last : Nat), vs = [.ref h, .int 4, .int last] ∧ HorV H h k0 n ∧ n ≤ 1000 ∧ 2 ≤ last ∧ last ≤ 8 ∧
  ∀ (H' : Hp) (a : Addr) (xs : List V) (rs : List (Int × Int × Int)) (c : Int), Ex [h] H H' → HorV H' h k0 (n + 100) → H' a = some (.lst xs) → H a = none → RwL K H' xs rs → (c = 0 ∨ c = 1) → 1 ≤ rs.length → rs.length ≤ 4 → (∀ r ∈ rs, rowIn last r ∧ (r.1 + r.2.1) % 2 = c ∧ r.2.2 ≠ 0) → (rs.map fun r => (r.1, r.2.1)).Nodup → (∃ r ∈ rs, r.2.1 = last) → Q (.ref a) H'
theorem ok_L_rows (T : Txt P K mg) : Cal P w K mg base 3 "_law_rows" (spLRows K) [] := by
  have h_L_mile := ok_L_mile (P := P) (w := w) (base := base) T
  have h_L_one := ok_L_one (P := P) (w := w) (base := base) T
  refine c_L_rows T (fun vs H Q E h => ?_) fun cdv A outer s H vs Q E hr h => ?_
  · obtain ⟨h, k0, n, last, rfl, _⟩ := h
    rfl
  obtain ⟨h, k0, n, last, rfl, hv, hn, hl2, hl8, hQ⟩ := h
  refine ⟨_, (pss_cons (ps_asg (pe_tup (pa_cons (pe_c h_L_mile hr (by decide) (by rfl) (pa_cons (pv 0) (pa_cons pe_int pa_nil))) (pa_cons pe_dnewT pa_nil))) (pg_tup rfl (pgs_cons (pg_name (i := 3) sc_L_rows.nd rfl (by first | exact Or.inl rfl | exact Or.inr rfl)) (pgs_cons (pg_name (i := 4) sc_L_rows.nd rfl (by first | exact Or.inl rfl | exact Or.inr rfl)) pgs_nil))))
      (pss_cons (ps_for PassesOwn.never rfl (pi_range1 rfl (z_range T) (pa_cons (pe_op op_add pe_int (pe_c h_L_mile hr (by decide) (by rfl) (pa_cons (pv 0) (pa_cons (pv 1) pa_nil)))) pa_nil)) (pg_name (i := 5) sc_L_rows.nd rfl (by first | exact Or.inl rfl | exact Or.inr rfl))
      (pss_cons (ps_set (i := 6) sc_L_rows.nd rfl (by first | exact Or.inl rfl | exact Or.inr rfl) (pe_ifExp (pt_cmpR op_eq (pv 5) pe_int (nomark _)) (pv 2) (pe_c h_L_mile hr (by decide) (by rfl) (pa_cons (pv 0) (pa_cons (pe_op op_add (pv 2) pe_int) pa_nil)))))
      (pss_cons (ps_set (i := 7) sc_L_rows.nd rfl (by first | exact Or.inl rfl | exact Or.inr rfl) (pe_op op_add (pe_op op_mul pe_int (pe_op op_sub (pe_c h_L_mile hr (by decide) (by rfl) (pa_cons (pv 0) (pa_cons pe_int pa_nil))) pe_int)) (pe_op op_mod (pe_callTy call_int1 (by rfl) (z_int T) (by decide +kernel) (pa_cons (pe_op op_add (pv 3) (pv 6)) pa_nil)) pe_int)))
      (pss_one (ps_dput (hu_of hr) (pv 4) (pe_tup (pa_cons (pv 6) (pa_cons (pv 7) pa_nil))) (pe_c h_L_one hr (by decide) (by rfl) (pa_cons (pv 0) (pa_cons (pe_lst (pa_cons pe_int (pa_cons pe_int (pa_cons (pe_un un_neg pe_int) (pa_cons pe_int (pa_cons (pe_un un_neg pe_int) (pa_cons pe_int pa_nil))))))) pa_nil))) rfl)))))
      (pss_one (ps_ret (pe_lc (own := [("_law_tick", 6), ("_law_spot", 7)]) (g := (gTup K 2 (gCons (gName 6) (gCons (gName 7) gNil)))) (tt := tYes) rfl sc_L_rows.nd (pi_list (pe_callB (cr_sDT rfl) (by rfl) (z_sorted T) (by decide +kernel) (pa_cons (pv 4) pa_nil))) (blkOk_by (own := [("_law_tick", 6), ("_law_spot", 7)]) (N := n_L_rows) (sc := defScope s_L_rows) (by decide +kernel)) (fun _ _ _ _ _ => (pg_tup rfl (pgs_cons (pg_name (i := 6) sc_L_rows.nd rfl (by first | exact Or.inl rfl | exact Or.inr rfl)) (pgs_cons (pg_name (i := 7) sc_L_rows.nd rfl (by first | exact Or.inl rfl | exact Or.inr rfl)) pgs_nil)))) (fun _ _ _ _ _ => pts_nil) (fun _ _ _ _ _ => (pe_tup (pa_cons (pv 7) (pa_cons (pv 6) (pa_cons (pe_dget (hu_of hr) (pv 4) (pe_tup (pa_cons (pv 6) (pa_cons (pv 7) pa_nil))) (fun _ _ => rfl)) pa_nil)))))))))), ?_⟩
  have hhE : ∃ u, H h = some u := by
    obtain ⟨_, _, _, q, _⟩ := hv
    exact ⟨_, q⟩
  obtain ⟨uh, huh⟩ := hhE
  have hk0E : ∃ u, H k0 = some u := by
    obtain ⟨_, _, _, _, q, _⟩ := hv
    exact ⟨_, q⟩
  obtain ⟨uk, huk⟩ := hk0E
  refine ⟨_, rfl, h, k0, 2, n, rfl, by decide, by decide, hv, by omega, fun c H1 hc1 ex1 hv1 => ?_⟩
  refine fun D hD => ⟨by show 2 ≤ sizeLine; decide, fun tp htp => ?_⟩
  have hDh : D ≠ h := fun z => by
    obtain ⟨_, _, _, q, _⟩ := hv1
    rw [← z, hD] at q
    nomatch q
  have hD0 : H D = none := by
    cases q : H D with
    | none => rfl
    | some u => rw [ex1 D u (by simp [hDh]) q] at hD; nomatch hD
  have hDk : k0 ≠ D := ne_of_none huk hD0
  have sD := same_new (o := .dT []) hD
  have sT := same_new (o := .tup [.int (c : Nat), .ref D]) htp
  have s12 := sD.trans sT
  refine ⟨tp, _, rfl, .inl (.inl upd_same), rfl, _, _, rfl, _, _, rfl, rfl, ?_⟩
  have hD2 : upd (upd H1 D (.dT [])) tp (.tup [.int (c : Nat), .ref D]) D = some (.dT (encT [])) := sT _ _ upd_same
  have hv2 := hv1.mono s12 (Nat.le_refl _)
  have ex2 : Ex [h] H (upd (upd H1 D (.dT [])) tp (.tup [.int (c : Nat), .ref D])) := ex1.trans (Ex.of s12)
  generalize upd (upd H1 D (.dT [])) tp (.tup [.int (c : Nat), .ref D]) = H2 at hD2 hv2 ex2
  refine ⟨_, rfl, _, rfl, h, k0, 4, _, rfl, by decide, by decide, hv2, by omega, fun r H3 hr3 ex3 hv3 => ?_⟩
  refine ⟨_, _, rfl, rfl, _, rfl, by omega, by omega, ?_⟩
  rw [show ((1 : Int) + (r : Int)).toNat = r + 1 by omega]
  have hD3 : H3 D = some (.dT (encT [])) := ex3 D _ (by simp [hDh]) hD2
  refine for_it walk_range (fun i σ H' => ∃ (e5 e6 e7 : Option V) (W : List ((Int × Int) × Int)), σ = [some (.ref h), some (.int 4), some (.int last), some (.int (c : Nat)), some (.ref D), e5, e6, e7] ∧ Ex [h] H H' ∧ HorV H' h k0 (n + 2 + 4 * i) ∧ H' D = some (.dT (encT W)) ∧ (W.map (·.1)).Nodup ∧ W.length ≤ i ∧ (0 < i → ∃ j ∈ W.map (·.1), j.1 = (last : Int)) ∧
      ∀ q ∈ W, 0 ≤ q.1.1 ∧ q.1.1 ≤ last ∧ -6 ≤ q.1.2 ∧ q.1.2 ≤ 7 ∧ (q.1.2 + q.1.1) % 2 = (c : Int) ∧ -1000000 ≤ q.2 ∧ q.2 ≤ 1000000 ∧ q.2 ≠ 0)
    ⟨_, _, _, [], rfl, ex2.trans ex3, hv3, hD3, List.nodup_nil, Nat.le_refl _, fun h => absurd h (by decide), fun q h => (nomatch h)⟩ (fun _ _ _ _ _ => True.intro) ?_ ?_
  · rintro i x σ H4 H5 hi ⟨e5, e6, e7, W, rfl, ex5, hv5, hD5, hnd, hwl, hlast, hW⟩ ⟨rfl, hxv⟩
    obtain rfl : x = .int i := by rw [hxv]; show V.int (0 + (i : Int)) = _; rw [Int.zero_add]
    have hD0' : H D = none := hD0
    have fin : ∀ (t : Int) (H5 : Hp) (n5 : Nat) (sp v : Int), 0 ≤ t → t ≤ last → (i = 0 → t = last) → -6 ≤ sp → sp ≤ 7 → (sp + t) % 2 = (c : Int) → -1000000 ≤ v → v ≤ 1000000 → v ≠ 0 → Ex [h] H H5 → HorV H5 h k0 n5 → n5 ≤ n + 2 + 4 * (i + 1) →
        ∃ (W' : List ((Int × Int) × Int)), Ex [h] H (upd H5 D (.dT (putK (encT W) [Sum.inl t, Sum.inl sp] (.int v)))) ∧ HorV (upd H5 D (.dT (putK (encT W) [Sum.inl t, Sum.inl sp] (.int v)))) h k0 (n + 2 + 4 * (i + 1)) ∧ upd H5 D (.dT (putK (encT W) [Sum.inl t, Sum.inl sp] (.int v))) D = some (.dT (encT W')) ∧ (W'.map (·.1)).Nodup ∧ W'.length ≤ i + 1 ∧ (0 < i + 1 → ∃ j ∈ W'.map (·.1), j.1 = (last : Int)) ∧
          ∀ q ∈ W', 0 ≤ q.1.1 ∧ q.1.1 ≤ last ∧ -6 ≤ q.1.2 ∧ q.1.2 ≤ 7 ∧ (q.1.2 + q.1.1) % 2 = (c : Int) ∧ -1000000 ≤ q.2 ∧ q.2 ≤ 1000000 ∧ q.2 ≠ 0 := by
      intro t H5 n5 sp v ht1 ht2 ht0 hs1 hs2 hsc hv1 hv2 hv0 ex6 hv6 hn6
      refine ⟨putP W (t, sp) v, ex6.fresh hD0', ?_, ?_, putP_nd hnd, Nat.le_trans putP_len (Nat.succ_le_succ hwl), fun _ => ?_, fun q hq => ?_⟩
      · obtain ⟨cells, a, rr, q1, q2, q3, q4, q5, q6⟩ := hv6
        exact ⟨cells, a, rr, by rw [upd_ne hDh.symm]; exact q1, by rw [upd_ne hDk]; exact q2, q3, q4, q5, by omega⟩
      · rw [← putK_T]
        exact upd_same
      · by_cases c0 : i = 0
        · exact ⟨(t, sp), putP_key (.inr rfl), ht0 c0⟩
        · obtain ⟨j, hj, e⟩ := hlast (by omega)
          exact ⟨j, putP_key (.inl hj), e⟩
      · rcases putP_mem hq with rfl | hq
        · exact ⟨ht1, ht2, hs1, hs2, hsc, hv1, hv2, hv0⟩
        · exact hW q hq
    refine ⟨_, rfl, rfl, _, rfl, ?_⟩
    by_cases c0 : i = 0
    · rw [decide_eq_true (show V.int (i : Int) = V.int 0 by rw [c0]; rfl)]
      refine iteT ⟨_, rfl, ?_⟩
      have b1 : (0 : Int) ≤ (last : Int) ∧ (last : Int) ≤ last ∧ (i = 0 → (last : Int) = last) := ⟨by omega, Int.le_refl _, fun _ => rfl⟩
      have ex7 := ex5
      have hv7 := hv5
      have hn7 : n + 2 + 4 * i ≤ n + 2 + 4 * i + 1 := by omega
      have hD7 := hD5
      refine ⟨_, rfl, h, k0, 7, _, rfl, by decide, by decide, hv7, by omega, fun r8 H8 hr8 ex8 hv8 => ⟨_, _, rfl, rfl, _, _, rfl, rfl, .inl ⟨by decide, by decide⟩, ?_⟩⟩
      refine ⟨_, rfl, _, rfl, _, _, rfl, rfl, .inl ⟨_, rfl, _, _, rfl, rfl, (by decide : (0 : Int) < 2), _, _, rfl, rfl, ?_⟩⟩
      refine ⟨_, rfl, _, rfl, _, rfl, by show 6 ≤ sizeLine; decide, fun LL hLL => ?_⟩
      have sL := same_new (o := .lst [.int 1, .int 1, .int (-1), .int 2, .int (-3), .int 1000000]) hLL
      have nLh : LL ≠ h := fun z => by
        obtain ⟨_, _, _, q, _⟩ := hv8
        rw [← z, hLL] at q
        nomatch q
      refine ⟨h, k0, LL, _, _, rfl, upd_same, nLh, by show 1 ≤ 6; decide, by show 6 ≤ 1000; decide, hv8.mono sL (Nat.le_refl _), by omega, fun j v H9 hj ex9 hv9 => ?_⟩
      obtain ⟨wv, rfl, hwv1, hwv2, hwv3⟩ : ∃ wv : Int, v = .int wv ∧ -1000000 ≤ wv ∧ wv ≤ 1000000 ∧ wv ≠ 0 := by
        have hm := List.mem_of_getElem? hj
        simp only [List.mem_cons, List.not_mem_nil, or_false] at hm
        rcases hm with e | e | e | e | e | e
        · exact ⟨1, e, by decide, by decide, by decide⟩
        · exact ⟨1, e, by decide, by decide, by decide⟩
        · exact ⟨-1, e, by decide, by decide, by decide⟩
        · exact ⟨2, e, by decide, by decide, by decide⟩
        · exact ⟨-3, e, by decide, by decide, by decide⟩
        · exact ⟨1000000, e, by decide, by decide, by decide⟩
      refine ⟨_, rfl, _, rfl, _, rfl, by show 2 ≤ sizeLine; decide, fun T1 hT1 => ?_⟩
      have sT : ∀ o, Same H9 (upd H9 T1 o) := fun o => same_new hT1
      have hD9 : H9 D = some (.dT (encT W)) := ex9 D _ (by simp [hDh]) (sL _ _ (ex8 D _ (by simp [hDh]) hD7))
      refine ⟨D, _, rfl, DPut.t (k := [Sum.inl _, Sum.inl _]) (sT _ _ _ hD9) upd_same (by unfold encT; rw [List.length_map]; exact sz_of (by omega)), ?_⟩
      obtain ⟨W', z⟩ := fin (last : Int) _ _ (2 * ((r8 : Int) - 3) + ((c : Int) + (last : Int)) % 2) wv b1.1 b1.2.1 b1.2.2 (by omega) (by omega) (by omega) hwv1 hwv2 hwv3 (((ex7.trans (ex8.trans (Ex.of sL))).trans ex9).trans (Ex.of (sT _))) (hv9.mono (sT _) (Nat.le_refl _)) (by omega)
      exact ⟨_, _, _, W', rfl, z⟩
    · rw [decide_eq_false (show ¬ V.int (i : Int) = V.int 0 from fun z => c0 (by have := V.int.inj z; omega))]
      refine iteF ⟨_, rfl, _, rfl, _, _, rfl, rfl, h, k0, last + 1, _, ?_, by omega, by omega, hv5, by omega, fun r7 H7 hr7 ex7' hv7 => ?_⟩
      · rw [Int.natCast_add]; rfl
      have b1 : (0 : Int) ≤ (r7 : Int) ∧ (r7 : Int) ≤ last ∧ (i = 0 → (r7 : Int) = last) := ⟨by omega, by omega, fun z => absurd z c0⟩
      have ex7 := ex5.trans ex7'
      have hn7 : n + 2 + 4 * i + 1 ≤ n + 2 + 4 * i + 1 := Nat.le_refl _
      have hD7 := ex7' D _ (by simp [hDh]) hD5
      refine ⟨_, rfl, h, k0, 7, _, rfl, by decide, by decide, hv7, by omega, fun r8 H8 hr8 ex8 hv8 => ⟨_, _, rfl, rfl, _, _, rfl, rfl, .inl ⟨by decide, by decide⟩, ?_⟩⟩
      refine ⟨_, rfl, _, rfl, _, _, rfl, rfl, .inl ⟨_, rfl, _, _, rfl, rfl, (by decide : (0 : Int) < 2), _, _, rfl, rfl, ?_⟩⟩
      refine ⟨_, rfl, _, rfl, _, rfl, by show 6 ≤ sizeLine; decide, fun LL hLL => ?_⟩
      have sL := same_new (o := .lst [.int 1, .int 1, .int (-1), .int 2, .int (-3), .int 1000000]) hLL
      have nLh : LL ≠ h := fun z => by
        obtain ⟨_, _, _, q, _⟩ := hv8
        rw [← z, hLL] at q
        nomatch q
      refine ⟨h, k0, LL, _, _, rfl, upd_same, nLh, by show 1 ≤ 6; decide, by show 6 ≤ 1000; decide, hv8.mono sL (Nat.le_refl _), by omega, fun j v H9 hj ex9 hv9 => ?_⟩
      obtain ⟨wv, rfl, hwv1, hwv2, hwv3⟩ : ∃ wv : Int, v = .int wv ∧ -1000000 ≤ wv ∧ wv ≤ 1000000 ∧ wv ≠ 0 := by
        have hm := List.mem_of_getElem? hj
        simp only [List.mem_cons, List.not_mem_nil, or_false] at hm
        rcases hm with e | e | e | e | e | e
        · exact ⟨1, e, by decide, by decide, by decide⟩
        · exact ⟨1, e, by decide, by decide, by decide⟩
        · exact ⟨-1, e, by decide, by decide, by decide⟩
        · exact ⟨2, e, by decide, by decide, by decide⟩
        · exact ⟨-3, e, by decide, by decide, by decide⟩
        · exact ⟨1000000, e, by decide, by decide, by decide⟩
      refine ⟨_, rfl, _, rfl, _, rfl, by show 2 ≤ sizeLine; decide, fun T1 hT1 => ?_⟩
      have sT : ∀ o, Same H9 (upd H9 T1 o) := fun o => same_new hT1
      have hD9 : H9 D = some (.dT (encT W)) := ex9 D _ (by simp [hDh]) (sL _ _ (ex8 D _ (by simp [hDh]) hD7))
      refine ⟨D, _, rfl, DPut.t (k := [Sum.inl _, Sum.inl _]) (sT _ _ _ hD9) upd_same (by unfold encT; rw [List.length_map]; exact sz_of (by omega)), ?_⟩
      obtain ⟨W', z⟩ := fin (r7 : Int) _ _ (2 * ((r8 : Int) - 3) + ((c : Int) + (r7 : Int)) % 2) wv b1.1 b1.2.1 b1.2.2 (by omega) (by omega) (by omega) hwv1 hwv2 hwv3 (((ex7.trans (ex8.trans (Ex.of sL))).trans ex9).trans (Ex.of (sT _))) (hv9.mono (sT _) (Nat.le_refl _)) (by omega)
      exact ⟨_, _, _, W', rfl, z⟩
  · rintro σ H4 ⟨e5, e6, e7, W, rfl, ex4, hv4, hD4, hnd, hwl, hlast, hW⟩
    refine ⟨_, rfl, D, W, rfl, hD4, hnd, by omega, fun ks xs p H5 hperm hsort hp s5 hlx hpr => ⟨p, rfl, ⟨xs, .inl (.inl hlx)⟩, fun D2 hD2 => ?_⟩⟩
    have hxl : xs.length = ks.length := Paired.length hpr
    have hkl : ks.length = W.length := by rw [hperm.length_eq, List.length_map]
    have hD5 : H5 D = some (.dT (encT W)) := s5 _ _ hD4
    refine lc_map walk_list (fun i z H' => ∃ (k : Int × Int) (v : Int), ks[i]? = some k ∧ (k, v) ∈ W ∧ P3 K H' z (k.2, k.1, v)) hD2 (fun _ _ _ _ e ⟨k, v, h1, h2, h3⟩ => ⟨k, v, h1, h2, h3.im e⟩) (by omega) (fun H' e => e.seq (.inl (.inl hlx))) ?_ ?_
    · rintro i x H6 H7 N Q1 hi s6 ⟨rfl, hx⟩ hq
      obtain ⟨k, hk, xa, rfl, hP⟩ := paired_at hpr hx
      obtain ⟨w, hw, ek⟩ := List.mem_map.mp (hperm.mem_iff.mp (List.mem_of_getElem? hk))
      refine ⟨xa, _, rfl, Same.sqt s6 hP, rfl, _, _, rfl, _, _, rfl, rfl, rfl, tyes ?_⟩
      have hkw : (k, w.2) ∈ W := by rw [← ek]; exact hw
      have hv8 := valT hnd hkw
      refine ⟨_, rfl, _, rfl, _, rfl, _, rfl, _, rfl, by show 2 ≤ sizeLine; decide, fun T1 hT1 => ?_⟩
      have sT := same_new (o := .tup [.int k.1, .int k.2]) hT1
      refine ⟨D, .int w.2, rfl, by rw [← hv8]; exact DGet.t (k := [Sum.inl k.1, Sum.inl k.2]) (sT _ _ (s6 _ _ hD5)) upd_same, by show 3 ≤ sizeLine; decide, fun T2 hT2 => ?_⟩
      have sT2 := same_new (o := .tup [.int k.2, .int k.1, .int w.2]) hT2
      exact hq _ _ (sT.trans sT2) ⟨k, w.2, hk, hkw, T2, rfl, .inl (.inl upd_same)⟩
    · rintro H6 acc s6 hacc hal hf
      have smF : Ex [h] H H6 := (ex4.trans (Ex.of s5)).trans (Ex.of fun b u e => s6 b u e)
      have hD20 : H D2 = none := by
        cases q : H D2 with
        | none => rfl
        | some u =>
          have nD2h : D2 ≠ h := fun z => by
            obtain ⟨_, _, _, q, _⟩ := hv4
            have q2 := s5 _ _ q
            rw [← z, hD2] at q2
            nomatch q2
          rw [s5 _ _ (ex4 D2 u (by simp [nD2h]) q)] at hD2
          nomatch hD2
      have hmemk : ∀ k ∈ ks, (k, vW W k) ∈ W := fun k hk => by
        obtain ⟨w, hw, ek⟩ := List.mem_map.mp (hperm.mem_iff.mp hk)
        have hkw : (k, w.2) ∈ W := by rw [← ek]; exact hw
        rw [vW_of hnd hkw]
        exact hkw
      have hrows : ∀ r ∈ ks.map (fun k => (k.2, k.1, vW W k)), rowIn last r ∧ (r.1 + r.2.1) % 2 = (c : Int) ∧ r.2.2 ≠ 0 := fun r hr => by
        obtain ⟨k, hk, rfl⟩ := List.mem_map.mp hr
        obtain ⟨q1, q2, q3, q4, q5, q6, q7, q8⟩ := hW _ (hmemk k hk)
        exact ⟨⟨q3, q4, q1, q2, q6, q7⟩, q5, q8⟩
      refine hQ H6 D2 acc (ks.map fun k => (k.2, k.1, vW W k)) c smF (hv4.mono (s5.trans fun b u e => s6 b u e) (by omega)) hacc hD20 ?_ (by omega) ?_ (by rw [List.length_map]; omega) hrows ?_ ?_
      · refine paired_of (by rw [hal, hxl, List.length_map]) fun i z r h1 h2 => ?_
        obtain ⟨k, v, e1, e2, e3⟩ := hf i z h1
        rw [List.getElem?_map, e1] at h2
        have e4 := Option.some.inj h2
        rw [← e4]
        show P3 K H6 z (k.2, k.1, vW W k)
        rw [vW_of hnd e2]
        exact e3
      · rw [List.length_map]
        obtain ⟨j, hj, _⟩ := hlast (by omega)
        have := List.length_pos_of_mem (hperm.mem_iff.mpr hj)
        omega
      · rw [List.map_map]
        have hkn : ks.Nodup := hperm.nodup_iff.mpr hnd
        unfold List.Nodup at hkn ⊢
        rw [List.pairwise_map]
        exact hkn.imp fun hab z => hab (Prod.ext (congrArg Prod.snd z) (congrArg Prod.fst z))
      · obtain ⟨j, hj, e⟩ := hlast (by omega)
        exact ⟨_, List.mem_map.mpr ⟨j, hperm.mem_iff.mpr hj, rfl⟩, e⟩
end
end K86
end
section
set_option Elab.async false
set_option linter.all false
set_option maxRecDepth 100000
set_option maxHeartbeats 4000000
namespace K86
open PySem PySem.Spec PyProof.Rows L2
open C8 (Cal Met Mak pe_c pe_mk pe_mt pe_mt0)
/-- list(d.values()) -/
def tListVals (td : TE) : TE := fun σ H Q => td σ H fun x H1 => ∃ (β : Type) (d : Addr) (f : β → V) (L : List (Int × β)), x = .ref d ∧ H1 d = some (.dK (enc f L)) ∧ L.length ≤ 1000 ∧ ∀ p, H1 p = none → Q (.ref p) (upd H1 p (.lst (L.map fun q => f q.2)))
section
variable {X : Cx}
theorem pe_listVals {o : Expr} {td : TE} {p p1 p2 pos : Pos} (hc : X.calm = true) (hg : Gl X "list") (hm : X.mg "list" = none) (ho : PE X o td) (hb : attributeBase o "values" X.env (eval o X.env) = eval o X.env := by rfl) (hl : (p1.endLine == p2.line) = true := by rfl)
    (na : starEach [.Call (.Attribute o "values" p1) [] [] p2] X.env = (false, eval (.Call (.Attribute o "values" p1) [] [] p2) X.env) :: starEach [] X.env := by rfl) : PE X (.Call (.Name "list" p) [.Call (.Attribute o "values" p1) [] [] p2] [] pos) (tListVals td) := by
  refine ⟨fun pins s σ H Q I hq => ?_⟩
  refine wpAny_Call_Name_kw (ld_blt I hg hm (by decide +kernel : bootBuiltins "list" = some (.type "list")) ?_)
  refine PyProof.Rows.callWith_type1 ?_ na rfl
  rw [na]
  show wpAny _ _ (spliced ((false, eval (.Call (.Attribute o "values" p1) [] [] p2) X.env) :: backTo pos (starEach [] X.env))) _ _ s
  refine Calls.spliced_cons ?_
  refine wpAny_Call_method (T := "dict") (id := "dict.values") hb rfl hl PySem.F.plainAttrs_dict PySem.F.slot_dict_values PySem.F.type_dict_values (thn (ho.run pins s σ H _ I hq) fun u s1 ⟨x, H1, I1, rx, β, d, f, L, ex, hd, hln, q⟩ => ?_)
  subst ex
  obtain rfl : u = Value.ref d := rx
  obtain ⟨hz, hs0, vs, kv, hdo⟩ := I1.hok d _ hd
  obtain ⟨ep, hat⟩ := hdo.dictAt
  have lk : (enc f L).length = vs.length := Paired.length kv
  have hvl : vs.length ≤ sizeLine := by rw [← lk]; exact hz
  have I2 : Inv X pins σ H1 { s1 with heap := s1.heap.push { cls := .type "dict_values", data := .fields #[.ref d] } } := I1.kept (t' := s1.toks) fun b ob q => Heap.get?_push_of_some _ q
  refine ⟨hdo.typeIs, hdo.mapOf.noDict, ?_⟩
  show wpAny _ _ (callWith p2 (.builtin "dict.values") [.ref d] [] []) _ X.xe s1
  refine method_meetsIn PySem.F.slot_dict_values PySem.F.entry_dict_values rfl (PySem.evalArgs_none ⟨rfl, hdo.typeIs, PySem.F.args_dict_values_1 _, _, meets_dict_values (mixKind X.prog X.w) d hs0, ⟨vs, hdo⟩, ?_⟩)
  refine Calls.spliced_nil ?_
  refine PySem.W.kdl_call (PySem.W.kdl_values (knd := mixKind X.prog X.w) (kvs := vs) (ep := ep)) (I1.ok.hd hc) ⟨⟨_, Heap.get?_push_size _ rfl, rfl, rfl⟩, hat.push _⟩ hvl fun h' tk acc c hk hS hacc => ?_
  have hf : H1 (s1.heap.push { cls := .type "dict_values", data := .fields #[.ref d] }).objs.size = none := I2.hok.fresh (Nat.le_refl _)
  have rv : Vals (L.map fun q => f q.2) acc.toList := paired_of (by
      have h1 : acc.toList.length = vs.length := by rw [Array.length_toList]; exact hacc.1
      have h2 : (enc f L).length = L.length := by unfold enc; rw [List.length_map]
      rw [List.length_map]
      omega) fun j x u e1 e2 => by
    obtain ⟨k, e3⟩ := hacc.2 j u (by rw [← Array.getElem?_toList]; exact e2)
    obtain ⟨y, e4, _, e5⟩ := paired_back kv e3
    unfold enc at e4
    rw [List.getElem?_map] at e1 e4
    obtain ⟨a1, b1, b2⟩ := Option.map_eq_some_iff.mp e1
    rw [b1] at e4
    have e6 := Option.some.inj e4
    rw [← b2]
    rw [← e6] at e5
    exact e5
  refine ⟨.ref _, upd H1 _ (.lst (L.map fun q => f q.2)), I2.laid (t' := tk) hk (Nat.le_refl _) ⟨by rw [List.length_map]; exact Nat.le_trans hln (by decide), acc.toList, c, rv, ?_⟩, rfl, q _ hf⟩
  rw [Array.toArray_toList]
  exact hS
theorem cr_dictXK {K : PySem.W.Frag} (hk : X.K = K) (hc : X.calm = true) : CallR X (.type "dict") (rDictX K) := by
  subst hk
  exact cr_dictX hc
end
/-- as lc_map, for items that have parts that may change -/
theorem lc_mapX {J : It} {n : Nat} {G : Hp → Prop} {Y : Nat → Hp → V → Hp → Prop} (w : Walk J n G Y) {g : TG} {tt : TT} {te : TE} {vs : List Nat} {σ : L2.St} {H1 : Hp} {D : Addr} {Qd : Hp → Prop} (f : Nat → V → Hp → Prop) (hD : H1 D = none)
    (hf : ∀ i y H H', H D ≠ none → (∃ xs, H D = some (.lst xs)) → Ex [D] H H' → f i y H → f i y H') (hn : n ≤ 100000) (hG : ∀ H, Same H1 H → G H)
    (hs : ∀ i x H H' (N : Hp → Prop) (Q : VK), i < n → Same H1 H → (∃ xs, H D = some (.lst xs)) → Y i H x H' → (∀ y H4, Same H H4 → f i y H4 → Q y H4) → g x (wipe σ vs) H' fun σ2 H2 => wipe σ2 vs = wipe σ vs ∧ tt σ2 H2 fun b H3 => if b = true then te σ2 H3 Q else N H3)
    (hd : ∀ H acc, Same H1 H → H D = some (.lst acc) → acc.length = n → (∀ (i : Nat) y, acc[i]? = some y → f i y H) → Qd H) :
    ∃ W : Nat → Nat → Hp → Prop, (∃ m, W 0 m (upd H1 D (.lst []))) ∧ ∀ i m H, W i m H →
      (J.stop i H ∧ Qd H) ∨ (J.go i H ∧ ∃ Nx : Hp → Prop, (∀ H', Nx H' → ∃ m', m' < m ∧ W (i + 1) m' H') ∧ ∀ x H', J.yld i H x H' → g x (wipe σ vs) H' fun σ2 H2 => wipe σ2 vs = wipe σ vs ∧ tt σ2 H2 fun b H3 =>
        if b = true then te σ2 H3 fun y H4 => ∃ acc, H4 D = some (.lst acc) ∧ acc.length < sizeLine ∧ Nx (upd H4 D (.lst (acc ++ [y]))) else Nx H3) := by
  refine lc_it w (fun i H => Same H1 H ∧ ∃ acc, H D = some (.lst acc) ∧ acc.length = i ∧ ∀ (j : Nat) y, acc[j]? = some y → f j y H) ⟨same_new hD, [], upd_same, rfl, fun j y e => by simp at e⟩ (fun i H _ p => hG H p.1) ?_ fun H p => ?_
  · rintro i x H H' hi ⟨sm, acc, hacc, hl, hal⟩ y
    refine hs i x H H' _ _ hi sm ⟨acc, hacc⟩ y fun v H4 sm4 hv => ?_
    have hD4 : H4 D = some (.lst acc) := sm4 D _ hacc
    have ex : Ex [D] H4 (upd H4 D (.lst (acc ++ [v]))) := Ex.mut (by simp)
    refine ⟨acc, hD4, Nat.lt_of_lt_of_le (Nat.lt_of_le_of_lt (Nat.le_of_eq hl) (Nat.lt_of_lt_of_le hi hn)) (by decide), same_mut (sm.trans sm4) hD, acc ++ [v], upd_same, by rw [List.length_append, hl]; rfl, fun j y e => ?_⟩
    by_cases hj : j < acc.length
    · rw [List.getElem?_append_left hj] at e
      exact hf j y _ _ (by rw [hacc]; simp) ⟨acc, hacc⟩ ((Ex.of sm4).trans ex) (hal j y e)
    · rw [List.getElem?_append_right (by omega)] at e
      have e2 : j - acc.length = 0 := by
        cases q : j - acc.length with
        | zero => rfl
        | succ z => rw [q] at e; simp at e
      rw [e2] at e
      have e3 : v = y := by simpa using e
      have ej : j = i := by omega
      rw [← e3, ej]
      exact hf i v _ _ (by rw [hD4]; simp) ⟨acc, hD4⟩ ex hv
  · obtain ⟨sm, acc, h1, h2, h3⟩ := p
    exact hd H acc sm h1 h2 h3
theorem Ex.sqt {K : PySem.W.Frag} {H H' : Hp} {D a : Addr} {us xs : List V} (e : Ex [D] H H') (h : H D = some (.lst us)) (q : SqT K H a xs) : SqT K H' a xs :=
  Im.sqt ⟨fun b zs y => e b _ (fun z => by rw [List.mem_singleton.mp z, h] at y; nomatch y) y, fun b o zs y => e b _ (fun z => by rw [List.mem_singleton.mp z, h] at y; nomatch y) y⟩ q
section
variable {P : Program} {w : World} {K : PySem.W.Frag} {mg : Str → Option Value} {base : Heap}
def chgF (rs : List (Int × Int × Int)) (last : Nat) : Int → Int → Int := fun y t => chgI rs last y t.toNat
theorem own_len (rs : List (Int × Int × Int)) {last : Nat} (hl : last ≤ 8) (c y : Int) : (ownL rs last c y).length ≤ 8 := by
  unfold ownL tickL
  rw [List.length_map]
  have h := List.length_filter_le (fun t : Nat => decide ((y + (t : Int) + c) % 2 = 0)) (List.range last)
  rw [List.length_range] at h
  omega
theorem own_nd (rs : List (Int × Int × Int)) (last : Nat) (c y : Int) : (keysL (ownL rs last c y)).Nodup := by
  unfold keysL ownL tickL
  rw [List.map_map]
  have h : (List.range last).Nodup := List.nodup_range
  have h2 := h.filter fun t : Nat => decide ((y + (t : Int) + c) % 2 = 0)
  unfold List.Nodup at h2 ⊢
  exact List.Pairwise.map _ (fun a b hab => by show (a : Int) ≠ (b : Int); omega) h2
theorem own_at (rs : List (Int × Int × Int)) {last : Nat} {c y : Int} {t : Nat} (h : t < last) (e : (y + (t : Int) + c) % 2 = 0) : at0 (ownL rs last c y) t = chgF rs last y t := by
  unfold at0
  rw [getL_of (own_nd rs last c y) (k := (t : Int)) (v := chgI rs last y t) (List.mem_map.mpr ⟨t, List.mem_filter.mpr ⟨List.mem_range.mpr h, decide_eq_true e⟩, rfl⟩)]
  show chgI rs last y t = chgI rs last y ((t : Int)).toNat
  rw [Int.toNat_natCast]
theorem own_vals (rs : List (Int × Int × Int)) {last : Nat} (hl : last ≤ 8) (c y : Int) : (ownL rs last c y).map (·.2) = csP (chgF rs last) last c y := by
  unfold ownL tickL
  rw [List.map_map, ← tick_eq hl c y (chgF rs last)]
  refine List.map_congr_left fun t _ => ?_
  show chgI rs last y t = chgI rs last y ((t : Int)).toNat
  rw [Int.toNat_natCast]
theorem enc_ne {L : List (Int × Int)} {M : List (Int × Addr)} (h : 0 < M.length) (e : enc V.ref M = enc V.int L) : False := by
  cases M with
  | nil => exact absurd h (by decide)
  | cons m M =>
    cases L with
    | nil => nomatch e
    | cons l L =>
      have h1 := (Prod.mk.inj (List.cons.inj e).1).2
      nomatch h1
theorem getL_some {β : Type} {L : List (Int × β)} {y : Int} (h : y ∈ keysL L) : ∃ v, getL L y = some v := by
  cases e : getL L y with
  | none => exact absurd h (getL_none.mp e)
  | some v => exact ⟨v, rfl⟩
def spLAdded (K : PySem.W.Frag) : Sp := fun vs H Q _ => ∃ (a : Addr) (xs : List V) (rs : List (Int × Int × Int)) (last : Nat) (c : Int) (t1 : Addr) (ys : List V) (ps : List (Int × Int)) (t2 : Addr) (ns : List Int) (h : Int → Int) (L : Int → Bool), vs = [.ref a, .int last, .ref t1, .ref t2] ∧ H a = some (.lst xs) ∧ RwL K H xs rs ∧ 1 ≤ rs.length ∧ rs.length ≤ 40 ∧ last ≤ 8 ∧
  (∀ r ∈ rs, rowIn last r ∧ (r.1 + r.2.1) % 2 = c) ∧ (c = 0 ∨ c = 1) ∧ TupX H t1 ys ∧ PrL K H ys ps ∧ SqT K H t2 (ns.map V.int) ∧ HpsOk 40 ps h ∧ LfsOk 40 ns L ∧ Col c h ∧ (∀ y, addS h L (chgF rs last) last y = (btEnd (csP (chgF rs last) last c y)).1) ∧ RetV H Q fun v _ => v = .bl true
theorem ok_L_added (T : Txt P K mg) : Cal P w K mg base 3 "_law_added" (spLAdded K) [] := by
  have h_L_changes := ok_L_changes (P := P) (w := w) (base := base) T
  have h_L_sent := ok_L_sent (P := P) (w := w) (base := base) T
  have h_L_greatest := ok_L_greatest (P := P) (w := w) (base := base) T
  refine c_L_added T (fun vs H Q E h => ?_) fun cdv A outer s H vs Q E hr h => ?_
  · obtain ⟨a, xs, rs, last, c, t1, ys, ps, t2, ns, h, L, rfl, _⟩ := h
    rfl
  obtain ⟨a, xs, rs, last, c, t1, ys, ps, t2, ns, h, L, rfl, ha, hrs, hr1, hr2, hl8, hin, hc, ht1, hys, ht2, hh, hL, hcol, hbest, hQ⟩ := h
  refine ⟨_, (pss_cons (ps_asg (pe_tup (pa_cons (pe_callTy (cr_dictX rfl) (by rfl) (z_dict T) (by decide +kernel) (pa_cons (pv 2) pa_nil)) (pa_cons (pe_callTy (cr_dictX rfl) (by rfl) (z_dict T) (by decide +kernel) (pa_cons (pe_lc (own := [("_law_spot", 7)]) (g := (gName 7)) (tt := tYes) rfl sc_L_added.nd (pi_tup (pv 3)) (blkOk_by (own := [("_law_spot", 7)]) (N := n_L_added) (sc := defScope s_L_added) (by decide +kernel)) (fun _ _ _ _ _ => (pg_name (i := 7) sc_L_added.nd rfl (by first | exact Or.inl rfl | exact Or.inr rfl))) (fun _ _ _ _ _ => pts_nil) (fun _ _ _ _ _ => (pe_tup (pa_cons (pv 7) (pa_cons pe_bl pa_nil))))) pa_nil)) (pa_cons pe_dnewK pa_nil)))) (pg_tup rfl (pgs_cons (pg_name (i := 4) sc_L_added.nd rfl (by first | exact Or.inl rfl | exact Or.inr rfl)) (pgs_cons (pg_name (i := 5) sc_L_added.nd rfl (by first | exact Or.inl rfl | exact Or.inr rfl)) (pgs_cons (pg_name (i := 6) sc_L_added.nd rfl (by first | exact Or.inl rfl | exact Or.inr rfl)) pgs_nil)))))
      (pss_cons (ps_set (i := 8) sc_L_added.nd rfl (by first | exact Or.inl rfl | exact Or.inr rfl) (pe_callTy (cr_dictX rfl) (by rfl) (z_dict T) (by decide +kernel) (pa_cons (pe_lc (own := [("_law_spot", 7), ("_law_numbers", 11)]) (g := (gTup K 2 (gCons (gName 7) (gCons (gName 11) gNil)))) (tt := tYes) rfl sc_L_added.nd (pi_list (pe_c h_L_changes hr (by decide) (by rfl) (pa_cons (pv 0) (pa_cons (pv 1) pa_nil)))) (blkOk_by (own := [("_law_spot", 7), ("_law_numbers", 11)]) (N := n_L_added) (sc := defScope s_L_added) (by decide +kernel)) (fun _ _ _ _ _ => (pg_tup rfl (pgs_cons (pg_name (i := 7) sc_L_added.nd rfl (by first | exact Or.inl rfl | exact Or.inr rfl)) (pgs_cons (pg_name (i := 11) sc_L_added.nd rfl (by first | exact Or.inl rfl | exact Or.inr rfl)) pgs_nil)))) (fun _ _ _ _ _ => pts_nil) (fun _ _ _ _ _ => (pe_tup (pa_cons (pv 7) (pa_cons (pe_callTy (cr_dictXK (K := K) rfl rfl) (by rfl) (z_dict T) (by decide +kernel) (pa_cons (pv 11) pa_nil)) pa_nil))))) pa_nil)))
      (pss_cons (ps_for PassesOwn.never rfl (pi_range1 rfl (z_range T) (pa_cons (pv 1) pa_nil)) (pg_name (i := 9) sc_L_added.nd rfl (by first | exact Or.inl rfl | exact Or.inr rfl))
      (pss_cons (ps_for PassesOwn.never rfl (pi_list (pe_lock (pe_lc (own := [("_law_spot", 7)]) (g := (gName 7)) rfl sc_L_added.nd (pi_keys (pv 4)) (blkOk_by (own := [("_law_spot", 7)]) (N := n_L_added) (sc := defScope s_L_added) (by decide +kernel)) (fun _ _ _ _ _ => (pg_name (i := 7) sc_L_added.nd rfl (by first | exact Or.inl rfl | exact Or.inr rfl))) (fun _ _ _ _ _ => (pts_one (PW.pt (pw_and (pt_cmpR op_eq (pe_op op_mod (pe_callTy call_int1 (by rfl) (z_int T) (by decide +kernel) (pa_cons (pe_dget (hu_of hr) (pv 4) (pv 7) (fun _ _ => rfl)) pa_nil)) pe_int) pe_int (nomark _)) (pw_and1 (pt_cmp (pc_din (hu_of hr) (pv 7) (pv 8)))))))) (fun _ _ _ _ _ => (pv 7))))) (pg_name (i := 7) sc_L_added.nd rfl (by first | exact Or.inl rfl | exact Or.inr rfl))
      (pss_cons (ps_set (i := 10) sc_L_added.nd rfl (by first | exact Or.inl rfl | exact Or.inr rfl) (pe_ifExp (pt_cmp (pc_din (hu_of hr) (pv 7) (pv 5))) (pe_un un_neg pe_int) pe_int))
      (pss_one (ps_dput (hu_of hr) (pv 6) (pv 7) (pe_op op_add (pe_dget2 (hu_of hr) (pv 6) (pv 7) pe_int ⟨rfl, rfl, rfl, rfl⟩) (pe_op op_mul (pv 10) (pe_dget2 (hu_of hr) (pe_dget (hu_of hr) (pv 8) (pv 7) (fun _ _ => rfl)) (pv 9) pe_int ⟨rfl, rfl, rfl, rfl⟩))) rfl))))
      (pss_one (ps_asg (pe_c h_L_sent hr (by decide) (by rfl) (pa_cons (pv 4) (pa_cons (pv 5) pa_nil))) (pg_tup rfl (pgs_cons (pg_name (i := 4) sc_L_added.nd rfl (by first | exact Or.inl rfl | exact Or.inr rfl)) (pgs_cons (pg_name (i := 5) sc_L_added.nd rfl (by first | exact Or.inl rfl | exact Or.inr rfl)) pgs_nil)))))))
      (pss_one (ps_ret (pe_cmpR (op_eqD hr.units) (pe_lock (pe_lc (own := [("_law_spot", 7)]) (g := (gName 7)) rfl sc_L_added.nd (pi_keys (pv 8)) (blkOk_by (own := [("_law_spot", 7)]) (N := n_L_added) (sc := defScope s_L_added) (by decide +kernel)) (fun _ _ _ _ _ => (pg_name (i := 7) sc_L_added.nd rfl (by first | exact Or.inl rfl | exact Or.inr rfl))) (fun _ _ _ _ _ => (pts_one (pt_cmpR op_ne (pe_dget2 (hu_of hr) (pv 6) (pv 7) pe_int ⟨rfl, rfl, rfl, rfl⟩) (pe_c h_L_greatest hr (by decide) (by rfl) (pa_cons (pe_listVals rfl (by rfl) (z_list T) (pe_dget (hu_of hr) (pv 8) (pv 7) (fun _ _ => rfl))) pa_nil)) (nomark _)))) (fun _ _ _ _ _ => (pv 7)))) (pe_lst pa_nil) (nomark _))))))), ?_⟩
  have hyl : ys.length = ps.length := Paired.length hys
  have hpl := hh.len
  have hnl := span_len hL.nd hL.span
  -- the heaps' dict
  refine ⟨_, rfl, Int, V.int, t1, ys, ps, rfl, .inr ht1, hys, hh.nd, by omega, fun d1 hd1 => ?_⟩
  have s1 := same_new (o := .dK (enc V.int ps)) hd1
  refine ⟨_, rfl, t2, rfl, ⟨_, Same.sqt s1 ht2⟩, fun D2 hD2 => lc_map walk_tup (fun i z H' => ∀ y, ns[i]? = some y → ∃ t, z = .ref t ∧ SqT K H' t [.int y, .bl true]) hD2 (fun _ _ _ _ e h p hp => let ⟨t, h1, h2⟩ := h p hp; ⟨t, h1, e.sqt h2⟩) (by rw [List.length_map]; omega) (fun H' e => Same.sqt (s1.trans e) ht2) ?_ ?_⟩
  · rintro i x H3 H4 N Q1 hi s3 ⟨rfl, hx⟩ hq
    obtain ⟨y, hy, rfl⟩ := at_map hx
    refine ⟨rfl, tyes ⟨_, rfl, by show 2 ≤ sizeLine; decide, fun q hq2 => hq _ _ (same_new hq2) fun y' hy' => ?_⟩⟩
    rw [hy] at hy'
    cases hy'
    exact ⟨q, rfl, .inl (.inl upd_same)⟩
  rintro H3 acc2 sm3 hacc2 hal2 hf2
  have s3 : Same (upd H d1 (.dK (enc V.int ps))) H3 := fun b u e => sm3 b u e
  have hd13 : H3 d1 = some (.dK (enc V.int ps)) := s3 _ _ upd_same
  refine ⟨Bool, V.bl, D2, acc2, ns.map fun y => (y, true), rfl, .inl (.inl (.inl hacc2)), paired_of (by rw [hal2, List.length_map, List.length_map]) fun i x p h1 h2 => by
    rw [List.getElem?_map] at h2
    obtain ⟨y, hy, rfl⟩ := Option.map_eq_some_iff.mp h2
    exact hf2 i x h1 y hy, by rw [keys_tr]; exact hL.nd, by rw [List.length_map]; omega, fun d2 hd2 => ?_⟩
  have s4 := same_new (o := .dK (enc V.bl (ns.map fun y => (y, true)))) hd2
  have sm4 := (s1.trans s3).trans s4
  have hd14 := s4 _ _ hd13
  have hd24 : upd H3 d2 (.dK (enc V.bl (ns.map fun y => (y, true)))) d2 = some (.dK (enc V.bl (ns.map fun y => (y, true)))) := upd_same
  have nd12 : d1 ≠ d2 := ne_of_none hd13 hd2
  generalize upd H3 d2 (.dK (enc V.bl (ns.map fun y => (y, true)))) = H4 at sm4 hd14 hd24
  refine fun S hS => ⟨by show 3 ≤ sizeLine; decide, fun tp htp => ?_⟩
  have s5 := same_new (o := .dK []) hS
  have s6 := same_new (o := .tup [.ref d1, .ref d2, .ref S]) htp
  have s56 := s5.trans s6
  refine ⟨tp, _, rfl, .inl (.inl upd_same), rfl, _, _, rfl, _, _, rfl, _, _, rfl, rfl, ?_⟩
  have sm6 := sm4.trans s56
  have hd16 := s56 _ _ hd14
  have hd26 := s56 _ _ hd24
  have hS6 : upd (upd H4 S (.dK [])) tp (.tup [.ref d1, .ref d2, .ref S]) S = some (.dK (enc V.int [])) := s6 _ _ upd_same
  have nS1 : d1 ≠ S := ne_of_none hd14 hS
  have nS2 : d2 ≠ S := ne_of_none hd24 hS
  have hS0 : H S = none := Same.back sm4 hS
  generalize upd (upd H4 S (.dK [])) tp (.tup [.ref d1, .ref d2, .ref S]) = H6 at sm6 hd16 hd26 hS6
  -- the changes' dict
  refine ⟨_, rfl, _, rfl, a, xs, rs, last, c, rfl, sm6 _ _ ha, hrs.im (Im.of sm6), hr1, hr2, hl8, hin, fun F fs lo n H7 s7 hF hfs hn lo1 lo2 hcov => ⟨F, rfl, ⟨fs, .inl (.inl hF)⟩, fun D3 hD3 => ?_⟩⟩
  have hfl : fs.length = n := by rw [Paired.length hfs, List.length_map, List.length_range]
  refine lc_mapX walk_list (fun i z H' => ∃ (t d : Addr), z = .ref t ∧ SqT K H' t [.int (lo + i), .ref d] ∧ H' d = some (.dK (enc V.int (ownL rs last c (lo + i)))) ∧ d ≠ D3 ∧ d ≠ S ∧ H d = none) hD3 (fun i z H' H2 _ ⟨us, hus⟩ e ⟨t, d, q1, q2, q3, q4, q5, q6⟩ => ⟨t, d, q1, Ex.sqt e hus q2, e d _ (by simp [q4]) q3, q4, q5, q6⟩) (by omega) (fun H' e => e.seq (.inl (.inl hF))) ?_ ?_
  · rintro i x H8 H9 N Q1 hi s8 ⟨us, hus⟩ ⟨rfl, hx⟩ hq
    obtain ⟨y, hy, tx, l, zs, rfl, hT, hlz, hzs⟩ := paired_at hfs hx
    have ey : y = lo + (i : Int) := by
      rw [List.getElem?_map, List.getElem?_range (by omega)] at hy
      exact (Option.some.inj hy).symm
    subst ey
    have hol := own_len rs hl8 c (lo + (i : Int))
    refine ⟨tx, _, rfl, Same.sqt s8 hT, rfl, _, _, rfl, _, _, rfl, rfl, rfl, tyes ⟨_, rfl, _, rfl, Int, V.int, l, zs, ownL rs last c (lo + (i : Int)), rfl, .inl (.inl (.inl (s8 _ _ hlz))), PrL.im (Im.of s8) hzs, own_nd rs last c _, by omega, fun d hd => ⟨by show 2 ≤ sizeLine; decide, fun T1 hT1 => ?_⟩⟩⟩
    have sd := same_new (o := .dK (enc V.int (ownL rs last c (lo + (i : Int))))) hd
    have sT := same_new (o := .tup [.int (lo + (i : Int)), .ref d]) hT1
    have hS8 := s8 _ _ (s7 _ _ hS6)
    refine hq _ _ (sd.trans sT) ⟨T1, d, rfl, .inl (.inl upd_same), sT _ _ upd_same, fun z => ?_, fun z => ?_, Same.back ((sm6.trans s7).trans s8) hd⟩
    · rw [z, hus] at hd; nomatch hd
    · rw [z, hS8] at hd; nomatch hd
  rintro H8 acc s8 hacc hal hf
  obtain ⟨LO, hLOl, hLO⟩ := choose_list (R := fun i (p : Int × Addr) => p.1 = lo + (i : Int) ∧ ∃ t, acc[i]? = some (.ref t) ∧ SqT K H8 t [.int p.1, .ref p.2] ∧ H8 p.2 = some (.dK (enc V.int (ownL rs last c p.1))) ∧ p.2 ≠ S ∧ H p.2 = none) n fun i hi => by
    obtain ⟨t, d, q1, q2, q3, q4, q5, q6⟩ := hf i _ (List.getElem?_eq_getElem (by omega))
    exact ⟨(lo + (i : Int), d), rfl, t, by rw [List.getElem?_eq_getElem (by omega), q1], q2, q3, q5, q6⟩
  have hLOk : keysL LO = (List.range n).map fun i : Nat => lo + (i : Int) := by
    unfold keysL
    refine List.ext_getElem? fun i => ?_
    rw [List.getElem?_map, List.getElem?_map]
    by_cases hi : i < n
    · rw [List.getElem?_range hi, List.getElem?_eq_getElem (by omega : i < LO.length)]
      exact congrArg some (hLO i _ (List.getElem?_eq_getElem (by omega))).1
    · rw [List.getElem?_eq_none (by omega), List.getElem?_eq_none (by rw [List.length_range]; omega)]
      rfl
  have hLOn : (keysL LO).Nodup := by
    rw [hLOk]
    have h : (List.range n).Nodup := List.nodup_range
    unfold List.Nodup at h ⊢
    exact List.Pairwise.map _ (fun a b hab => by omega) h
  refine ⟨Addr, V.ref, D3, acc, LO, rfl, .inl (.inl (.inl hacc)), paired_of (by omega) fun i x p e1 e2 => ?_, hLOn, by omega, fun O hO => ?_⟩
  · obtain ⟨q1, t, q2, q3, q4⟩ := hLO i p e2
    rw [e1] at q2
    exact ⟨t, Option.some.inj q2, q3⟩
  have sO := same_new (o := .dK (enc V.ref LO)) hO
  have s78 : Same H7 H8 := fun b u e => s8 b u e
  have s69 := (s7.trans s78).trans sO
  have smB := sm6.trans s69
  have hd1B := s69 _ _ hd16
  have hd2B := s69 _ _ hd26
  have hSB := s69 _ _ hS6
  have hOB : upd H8 O (.dK (enc V.ref LO)) O = some (.dK (enc V.ref LO)) := upd_same
  have hownB : ∀ p ∈ LO, upd H8 O (.dK (enc V.ref LO)) p.2 = some (.dK (enc V.int (ownL rs last c p.1))) ∧ p.2 ≠ S := fun p hp => by
    obtain ⟨i, hi⟩ := List.getElem?_of_mem hp
    obtain ⟨q1, t, q2, q3, q4, q5, q6⟩ := hLO i p hi
    exact ⟨sO _ _ q4, q5⟩
  have nOS : O ≠ S := fun z => by rw [z, s78 _ _ (s7 _ _ hS6)] at hO; nomatch hO
  generalize upd H8 O (.dK (enc V.ref LO)) = HB at smB hd1B hd2B hSB hOB hownB
  have hyr : ∀ y ∈ keysL LO, lo ≤ y ∧ y < lo + n := fun y hy => by
    rw [hLOk] at hy
    obtain ⟨i, hi, rfl⟩ := List.mem_map.mp hy
    have := List.mem_range.mp hi
    omega
  have hLO1 : 0 < LO.length := by
    obtain ⟨r, hr⟩ := List.exists_mem_of_length_pos (show 0 < rs.length by omega)
    have := hcov r hr
    omega
  refine ⟨_, rfl, last, rfl, by omega, by omega, ?_⟩
  rw [Int.toNat_natCast]
  refine for_it walk_range (fun i σ H' => ∃ (e7 e9 e10 e11 : Option V) (d1 d2 : Addr) (HL : List (Int × Int)) (nl : List Int) (SL : List (Int × Int)), σ = [some (.ref a), some (.int last), some (.ref t1), some (.ref t2), some (.ref d1), some (.ref d2), some (.ref S), e7, some (.ref O), e9, e10, e11] ∧ Ex [S] HB H' ∧ HdV H' d1 HL ∧ LdV H' d2 nl ∧ d1 ≠ d2 ∧ d1 ≠ S ∧ d2 ≠ S ∧ HpsOk (40 + i) HL (runS h L i).1 ∧ LfsOk (40 + i) nl (runS h L i).2 ∧
      H' S = some (.dK (enc V.int SL)) ∧ (keysL SL).Nodup ∧ (∀ y ∈ keysL SL, y ∈ keysL LO) ∧ ∀ y ∈ keysL LO, at0 SL y = addS h L (chgF rs last) i y)
    ⟨_, _, _, _, d1, d2, ps, ns, [], rfl, Ex.refl _ _, hd1B, hd2B, nd12, nS1, nS2, hh, hL, hSB, List.nodup_nil, fun y hy => (nomatch hy), fun y _ => rfl⟩ (fun _ _ _ _ _ => True.intro) ?_ ?_
  · rintro i x σ HC HD hi ⟨e7, e9, e10, e11, d1, d2, HL, nl, SL, rfl, exC, hd1C, hd2C, nd, n1, n2, hhC, hLC, hSC, nSL, sSL, aSL⟩ ⟨rfl, hxv⟩
    obtain rfl : x = .int i := by rw [hxv]; show V.int (0 + (i : Int)) = _; rw [Int.zero_add]
    have hd1C' : HD d1 = some (.dK (enc V.int HL)) := hd1C
    have hd2C' : HD d2 = some (.dK (enc V.bl (nl.map fun y => (y, true)))) := hd2C
    have hOD : HD O = some (.dK (enc V.ref LO)) := exC O _ (by simp [nOS]) hOB
    have nO1 : O ≠ d1 := fun z => by
      rw [z, hd1C'] at hOD
      exact enc_ne hLO1 (HO.dK.inj (Option.some.inj hOD)).symm
    refine ⟨d1, _, hd1C', True.intro, fun od => ⟨_, rfl, d1, od, rfl, .inl ⟨enc V.int HL, upd_same, fun RL hRL => ?_⟩⟩⟩
    have hLL : upd HD d1 (.frz od (.dK (enc V.int HL))) d1 = some (.frz od (.dK (enc V.int HL))) := upd_same
    have hOE : upd HD d1 (.frz od (.dK (enc V.int HL))) O = some (.dK (enc V.ref LO)) := by rw [upd_ne nO1]; exact hOD
    have exE : Ex [d1] HD (upd HD d1 (.frz od (.dK (enc V.int HL)))) := Ex.mut (by simp)
    have hHl := hhC.len
    generalize upd HD d1 (.frz od (.dK (enc V.int HL))) = HE at hRL hLL hOE exE
    refine lc_it walk_keys (fun k H' => Same HE H' ∧ ∃ sp : List Int, H' RL = some (.lst (sp.map V.int)) ∧ sp = ((keysL HL).take k).filter fun y => decide ((runS h L i).1 y % 2 = 1) && decide (y ∈ keysL LO))
      ⟨same_new hRL, [], upd_same, rfl⟩ (fun k H' _ ⟨e, _⟩ => e _ _ hLL) ?_ ?_
    · rintro k x HF HG hk ⟨sF, sp, hsp, hspe⟩ ⟨rfl, kk, v, hkv, rfl⟩
      unfold enc at hkv
      rw [List.getElem?_map] at hkv
      obtain ⟨q, hq, eq⟩ := Option.map_eq_some_iff.mp hkv
      cases eq
      have hky : (keysL HL)[k]? = some q.1 := by unfold keysL; rw [List.getElem?_map, hq]; rfl
      have hqm := hhC.mem (List.mem_of_getElem? hq)
      have hg := getL_of hhC.nd (k := q.1) (v := q.2) (List.mem_of_getElem? hq)
      have hgv : DGet HG d1 (.int q.1) (some (.int q.2)) := by
        have z := DGet.fi (sF _ _ hLL) q.1
        rw [hg] at z
        exact z
      have hspl : sp.length ≤ 1000 := by
        rw [hspe]
        have h1 := List.length_filter_le (fun y => decide ((runS h L i).1 y % 2 = 1) && decide (y ∈ keysL LO)) ((keysL HL).take k)
        have h2 := List.length_take_le' k (keysL HL)
        have h3 : (keysL HL).length = HL.length := by unfold keysL; rw [List.length_map]
        omega
      refine ⟨rfl, _, rfl, _, rfl, d1, _, rfl, hgv, .inl ⟨_, rfl, _, _, rfl, rfl, (by decide : (0 : Int) < 2), rfl, _, rfl, ?_⟩⟩
      rw [hqm]
      by_cases c1 : (runS h L i).1 q.1 % 2 = 1
      · rw [decide_eq_true (show V.int ((runS h L i).1 q.1 % 2) = V.int 1 by rw [c1])]
        refine iteT ⟨_, rfl, _, rfl, O, _, rfl, DGet.i (sF _ _ hOE) q.1, _, rfl, ?_⟩
        by_cases c2 : q.1 ∈ keysL LO
        · obtain ⟨av, hav⟩ := getL_some c2
          rw [hav]
          refine iteT ⟨_, rfl, _, hsp, by rw [List.length_map]; exact sz_of (by omega), same_mut sF hRL, sp ++ [q.1], by rw [List.map_append]; exact upd_same, ?_⟩
          rw [take_succ_at hky, List.filter_append, List.filter_cons, decide_eq_true c1, decide_eq_true c2, hspe]
          rfl
        · rw [getL_none.mpr c2]
          refine iteF ⟨sF, sp, hsp, ?_⟩
          rw [take_succ_at hky, List.filter_append, List.filter_cons, decide_eq_false c2, Bool.and_false, hspe]
          simp
      · rw [decide_eq_false (show ¬ V.int ((runS h L i).1 q.1 % 2) = V.int 1 from fun z => c1 (V.int.inj z))]
        refine iteF (iteF ⟨sF, sp, hsp, ?_⟩)
        rw [take_succ_at hky, List.filter_append, List.filter_cons, decide_eq_false c1, Bool.false_and, hspe]
        simp
    rintro HF ⟨sF, sp, hsp, hspe⟩
    rw [enc_len, show HL.length = (keysL HL).length by unfold keysL; rw [List.length_map], List.take_length] at hspe
    have hF1 : HF d1 = some (.frz od (.dK (enc V.int HL))) := sF _ _ hLL
    have nRd : RL ≠ d1 := fun z => by rw [z, hF1] at hsp; nomatch hsp
    have hSE : HE S = some (.dK (enc V.int SL)) := exE S _ (by simp [n1.symm]) hSC
    have nRS : RL ≠ S := fun z => by rw [z, hSE] at hRL; nomatch hRL
    have exU : Ex [] HD (upd HF d1 (.dK (enc V.int HL))) := Ex.unlock hd1C' (exE.trans (Ex.of sF))
    have sU : Same HD (upd HF d1 (.dK (enc V.int HL))) := fun b u e => exU b u (by simp) e
    have hspU : upd HF d1 (.dK (enc V.int HL)) RL = some (.lst (sp.map V.int)) := by rw [upd_ne nRd]; exact hsp
    refine ⟨hF1, ?_⟩
    generalize upd HF d1 (.dK (enc V.int HL)) = HU at sU hspU
    have hspm : ∀ y ∈ sp, (runS h L i).1 y % 2 = 1 ∧ y ∈ keysL LO := fun y hy => by
      rw [hspe] at hy
      have m := (List.mem_filter.mp hy).2
      rw [Bool.and_eq_true] at m
      exact ⟨of_decide_eq_true m.1, of_decide_eq_true m.2⟩
    have hspn : sp.Nodup := by rw [hspe]; exact hhC.nd.filter _
    have hSU := sU _ _ hSC
    have hOU := sU _ _ hOD
    refine ⟨RL, rfl, ⟨_, .inl (.inl hspU)⟩, for_it walk_list (fun k σ H' => ∃ (e7 e10 : Option V) (SM : List (Int × Int)), σ = [some (.ref a), some (.int last), some (.ref t1), some (.ref t2), some (.ref d1), some (.ref d2), some (.ref S), e7, some (.ref O), some (.int (i : Int)), e10, e11] ∧ Ex [S] HU H' ∧ H' S = some (.dK (enc V.int SM)) ∧ (keysL SM).Nodup ∧ (∀ y ∈ keysL SM, y ∈ keysL LO) ∧
        ∀ y ∈ keysL LO, at0 SM y = addS h L (chgF rs last) i y + if y ∈ sp.take k then wy h L i y * chgF rs last y i else 0)
      ⟨_, _, SL, rfl, Ex.refl _ _, hSU, nSL, sSL, fun y hy => by rw [List.take_zero, if_neg (fun z => nomatch z), Int.add_zero]; exact aSL y hy⟩ (fun k σ H' _ ⟨_, _, _, _, e, _⟩ => .inl (.inl (e _ _ (by simp [nRS]) hspU))) ?_ ?_⟩
    · rintro k x σ HI HJ hk ⟨e7, e10, SM, rfl, exI, hSI, nSM, sSM, aSM⟩ ⟨rfl, hx⟩
      obtain ⟨y, hy, rfl⟩ := at_map hx
      obtain ⟨hyo, hyL⟩ := hspm y (List.mem_of_getElem? hy)
      obtain ⟨av, hav⟩ := getL_some hyL
      have hOI : HJ O = some (.dK (enc V.ref LO)) := exI O _ (by simp [nOS]) hOU
      have hgO : DGet HJ O (.int y) (some (.ref av)) := by
        have z := DGet.i hOI y
        rw [hav] at z
        exact z
      obtain ⟨hown1, hown2⟩ := hownB (y, av) (getL_mem hav)
      have hownI : HJ av = some (.dK (enc V.int (ownL rs last c y))) := exI av _ (by simp [hown2]) (sU _ _ (exC av _ (by simp [hown2]) hown1))
      have hyc : (y + (i : Int) + c) % 2 = 0 := by
        have z : ¬ (y + (i : Int)) % 2 ≠ c := fun z => by rw [hcol.run hc i y z] at hyo; nomatch hyo
        omega
      have hSMl : SM.length ≤ 1000 := by
        have h1 := span_len (B := 100) nSM fun z hz => by have := hyr z (sSM z hz); omega
        unfold keysL at h1
        rw [List.length_map] at h1
        omega
      have hd2I : HJ d2 = some (.dK (enc V.bl (nl.map fun y => (y, true)))) := exI d2 _ (by simp [n2]) (sU _ _ hd2C')
      have hnk : y ∉ sp.take k := by
        have n := nodup_next (f := id) (by rw [List.map_id]; exact hspn) hy
        rw [List.map_id] at n
        exact n
      have nxt : ∀ wv : Int, wv = wy h L i y → ∃ (e7' e10' : Option V) (SM' : List (Int × Int)), [some (V.ref a), some (.int last), some (.ref t1), some (.ref t2), some (.ref d1), some (.ref d2), some (.ref S), some (.int y), some (.ref O), some (.int (i : Int)), some (.int wv), e11] = [some (V.ref a), some (.int last), some (.ref t1), some (.ref t2), some (.ref d1), some (.ref d2), some (.ref S), e7', some (.ref O), some (.int (i : Int)), e10', e11] ∧
          Ex [S] HU (upd HJ S (.dK (enc V.int (putL SM y (at0 SM y + wv * chgF rs last y i))))) ∧ upd HJ S (.dK (enc V.int (putL SM y (at0 SM y + wv * chgF rs last y i)))) S = some (.dK (enc V.int SM')) ∧ (keysL SM').Nodup ∧ (∀ y ∈ keysL SM', y ∈ keysL LO) ∧
          ∀ y ∈ keysL LO, at0 SM' y = addS h L (chgF rs last) i y + if y ∈ sp.take (k + 1) then wy h L i y * chgF rs last y i else 0 := by
        intro wv hwv
        refine ⟨_, _, putL SM y (at0 SM y + wv * chgF rs last y i), rfl, exI.trans (Ex.mut (by simp)), upd_same, nd_put nSM, fun z hz => ?_, fun z hz => ?_⟩
        · rcases mem_put.mp hz with rfl | hz
          · exact hyL
          · exact sSM z hz
        · rw [at0_put, take_succ_at hy]
          by_cases cz : z = y
          · subst cz
            rw [if_pos rfl, aSM z hz, if_neg hnk, if_pos (List.mem_append_right _ (List.mem_singleton.mpr rfl)), hwv, Int.add_zero]
          · rw [if_neg cz, aSM z hz]
            congr 1
            by_cases cm : z ∈ sp.take k
            · rw [if_pos cm, if_pos (List.mem_append_left _ cm)]
            · rw [if_neg cm, if_neg (fun w => (List.mem_append.mp w).elim cm fun w => cz (List.mem_singleton.mp w))]
      refine ⟨_, rfl, _, rfl, d2, _, rfl, DGet.i hd2I y, _, rfl, ?_⟩
      rw [isSome_tr hLC]
      cases hLy : (runS h L i).2 y with
      | true =>
          have hwy : (-1 : Int) = wy h L i y := by rw [wy_eq, if_pos hyo, hLy]; rfl
          refine iteT ⟨_, rfl, ?_⟩
          refine ⟨_, rfl, S, rfl, .inl ⟨_, .inl hSI⟩, _, rfl, _, DGet.i hSI y, ?_⟩
          rw [getD_int]
          refine ⟨_, rfl, _, rfl, _, rfl, O, .ref av, rfl, hgO, av, rfl, .inl ⟨_, .inl hownI⟩, _, rfl, _, DGet.i hownI (i : Int), ?_⟩
          rw [getD_int, own_at rs hi hyc]
          refine ⟨_, _, rfl, rfl, .inl ⟨by decide, by decide⟩, _, _, rfl, rfl, _, rfl, _, rfl, S, _, rfl, DPut.i hSI y _ rfl (by omega), ?_⟩
          exact nxt (-1) hwy
      | false =>
          have hwy : (1 : Int) = wy h L i y := by rw [wy_eq, if_pos hyo, hLy]; rfl
          refine iteF ?_
          refine ⟨_, rfl, S, rfl, .inl ⟨_, .inl hSI⟩, _, rfl, _, DGet.i hSI y, ?_⟩
          rw [getD_int]
          refine ⟨_, rfl, _, rfl, _, rfl, O, .ref av, rfl, hgO, av, rfl, .inl ⟨_, .inl hownI⟩, _, rfl, _, DGet.i hownI (i : Int), ?_⟩
          rw [getD_int, own_at rs hi hyc]
          refine ⟨_, _, rfl, rfl, .inl ⟨by decide, by decide⟩, _, _, rfl, rfl, _, rfl, _, rfl, S, _, rfl, DPut.i hSI y _ rfl (by omega), ?_⟩
          exact nxt 1 hwy
    · rintro σ HI ⟨e7, e10, SM, rfl, exI, hSI, nSM, sSM, aSM⟩
      have hd1I := exI d1 _ (by simp [n1]) (sU _ _ hd1C')
      have hd2I := exI d2 _ (by simp [n2]) (sU _ _ hd2C')
      rw [List.length_map, List.take_length] at aSM
      refine ⟨_, rfl, _, rfl, d1, d2, HL, nl, 40 + i, _, _, rfl, hd1I, hd2I, nd, by omega, hhC, hLC, fun HK p q1 q2 HL' nl' sK hpK hq1 hq2 nq hh' hL' f1 f2 => ?_⟩
      refine ⟨p, _, rfl, .inl (.inl hpK), rfl, _, _, rfl, _, _, rfl, rfl, ?_⟩
      have nq1 : q1 ≠ S := fun z => by rw [z, hSI] at f1; nomatch f1
      have nq2 : q2 ≠ S := fun z => by rw [z, hSI] at f2; nomatch f2
      refine ⟨e7, some (.int (i : Int)), e10, e11, q1, q2, HL', nl', SM, rfl, ((exC.trans (Ex.of sU)).trans exI).trans (Ex.of sK), hq1, hq2, nq, nq1, nq2, hh', hL'.up (by omega), sK _ _ hSI, nSM, sSM, fun y hy => ?_⟩
      rw [addS_succ, aSM y hy]
      congr 1
      by_cases cm : y ∈ sp
      · rw [if_pos cm]
      · rw [if_neg cm, wy_eq]
        by_cases c1 : (runS h L i).1 y % 2 = 1
        · refine absurd ?_ cm
          rw [hspe, List.mem_filter]
          refine ⟨Decidable.by_contra fun z => ?_, by rw [decide_eq_true c1, decide_eq_true hy]; rfl⟩
          rw [hhC.zero z] at c1
          nomatch c1
        · rw [if_neg c1, Int.zero_mul]
  · rintro σ HC ⟨e7, e9, e10, e11, d1, d2, HL, nl, SL, rfl, exC, hd1C, hd2C, nd, n1, n2, hhC, hLC, hSC, nSL, sSL, aSL⟩
    have hOC : HC O = some (.dK (enc V.ref LO)) := exC O _ (by simp [nOS]) hOB
    refine ⟨O, _, hOC, True.intro, fun od => ⟨_, rfl, O, od, rfl, .inl ⟨enc V.ref LO, upd_same, fun RL hRL => ?_⟩⟩⟩
    have hLL : upd HC O (.frz od (.dK (enc V.ref LO))) O = some (.frz od (.dK (enc V.ref LO))) := upd_same
    have hSE : upd HC O (.frz od (.dK (enc V.ref LO))) S = some (.dK (enc V.int SL)) := by rw [upd_ne nOS.symm]; exact hSC
    have nown : ∀ p ∈ LO, p.2 ≠ O := fun p hp z => by
      have q := exC p.2 _ (by simp [(hownB p hp).2]) (hownB p hp).1
      rw [z, hOC] at q
      exact enc_ne hLO1 (HO.dK.inj (Option.some.inj q))
    have hownE : ∀ p ∈ LO, upd HC O (.frz od (.dK (enc V.ref LO))) p.2 = some (.dK (enc V.int (ownL rs last c p.1))) := fun p hp => by
      rw [upd_ne (nown p hp)]
      exact exC p.2 _ (by simp [(hownB p hp).2]) (hownB p hp).1
    have exE : Ex [O] HC (upd HC O (.frz od (.dK (enc V.ref LO)))) := Ex.mut (by simp)
    generalize upd HC O (.frz od (.dK (enc V.ref LO))) = HE at hRL hLL hSE hownE exE
    refine lc_it walk_keys (fun k H' => Same HE H' ∧ H' RL = some (.lst [])) ⟨same_new hRL, upd_same⟩ (fun k H' _ ⟨e, _⟩ => e _ _ hLL) ?_ ?_
    · rintro k x HF HG hk ⟨sF, hR⟩ ⟨rfl, kk, v, hkv, rfl⟩
      unfold enc at hkv
      rw [List.getElem?_map] at hkv
      obtain ⟨q, hq, eq⟩ := Option.map_eq_some_iff.mp hkv
      cases eq
      have hqm := List.mem_of_getElem? hq
      have hqk : q.1 ∈ keysL LO := List.mem_map.mpr ⟨q, hqm, rfl⟩
      have hg := getL_of hLOn (k := q.1) (v := q.2) hqm
      have hgv : DGet HG O (.int q.1) (some (.ref q.2)) := by
        have z := DGet.fi (sF _ _ hLL) q.1
        rw [hg] at z
        exact z
      have hol := own_len rs hl8 c q.1
      refine ⟨rfl, _, rfl, S, rfl, .inl ⟨_, .inl (sF _ _ hSE)⟩, _, rfl, _, DGet.i (sF _ _ hSE) q.1, ?_⟩
      rw [getD_int, aSL q.1 hqk, hbest]
      refine ⟨_, rfl, _, rfl, O, .ref q.2, rfl, hgv, Int, q.2, V.int, ownL rs last c q.1, rfl, sF _ _ (hownE q hqm), by omega, fun pv hpv => ?_⟩
      have sv := same_new (o := .lst ((ownL rs last c q.1).map fun q => V.int q.2)) hpv
      have evl : ((ownL rs last c q.1).map fun q => V.int q.2) = (csP (chgF rs last) last c q.1).map V.int := by
        rw [← own_vals rs hl8, List.map_map]
        rfl
      refine ⟨pv, csP (chgF rs last) last c q.1, rfl, .inl (.inl (by rw [← evl]; exact upd_same)), by rw [csP_len]; omega, fun m H5 s5 hm1 hm2 => ?_⟩
      have em := gr_max hm1 hm2
      refine ⟨rfl, _, rfl, ?_⟩
      rw [em, show (!decide (V.int (btEnd (csP (chgF rs last) last c q.1)).1 = V.int (btEnd (csP (chgF rs last) last c q.1)).1)) = false by rw [decide_eq_true rfl]; rfl]
      exact iteF ⟨sF.trans (sv.trans s5), (sv.trans s5) _ _ hR⟩
    · rintro HF ⟨sF, hR⟩
      have nRO : RL ≠ O := fun z => by rw [z, sF _ _ hLL] at hR; nomatch hR
      refine ⟨sF _ _ hLL, Nat.zero_le _, fun E0 hE0 => ?_⟩
      have hR2 : upd HF O (.dK (enc V.ref LO)) RL = some (.lst []) := by rw [upd_ne nRO]; exact hR
      have exU : Ex [] HC (upd HF O (.dK (enc V.ref LO))) := Ex.unlock hOC (exE.trans (Ex.of sF))
      have sU : Same HC (upd HF O (.dK (enc V.ref LO))) := fun b u e => exU b u (by simp) e
      have sE0 := same_new (o := .lst []) hE0
      refine ⟨.list [], .list [], .lst (.inl (.inl (sE0 _ _ hR2))) .nil, .lst (.inl (.inl upd_same)) .nil, shaped_lst [], shaped_lst [], ?_⟩
      have smF : Same H (upd (upd HF O (.dK (enc V.ref LO))) E0 (.lst [])) := Ex.same smB (fun d hd => by rw [List.mem_singleton.mp hd]; exact hS0) (exC.trans (Ex.of (sU.trans sE0)))
      rw [show PyData.eqv (.list []) (.list []) = true from (eqv_lst [] []).trans (decide_eq_true rfl)]
      exact hQ _ _ smF rfl
end
end K86
end
section
set_option Elab.async false
set_option linter.all false
set_option maxRecDepth 100000
namespace K86
open PySem PySem.Spec PyProof.Rows L2
/-! what the walks tell, in plain words -/
theorem csL_chg {rs rs' : List (Int × Int × Int)} {last : Nat} (c y : Int) (p : rs'.Perm rs) (h0 : ∀ r ∈ rs, 0 ≤ r.2.1) : csL (sC (rcAll last rs')) last c y = csP (chgF rs last) last c y := by
  show csP (sC (rcAll last rs')) last c y = _
  refine csP_congr fun t => ?_
  rw [sC_chg (fun r hr => h0 r (p.mem_iff.mp hr)), chgI_perm p]
  show _ = chgI rs last y ((t : Int)).toNat
  rw [Int.toNat_natCast]
def reachP (rs : List (Int × Int × Int)) (last : Nat) (c : Int) : Int := wS fun y => (btEnd (csP (chgF rs last) last c y)).1
theorem reach_eq {rs rs' : List (Int × Int × Int)} {last : Nat} {c : Int} (p : rs'.Perm rs) (h0 : ∀ r ∈ rs, 0 ≤ r.2.1) : reachI (sC (rcAll last rs')) last c = reachP rs last c := by
  unfold reachI reachP
  congr 1
  funext y
  rw [csL_chg c y p h0]
theorem sg_eq {B : Nat} {ns : List Int} {L : Int → Bool} (hL : LfsOk B ns L) (y : Int) : sgOf ns y = sgB (L y) := by
  unfold sgOf sgB
  by_cases c : y ∈ ns
  · rw [if_pos c, if_pos ((hL.at_ y).mp c)]
  · rw [if_neg c, if_neg (fun z => c ((hL.at_ y).mpr z))]
theorem low_eq {rs rs' : List (Int × Int × Int)} {last : Nat} {c : Int} {B : Nat} {ns : List Int} {L : Int → Bool} (p : rs'.Perm rs) (h0 : ∀ r ∈ rs, 0 ≤ r.2.1) (hL : LfsOk B ns L) : lowI (sC (rcAll last rs')) last c ns = wS fun y => -gf (-sgB (L y)) (csP (chgF rs last) last c y) := by
  unfold lowI
  congr 1
  funext y
  rw [csL_chg c y p h0, sg_eq hL]
theorem high_eq {rs rs' : List (Int × Int × Int)} {last : Nat} {c : Int} {B : Nat} {ns : List Int} {L : Int → Bool} (p : rs'.Perm rs) (h0 : ∀ r ∈ rs, 0 ≤ r.2.1) (hL : LfsOk B ns L) : highI (sC (rcAll last rs')) last c ns = wS fun y => gf (sgB (L y)) (csP (chgF rs last) last c y) := by
  unfold highI
  congr 1
  funext y
  rw [csL_chg c y p h0, sg_eq hL]
theorem mean_wI {B : Nat} {ps : List (Int × Int)} {h : Int → Int} (o : HpsOk B ps h) (hB : B ≤ 80) (x : Int) (n : Nat) : meanI ps x n = wI fun y => h y * P n (x - y) := by
  have e : ps.map (fun p => p.2 * ways n (x - p.1)) = (keysL ps).map fun y => h y * P n (x - y) := by
    unfold keysL
    rw [List.map_map]
    refine List.map_congr_left fun p hp => ?_
    show p.2 * P n (x - p.1) = h p.1 * P n (x - p.1)
    rw [o.mem hp]
  unfold meanI
  rw [e]
  refine wI_of o.nd (fun y hy => by have := o.span y hy; omega) fun y hy => ?_
  rw [o.zero hy, Int.zero_mul]
theorem far_of {B : Nat} {ps : List (Int × Int)} {h : Int → Int} (o : HpsOk B ps h) : Far B h := fun y hy => o.zero fun z => by have := o.span y z; omega
theorem col_of {B : Nat} {ps : List (Int × Int)} {h : Int → Int} {c : Int} (o : HpsOk B ps h) (hc : ∀ p ∈ ps, p.1 % 2 = c) : Col c h := fun y hy => o.zero fun z => by
  obtain ⟨p, hp, rfl⟩ := List.mem_map.mp z
  exact hy (hc p hp)
theorem gap_sum {B : Nat} {ps : List (Int × Int)} {h : Int → Int} {L : Int → Bool} (o : HpsOk B ps h) (hB : B ≤ 80) {last : Nat} (hl : last ≤ 8) {rs : List (Int × Int × Int)} (hr : ∀ r ∈ rs, rowIn last r) : (rs.map (gapOne last ps h L)).sum = wS (addS h L (chgF rs last) last) := by
  have e : rs.map (gapOne last ps h L) = rs.map fun r => r.2.2 * ((runS h L r.2.1.toNat).1 r.1 * 2 ^ last - wI (fun y => h y * P r.2.1.toNat (r.1 - y)) * 2 ^ (last - r.2.1.toNat)) := by
    refine List.map_congr_left fun r _ => ?_
    unfold gapOne
    rw [mean_wI o hB]
  rw [e, rows_add (far_of o) (by omega) fun r hr2 => ⟨(hr r hr2).1, (hr r hr2).2.1, (hr r hr2).2.2.1, (hr r hr2).2.2.2.1⟩]
  refine wI_wS fun y hy => ?_
  unfold addS
  refine sum_zero fun j _ => ?_
  show wy h L j y * chgI rs last y ((j : Int)).toNat = 0
  rw [chgI_wide hl (fun r hr2 => ⟨(hr r hr2).1, (hr r hr2).2.1, (hr r hr2).2.2.2.1⟩) hy, Int.mul_zero]
theorem gapTo_eq {B : Nat} {ps : List (Int × Int)} {h : Int → Int} {L : Int → Bool} (o : HpsOk B ps h) (hB : B ≤ 80) {last : Nat} (hl : last ≤ 8) {rs : List (Int × Int × Int)} (hr : ∀ r ∈ rs, rowIn last r) : gapTo last rs ps h L (last + 1) = wS (addS h L (chgF rs last) last) := by
  rw [← gap_sum o hB hl hr]
  exact sum_ticks (last + 1) rs fun r hr2 => by
    have := hr r hr2
    unfold rowIn at this
    omega
theorem gapI_eq {B : Nat} {ps : List (Int × Int)} {h : Int → Int} {L : Int → Bool} (o : HpsOk B ps h) (hB : B ≤ 80) {last : Nat} (hl : last ≤ 8) {rs rs' : List (Int × Int × Int)} (p : rs'.Perm rs) (hr : ∀ r ∈ rs, rowIn last r) : gapI last rs' ps h L = wS (addS h L (chgF rs last) last) := by
  rw [← gap_sum o hB hl hr, ← sum_perm p]
  unfold gapI worthI meanLk gapOne
  clear p
  induction rs' with
  | nil => simp
  | cons r l ih =>
    simp only [List.map_cons, List.sum_cons]
    rw [← ih, Int.mul_sub, Int.add_mul, Int.mul_assoc]
    omega
/-! bounds -/
theorem chg_bound {rs : List (Int × Int × Int)} {last : Nat} (hl : last ≤ 8) (hr : ∀ r ∈ rs, rowIn last r) (y : Int) (t : Nat) : (chgI rs last y t).natAbs ≤ rs.length * 256000000 := by
  unfold chgI
  induction rs with
  | nil => exact Nat.zero_le _
  | cons r l ih =>
    have hi := ih fun q hq => hr q (List.mem_cons_of_mem _ hq)
    rw [List.map_cons, List.sum_cons, List.length_cons]
    have h1 : (if (t : Int) < r.2.1 then r.2.2 * G (r.2.1.toNat - t) (r.1 - y) * 2 ^ (last - (r.2.1.toNat - t)) else 0).natAbs ≤ 256000000 := by
      obtain ⟨a, b, c, d, e, f⟩ := hr r List.mem_cons_self
      by_cases ct : (t : Int) < r.2.1
      · rw [if_pos ct, Int.mul_assoc, Int.natAbs_mul]
        have g := G_le (r.2.1.toNat - t) (r.1 - y)
        have g2 : (G (r.2.1.toNat - t) (r.1 - y)).natAbs ≤ 2 ^ (r.2.1.toNat - t) := by
          have e2 : ((2 ^ (r.2.1.toNat - t) : Nat) : Int) = (2 : Int) ^ (r.2.1.toNat - t) := by rw [Int.natCast_pow]; rfl
          rw [← e2] at g
          omega
        have g3 : (G (r.2.1.toNat - t) (r.1 - y) * 2 ^ (last - (r.2.1.toNat - t))).natAbs ≤ 256 := by
          rw [Int.natAbs_mul, Int.natAbs_pow]
          have z : (G (r.2.1.toNat - t) (r.1 - y)).natAbs * 2 ^ (last - (r.2.1.toNat - t)) ≤ 2 ^ (r.2.1.toNat - t) * 2 ^ (last - (r.2.1.toNat - t)) := Nat.mul_le_mul_right _ g2
          rw [← Nat.pow_add, show r.2.1.toNat - t + (last - (r.2.1.toNat - t)) = last by omega] at z
          have z2 : (2 : Nat) ^ last ≤ 2 ^ 8 := Nat.pow_le_pow_right (by decide) hl
          have z3 : (2 : Nat) ^ 8 = 256 := by decide
          exact Nat.le_trans z (by omega)
        calc r.2.2.natAbs * _ ≤ 1000000 * 256 := Nat.mul_le_mul (by omega) g3
          _ = 256000000 := by decide
      · rw [if_neg ct]; exact Nat.zero_le _
    have h2 := Int.natAbs_add_le (if (t : Int) < r.2.1 then r.2.2 * G (r.2.1.toNat - t) (r.1 - y) * 2 ^ (last - (r.2.1.toNat - t)) else 0) (l.map fun r => if (t : Int) < r.2.1 then r.2.2 * G (r.2.1.toNat - t) (r.1 - y) * 2 ^ (last - (r.2.1.toNat - t)) else 0).sum
    have h3 : (l.length + 1) * 256000000 = l.length * 256000000 + 256000000 := by rw [Nat.add_mul, Nat.one_mul]
    omega
theorem btN_bound {cs : List Int} {M : Nat} (h : ∀ i, (cs.getD i 0).natAbs ≤ M) : ∀ i, (btN cs i).1.1 ≤ i * M ∧ (btN cs i).2.1 ≤ i * M
  | 0 => ⟨by show (0 : Int) ≤ _; omega, by show (0 : Int) ≤ _; omega⟩
  | i + 1 => by
    have ih := btN_bound h i
    have hi := h i
    have e : ((i + 1 : Nat) : Int) * M = i * M + M := by rw [show ((i + 1 : Nat) : Int) = (i : Int) + 1 by omega, Int.add_mul, Int.one_mul]
    show (moreOf (btN cs i).1 ((btN cs i).2.1 + cs.getD i 0, (btN cs i).2.2 ++ [i])).1 ≤ _ ∧ (moreOf (btN cs i).2 ((btN cs i).1.1 + -cs.getD i 0, (btN cs i).1.2 ++ [i])).1 ≤ _
    rw [e]
    unfold moreOf
    constructor <;> (split <;> omega)
theorem btEnd_bound {cs : List Int} {M : Nat} (h : ∀ i, (cs.getD i 0).natAbs ≤ M) : (btEnd cs).1 ≤ cs.length * M := by
  have g := btN_bound h cs.length
  unfold btEnd moreOf
  split
  · exact g.2
  · exact g.1
theorem btEnd_nn (cs : List Int) : 0 ≤ (btEnd cs).1 := Int.le_trans (btN_nn cs cs.length).1 (btEnd_ge cs).1
theorem gf_nn {sg : Int} (hs : sg = 1 ∨ sg = -1) (cs : List Int) : 0 ≤ gf sg cs := by
  have h := aS_gf hs cs (fun _ => false)
  have e : ∀ n, (aS sg (fun i => cs.getD i 0) (fun _ => false) n).1 = 0 := by
    intro n
    induction n with
    | zero => rfl
    | succ n ih => rw [aS_succ, if_neg (by decide)]; exact ih
  rw [e] at h
  exact h
theorem wS_bound {f : Int → Int} {M : Nat} (h : ∀ y, (f y).natAbs ≤ M) : (wS f).natAbs ≤ 60 * M := by
  have k : ∀ l : List Int, (l.map f).sum.natAbs ≤ l.length * M := by
    intro l
    induction l with
    | nil => exact Nat.zero_le _
    | cons x l ih =>
      rw [List.map_cons, List.sum_cons, List.length_cons, Nat.add_mul, Nat.one_mul]
      have h1 := Int.natAbs_add_le (f x) (l.map f).sum
      have h2 := h x
      omega
  exact k win
section
variable {rs : List (Int × Int × Int)} {last : Nat} (hl : last ≤ 8) (hr : ∀ r ∈ rs, rowIn last r) (hn : rs.length ≤ 40)
include hl hr hn
theorem bt_bound (c y : Int) : (btEnd (csP (chgF rs last) last c y)).1 ≤ 92160000000 := by
  have h := btEnd_bound (cs := csP (chgF rs last) last c y) (M := 10240000000) fun i => by
    by_cases hi : i < (csP (chgF rs last) last c y).length
    · rw [csP_at hi]
      have := chg_bound hl hr y (((y + c) % 2 + (i : Int) * 2).toNat)
      unfold chgF
      omega
    · rw [List.getD_eq_getElem?_getD, List.getElem?_eq_none (by omega)]
      exact Nat.zero_le _
  have e := csP_len (chgF rs last) last c y
  have : (csP (chgF rs last) last c y).length ≤ 9 := by omega
  have h2 : (((csP (chgF rs last) last c y).length : Nat) : Int) * (10240000000 : Nat) ≤ 9 * (10240000000 : Nat) := Int.mul_le_mul_of_nonneg_right (by omega) (by decide)
  omega
theorem reach_bound (c : Int) : (reachP rs last c).natAbs ≤ 6000000000000 := by
  have := wS_bound (f := fun y => (btEnd (csP (chgF rs last) last c y)).1) (M := 92160000000) fun y => by
    have h1 := bt_bound hl hr hn c y
    have h2 := btEnd_nn (csP (chgF rs last) last c y)
    omega
  unfold reachP
  omega
theorem high_bound (c : Int) (L : Int → Bool) : (wS fun y => gf (sgB (L y)) (csP (chgF rs last) last c y)).natAbs ≤ 6000000000000 := by
  have := wS_bound (f := fun y => gf (sgB (L y)) (csP (chgF rs last) last c y)) (M := 92160000000) fun y => by
    have h1 := bt_bound hl hr hn c y
    have h2 := gf_nn (sgB_or (L y)) (csP (chgF rs last) last c y)
    have h3 := gf_le (sgB_or (L y)) (csP (chgF rs last) last c y)
    omega
  omega
theorem low_bound (c : Int) (L : Int → Bool) : (wS fun y => -gf (-sgB (L y)) (csP (chgF rs last) last c y)).natAbs ≤ 6000000000000 := by
  have := wS_bound (f := fun y => -gf (-sgB (L y)) (csP (chgF rs last) last c y)) (M := 92160000000) fun y => by
    have hs : -sgB (L y) = 1 ∨ -sgB (L y) = -1 := by have := sgB_or (L y); omega
    have h1 := bt_bound hl hr hn c y
    have h2 := gf_nn hs (csP (chgF rs last) last c y)
    have h3 := gf_le hs (csP (chgF rs last) last c y)
    omega
  omega
end
theorem small_pow {z : Int} (h : z.natAbs ≤ 6000000000000) : z.natAbs < 2 ^ 2000 := Nat.lt_of_le_of_lt h (Nat.lt_of_lt_of_le (by decide : 6000000000000 < 2 ^ 43) (Nat.pow_le_pow_right (by decide) (by decide)))
/-- a worst start adds the greatest at each spot -/
theorem worst_adds {rs rs' : List (Int × Int × Int)} {last : Nat} {c : Int} (hc : c = 0 ∨ c = 1) (p : rs'.Perm rs) (hr : ∀ r ∈ rs, rowIn last r) (hne : rs ≠ []) {B : Nat} {ps : List (Int × Int)} {f : Int → Int} (o : HpsOk B ps f) (hcol : ∀ p ∈ ps, p.1 % 2 = c)
    (hm : ∀ lo hi : Int, (∀ r ∈ rs', lo ≤ r.1 ∧ r.1 ≤ hi) → (∃ r ∈ rs', r.1 = lo) → (∃ r ∈ rs', r.1 = hi) → ∀ j, j < last → metW f (leftF (sC (rcAll last rs')) last c) (wishF (sC (rcAll last rs')) last c) c lo hi last j) (y : Int) :
    addS f (leftF (sC (rcAll last rs')) last c) (chgF rs last) last y = (btEnd (csP (chgF rs last) last c y)).1 := by
  have h0 : ∀ r ∈ rs, 0 ≤ r.2.1 := fun r hr2 => (hr r hr2).2.2.1
  have hne' : rs'.map (·.1) ≠ [] := fun z => hne (by
    have e := p.length_eq
    have e2 := congrArg List.length z
    rw [List.length_map] at e2
    exact List.eq_nil_of_length_eq_zero (by rw [← e]; exact e2))
  obtain ⟨lo, hlo1, hlo2⟩ : ∃ lo, lo ∈ rs'.map (·.1) ∧ ∀ z ∈ rs'.map (·.1), lo ≤ z := by
    clear hm
    generalize rs'.map (·.1) = l at hne'
    induction l with
    | nil => exact absurd rfl hne'
    | cons x l ih =>
      by_cases c0 : l = []
      · subst c0
        exact ⟨x, List.mem_cons_self, fun z hz => by rcases List.mem_cons.mp hz with rfl | hz; exact Int.le_refl _; nomatch hz⟩
      · obtain ⟨m, hm1, hm2⟩ := ih c0
        by_cases c1 : x ≤ m
        · exact ⟨x, List.mem_cons_self, fun z hz => by
            rcases List.mem_cons.mp hz with rfl | hz
            · exact Int.le_refl _
            · exact Int.le_trans c1 (hm2 z hz)⟩
        · exact ⟨m, List.mem_cons_of_mem _ hm1, fun z hz => by
            rcases List.mem_cons.mp hz with rfl | hz
            · omega
            · exact hm2 z hz⟩
  obtain ⟨hi, hhi1, hhi2⟩ : ∃ hi, hi ∈ rs'.map (·.1) ∧ ∀ z ∈ rs'.map (·.1), z ≤ hi := by
    clear hm hlo1 hlo2
    generalize rs'.map (·.1) = l at hne'
    induction l with
    | nil => exact absurd rfl hne'
    | cons x l ih =>
      by_cases c0 : l = []
      · subst c0
        exact ⟨x, List.mem_cons_self, fun z hz => by rcases List.mem_cons.mp hz with rfl | hz; exact Int.le_refl _; nomatch hz⟩
      · obtain ⟨m, hm1, hm2⟩ := ih c0
        by_cases c1 : m ≤ x
        · exact ⟨x, List.mem_cons_self, fun z hz => by
            rcases List.mem_cons.mp hz with rfl | hz
            · exact Int.le_refl _
            · exact Int.le_trans (hm2 z hz) c1⟩
        · exact ⟨m, List.mem_cons_of_mem _ hm1, fun z hz => by
            rcases List.mem_cons.mp hz with rfl | hz
            · omega
            · exact hm2 z hz⟩
  have met := hm lo hi (fun r hr2 => ⟨hlo2 _ (List.mem_map.mpr ⟨r, hr2, rfl⟩), hhi2 _ (List.mem_map.mpr ⟨r, hr2, rfl⟩)⟩) (let ⟨r, h1, h2⟩ := List.mem_map.mp hlo1; ⟨r, h1, h2⟩) (let ⟨r, h1, h2⟩ := List.mem_map.mp hhi1; ⟨r, h1, h2⟩)
  refine add_worst (col_of o hcol) hc (chgF rs last) last y (S := wishF (sC (rcAll last rs')) last c) (lo := lo) (hi := hi) (fun i hi2 => ?_) ?_ met fun t ht hy => ?_
  · unfold wishF ticksF
    rw [csL_chg c y p h0]
    refine decide_eq_decide.mpr ⟨fun z => ?_, fun z => List.mem_map.mpr ⟨i, z, rfl⟩⟩
    obtain ⟨j, hj, e⟩ := List.mem_map.mp z
    unfold tickAt at e
    have : j = i := by omega
    rw [← this]
    exact hj
  · unfold leftF
    rw [csL_chg c y p h0]
    unfold sgB
    have := btSign_or (csP (chgF rs last) last c y)
    by_cases q : btSign (csP (chgF rs last) last c y) = -1
    · rw [if_pos (decide_eq_true q), q]
    · rw [if_neg (by rw [decide_eq_false q]; decide)]
      omega
  · show chgI rs last y ((t : Int)).toNat = 0
    rw [Int.toNat_natCast]
    exact chgI_out (lo := lo) (hi := hi) (fun r hr2 => ⟨hlo2 _ (List.mem_map.mpr ⟨r, p.mem_iff.mpr hr2, rfl⟩), hhi2 _ (List.mem_map.mpr ⟨r, p.mem_iff.mpr hr2, rfl⟩), (hr r hr2).2.2.2.1⟩) hy
/-- the lefts of a worst start: the reach by them is the reach -/
theorem high_worst {rs rs' : List (Int × Int × Int)} {last : Nat} {c : Int} (p : rs'.Perm rs) (h0 : ∀ r ∈ rs, 0 ≤ r.2.1) : (wS fun y => gf (sgB (leftF (sC (rcAll last rs')) last c y)) (csP (chgF rs last) last c y)) = reachP rs last c := by
  unfold reachP
  congr 1
  funext y
  have e : sgB (leftF (sC (rcAll last rs')) last c y) = btSign (csP (chgF rs last) last c y) := by
    unfold leftF
    rw [csL_chg c y p h0]
    unfold sgB
    have := btSign_or (csP (chgF rs last) last c y)
    by_cases q : btSign (csP (chgF rs last) last c y) = -1
    · rw [if_pos (decide_eq_true q), q]
    · rw [if_neg (by rw [decide_eq_false q]; decide)]
      omega
  rw [e, gf_bt]
end K86
end
section
set_option Elab.async false
set_option linter.all false
set_option maxRecDepth 100000
namespace K86
open PySem PySem.Spec PyProof.Rows L2
open C8 (Cal Met Mak pe_c pe_mk pe_mt pe_mt0)
section
variable {X : Cx}
theorem call_repr_bl : CallR X (.builtin "repr") (fun xs H Q => ∃ b, xs = [.bl b] ∧ Q (.str (if b = true then "True" else "False")) H) := by
  intro pins s σ H xs us Q I r h
  obtain ⟨b, rfl, q⟩ := h
  obtain ⟨u, rfl, t⟩ := vals1 r
  cases t
  exact PySem.P.repr_of_bool ⟨.str _, H, I.tok _, ⟨_, rfl⟩, q⟩
end
section
variable {K : PySem.W.Frag} {H H' : Hp} {h k0 : Addr} {n : Nat}
theorem HorV.at {b : Addr} {u : HO} (hv : HorV H h k0 n) (x : Ex [h] H H') (hb : H b = some u) (hu : ∀ xs, u ≠ .lst xs) : H' b = some u := x b u (fun z => by
  obtain ⟨_, _, _, q, _⟩ := hv
  rw [List.mem_singleton.mp z, q] at hb
  exact hu _ (Option.some.inj hb).symm) hb
theorem IsLook.exl {v : V} {rs : List (Int × Int × Int)} {last c : Int} (hv : HorV H h k0 n) (x : Ex [h] H H') (q : IsLook K H v rs last c) : IsLook K H' v rs last c := by
  obtain ⟨p, dx, fs, t, ts, rfl, h1, h2, h3, h4, h5, h6⟩ := q
  exact ⟨p, dx, fs, t, ts, rfl, hv.at x h1 (fun xs z => nomatch z), h2, h3, h4, (hv.im x).sqt h5, h6.im (hv.im x)⟩
theorem IsWorst.exl {v : V} {ps : List (Int × Int)} {ns : List Int} (hv : HorV H h k0 n) (x : Ex [h] H H') (q : IsWorst K H v ps ns) : IsWorst K H' v ps ns := by
  obtain ⟨p, dx, fs, u, u2, rfl, h1, h2, h3, h4, h5⟩ := q
  exact ⟨p, dx, fs, u, u2, rfl, hv.at x h1 (fun xs z => nomatch z), h2, h3, h4.im (hv.im x), h5.im (hv.im x)⟩
theorem last_of {rs rs' : List (Int × Int × Int)} {last : Nat} {l : Int} (p : rs'.Perm rs) (srt : rs'.Pairwise rwLe) (hr : ∀ r ∈ rs, r.2.1 ≤ last) (hx : ∃ r ∈ rs, r.2.1 = (last : Int)) (e : (rs'.map (·.2.1)).getLast? = some l) : l = last := by
  obtain ⟨r, hr1, hr2⟩ := hx
  have hm := List.mem_of_getLast? e
  obtain ⟨q, hq, eq⟩ := List.mem_map.mp hm
  have h1 : l ≤ last := by rw [← eq]; exact hr q (p.mem_iff.mp hq)
  have h2 : ∀ z ∈ rs'.map (·.2.1), z ≤ l := by
    have srt2 : (rs'.map (·.2.1)).Pairwise (· ≤ ·) := by
      rw [List.pairwise_map]
      exact srt.imp fun hab => by rcases hab with z | ⟨z, _⟩ <;> omega
    clear hm h1 eq hq
    generalize rs'.map (·.2.1) = m at e srt2
    intro z hz
    obtain ⟨m', rfl⟩ : ∃ m', m = m' ++ [l] := by
      rw [List.getLast?_eq_some_iff] at e
      exact e
    rcases List.mem_append.mp hz with hz | hz
    · exact (List.pairwise_append.mp srt2).2.2 z hz l (List.mem_singleton.mpr rfl)
    · rw [List.mem_singleton.mp hz]; exact Int.le_refl _
  have h3 := h2 _ (List.mem_map.mpr ⟨r, p.mem_iff.mpr hr1, rfl⟩)
  have h4 : r.2.1 ≤ l := h3
  omega
theorem draw_ok {ps : List (Int × Int)} {c : Int} (hnd : (keysL ps).Nodup) (hps : ∀ q ∈ ps, -13 ≤ q.1 ∧ q.1 ≤ 13 ∧ q.1 % 2 = c ∧ 1 ≤ q.2 ∧ q.2 ≤ 10 ^ 60) : HpsOk 13 ps (at0 ps) ∧ ∀ y, at0 ps y ≤ 10 ^ 60 := by
  have key : ∀ y, 0 ≤ at0 ps y ∧ at0 ps y ≤ 10 ^ 60 := fun y => by
    unfold at0
    cases e : getL ps y with
    | none => exact ⟨Int.le_refl _, by decide⟩
    | some v =>
      have := hps _ (getL_mem e)
      exact ⟨by show 0 ≤ v; omega, this.2.2.2.2⟩
  refine ⟨⟨hnd, fun _ => rfl, fun y => (key y).1, fun y hy => ?_⟩, fun y => (key y).2⟩
  obtain ⟨q, hq, rfl⟩ := List.mem_map.mp hy
  have := hps q hq
  show -((13 : Nat) : Int) ≤ q.1 ∧ q.1 ≤ (13 : Nat)
  omega
theorem left_ok {ns : List Int} (hnd : ns.Nodup) (hns : ∀ y ∈ ns, -13 ≤ y ∧ y ≤ 13) : LfsOk 13 ns fun y => decide (y ∈ ns) := ⟨hnd, fun y => ⟨fun z => decide_eq_true z, fun z => of_decide_eq_true z⟩, fun y hy => by have := hns y hy; omega⟩
end
section
variable {P : Program} {w : World} {K : PySem.W.Frag} {mg : Str → Option Value} {base : Heap}
def spLaw (K : PySem.W.Frag) : Sp := fun vs H Q _ => ∃ (a : Addr) (ns : List Int), vs = [.ref a] ∧ SqL K H a (ns.map V.int) ∧ ns.length ≤ 63 ∧ RetV H Q fun v _ => v = .bl true
abbrev LawFn (K : PySem.W.Frag) (fd : FuncData) : Prop := L2.FunD K "law" "law" (defArgs s_law) (defBody s_law) (defScope s_law) [] [] (He.ga K "law") fd
theorem def_law (T : Txt P K mg) : ∃ fd, LawFn K fd := T.says.def_ (d := d_law) 80 rfl
theorem f_law {k : Nat} {sp : Sp} {fd : FuncData} (F : LawFn K fd) (len : ∀ vs H Q E, sp vs H Q E → vs.length = 1)
    (hbody : ∀ (cdv : Value) (A : Around) (outer : List Env) (s : Shared) (H : Hp) (vs : List V) (Q : VK) (E : XK), Room k (A.deeper (envOfC "law" (defScope s_law) s.heap.objs.size (He.ga K "law") cdv)) → sp vs H Q E →
      ∃ t, PSs (cxOf CX0 P w K mg base n_law "law" (defScope s_law) (He.ga K "law") cdv A outer s H E).nox (defBody s_law) t ∧ t { nx := fun _ H' => Q .non H', rt := Q } (start n_law vs) H) : FnOk P w K mg base CX0 (k + 1) (He.ga K "law") fd p_law sp := by
  refine F.ok sc_law len fun cdv A outer s H vs Q E hr hsp => ?_
  obtain ⟨t, h, q⟩ := hbody cdv A outer s H vs Q E hr hsp
  exact ⟨t, h.nox, q⟩
theorem ok_law (T : Txt P K mg) {fd : FuncData} (F : LawFn K fd) : FnOk P w K mg base CX0 12 (He.ga K "law") fd p_law (spLaw K) := by
  have h_L_horizon := ok_L_horizon (P := P) (w := w) (base := base) T
  have h_L_one := ok_L_one (P := P) (w := w) (base := base) T
  have h_L_rows := ok_L_rows (P := P) (w := w) (base := base) T
  have h_Look := ok_Look_init (P := P) (w := w) (base := base) T
  have h_reach_of := ok_reach_of (P := P) (w := w) (base := base) T
  have h_worst_start := ok_worst_start (P := P) (w := w) (base := base) T
  have h_L_start := ok_L_start (P := P) (w := w) (base := base) T
  have h_L_gap := ok_L_gap (P := P) (w := w) (base := base) T
  have h_reach_by := ok_reach_by (P := P) (w := w) (base := base) T
  have h_L_is_within := ok_L_is_within (P := P) (w := w) (base := base) T
  have h_look_gap := ok_look_gap (P := P) (w := w) (base := base) T
  have h_shows_worst := ok_shows_worst (P := P) (w := w) (base := base) T
  have h_worst_by := ok_worst_by (P := P) (w := w) (base := base) T
  have h_Worst := ok_Worst (P := P) (w := w) (base := base) T
  have h_L_added := ok_L_added (P := P) (w := w) (base := base) T
  refine f_law F (fun vs H Q E h => ?_) fun cdv A outer s H vs Q E hr h => ?_
  · obtain ⟨a, ns, rfl, _⟩ := h
    rfl
  obtain ⟨a, ns, rfl, ha, hl, hQ⟩ := h
  refine ⟨_, (pss_cons (ps_set (i := 1) sc_law.nd rfl (by first | exact Or.inl rfl | exact Or.inr rfl) (pe_c h_L_horizon hr (by decide) (by rfl) (pa_cons (pv 0) pa_nil)))
      (pss_cons (ps_set (i := 2) sc_law.nd rfl (by first | exact Or.inl rfl | exact Or.inr rfl) (pe_c h_L_one hr (by decide) (by rfl) (pa_cons (pv 1) (pa_cons (pe_lst (pa_cons pe_int (pa_cons pe_int (pa_cons pe_int (pa_cons pe_int (pa_cons pe_int (pa_cons pe_int pa_nil))))))) pa_nil))))
      (pss_cons (ps_set (i := 3) sc_law.nd rfl (by first | exact Or.inl rfl | exact Or.inr rfl) (pe_c h_L_rows hr (by decide) (by rfl) (pa_cons (pv 1) (pa_cons pe_int (pa_cons (pv 2) pa_nil)))))
      (pss_cons (ps_set (i := 4) sc_law.nd rfl (by first | exact Or.inl rfl | exact Or.inr rfl) (pe_mk h_Look hr (by decide) (by rfl) (pa_cons (pv 3) pa_nil)))
      (pss_cons (ps_par (i := 5) (j := 6) rfl sc_law.nd rfl rfl (by decide) rfl rfl (pa_cons (pe_c h_reach_of hr (by decide) (by rfl) (pa_cons (pv 4) pa_nil)) (pa_cons (pe_c h_worst_start hr (by decide) (by rfl) (pa_cons (pv 4) pa_nil)) pa_nil)) (by rfl))
      (pss_cons (ps_set (i := 7) sc_law.nd rfl (by first | exact Or.inl rfl | exact Or.inr rfl) (pe_tup (pa_cons (pe_un un_neg (pe_ix (r := rIxT K) ix_tup (pv 5) pe_int (fun _ _ => rfl))) (pa_cons (pe_ix (r := rIxT K) ix_tup (pv 5) pe_int (fun _ _ => rfl)) pa_nil))))
      (pss_cons (ps_for PassesOwn.never rfl (pi_range1 rfl (z_range T) (pa_cons pe_int pa_nil)) (pg_name (i := 8) sc_law.nd rfl (by first | exact Or.inl rfl | exact Or.inr rfl))
      (pss_cons (ps_asg (pe_c h_L_start hr (by decide) (by rfl) (pa_cons (pv 1) (pa_cons (pe_fld (pv 4) rfl) pa_nil))) (pg_tup rfl (pgs_cons (pg_name (i := 9) sc_law.nd rfl (by first | exact Or.inl rfl | exact Or.inr rfl)) (pgs_cons (pg_name (i := 10) sc_law.nd rfl (by first | exact Or.inl rfl | exact Or.inr rfl)) pgs_nil))))
      (pss_cons (ps_par (i := 11) (j := 12) rfl sc_law.nd rfl rfl (by decide) rfl rfl (pa_cons (pe_c h_L_gap hr (by decide) (by rfl) (pa_cons (pv 3) (pa_cons (pv 9) (pa_cons (pv 10) (pa_cons (pv 2) pa_nil))))) (pa_cons (pe_c h_reach_by hr (by decide) (by rfl) (pa_cons (pv 4) (pa_cons (pv 10) pa_nil))) pa_nil)) (by rfl))
      (pss_cons (ps_if (PW.pt (pw_or (pt_not (pt_val (pe_c h_L_is_within hr (by decide) (by rfl) (pa_cons (pv 7) (pa_cons (pv 11) (pa_cons (pv 5) (pa_cons (pv 2) pa_nil))))))) (pw_or1 (pt_not (pt_val (pe_c h_L_is_within hr (by decide) (by rfl) (pa_cons (pe_ix (r := rIxT K) ix_tup (pv 12) pe_int (fun _ _ => rfl)) (pa_cons (pv 11) (pa_cons (pe_ix (r := rIxT K) ix_tup (pv 12) pe_int (fun _ _ => rfl)) (pa_cons (pv 2) pa_nil)))))))))) (pss_one (ps_ret pe_bl)) pss_nil)
      (pss_cons (ps_set (i := 13) sc_law.nd rfl (by first | exact Or.inl rfl | exact Or.inr rfl) (pe_c h_look_gap hr (by decide) (by rfl) (pa_cons (pv 4) (pa_cons (pv 9) (pa_cons (pv 10) pa_nil)))))
      (pss_cons (ps_if (PW.pt (pw_or (pt_cmpR op_ne (pe_op op_shlW (pe_ix (r := rIxT K) ix_tup (pv 13) pe_int (fun _ _ => rfl)) (pv 2)) (pe_op op_mul (pv 11) (pe_ix (r := rIxT K) ix_tup (pv 13) pe_int (fun _ _ => rfl))) (nomark _)) (pw_or1 (pt_cmpR op_ne (pe_callB call_repr_bl (by rfl) (z_repr T) (by decide +kernel) (pa_cons (pe_c h_shows_worst hr (by decide) (by rfl) (pa_cons (pv 4) (pa_cons (pe_wmk h_Worst hr (by decide) (by rfl) (g_Worst T) (pa_cons (pv 9) (pa_cons (pv 10) pa_nil))) pa_nil))) pa_nil)) (pe_callB call_repr_bl (by rfl) (z_repr T) (by decide +kernel) (pa_cons (pe_cmpR (op_eqD hr.units) (pv 13) (pv 5) (nomark _)) pa_nil)) (nomark _))))) (pss_one (ps_ret pe_bl)) pss_nil)
      (pss_one (ps_if (pt_not (pt_val (pe_c h_L_is_within hr (by decide) (by rfl) (pa_cons (pv 7) (pa_cons (pe_c h_L_gap hr (by decide) (by rfl) (pa_cons (pv 3) (pa_cons (pe_fld (pe_c h_worst_by hr (by decide) (by rfl) (pa_cons (pv 4) (pa_cons (pv 10) pa_nil))) rfl) (pa_cons (pv 10) (pa_cons (pv 2) pa_nil))))) (pa_cons (pe_ix (r := rIxT K) ix_tup (pv 12) pe_int (fun _ _ => rfl)) (pa_cons (pv 2) pa_nil))))))) (pss_one (ps_ret pe_bl)) pss_nil))))))))
      (pss_cons (ps_if (PW.pt (pw_or (pt_cmpR (op_neD hr.units) (pe_ix (r := rIxT K) ix_tup (pe_c h_reach_by hr (by decide) (by rfl) (pa_cons (pv 4) (pa_cons (pe_fld (pv 6) rfl) pa_nil))) pe_int (fun _ _ => rfl)) (pv 5) (nomark _)) (pw_or1 (pt_cmpR (op_neD hr.units) (pe_c h_look_gap hr (by decide) (by rfl) (pa_cons (pv 4) (pa_cons (pe_fld (pv 6) rfl) (pa_cons (pe_fld (pv 6) rfl) pa_nil)))) (pv 5) (nomark _))))) (pss_one (ps_ret pe_bl)) pss_nil)
      (pss_one (ps_ret (pe_c h_L_added hr (by decide) (by rfl) (pa_cons (pv 3) (pa_cons (pv 2) (pa_cons (pe_fld (pv 6) rfl) (pa_cons (pe_fld (pv 6) rfl) pa_nil))))))))))))))), ?_⟩
  refine ⟨_, rfl, a, ns, rfl, ha, hl, fun h k0 H1 s1 hh0 hv1 => ?_⟩
  refine ⟨_, rfl, by show 6 ≤ sizeLine; decide, fun LL hLL => ?_⟩
  have sL := same_new (o := .lst [.int 4, .int 5, .int 3, .int 6, .int 8, .int 2]) hLL
  have nLh : LL ≠ h := fun z => by
    obtain ⟨_, _, _, q, _⟩ := hv1
    rw [← z, hLL] at q
    nomatch q
  refine ⟨h, k0, LL, _, 0, rfl, upd_same, nLh, by show 1 ≤ 6; decide, by show 6 ≤ 1000; decide, hv1.mono sL (Nat.le_refl _), by decide, fun j v H2 hj ex2 hv2 => ?_⟩
  obtain ⟨last, rfl, hl2, hl8⟩ : ∃ last : Nat, v = .int last ∧ 2 ≤ last ∧ last ≤ 8 := by
    have hm := List.mem_of_getElem? hj
    simp only [List.mem_cons, List.not_mem_nil, or_false] at hm
    rcases hm with e | e | e | e | e | e
    · exact ⟨4, e, by decide, by decide⟩
    · exact ⟨5, e, by decide, by decide⟩
    · exact ⟨3, e, by decide, by decide⟩
    · exact ⟨6, e, by decide, by decide⟩
    · exact ⟨8, e, by decide, by decide⟩
    · exact ⟨2, e, by decide, by decide⟩
  have ex02 : Ex [h] H H2 := (Ex.of (s1.trans sL)).trans ex2
  refine ⟨_, rfl, _, rfl, h, k0, 1, last, rfl, hv2, by decide, hl2, hl8, fun H3 RA xs rs c ex3 hv3 hRA hRA0 hrw hc hr1 hr4 hin hnd hlast => ?_⟩
  have nRh : RA ≠ h := fun z => by
    obtain ⟨_, _, _, q, _⟩ := hv2
    rw [← z, hRA0] at q
    nomatch q
  have ex03 := ex02.trans ex3
  have hin1 : ∀ r ∈ rs, rowIn last r := fun r hr => (hin r hr).1
  have h0r : ∀ r ∈ rs, 0 ≤ r.2.1 := fun r hr => (hin1 r hr).2.2.1
  refine ⟨_, rfl, fun x dx hx hdx hne => ?_⟩
  have sD := same_new (o := .own x) hdx
  have hx' : upd H3 dx (.own x) x = none := by rw [upd_ne hne.symm]; exact hx
  have sX := same_new (o := .ins (He.ga K "Look") dx []) hx'
  have sDX := sD.trans sX
  refine ⟨x, dx, RA, true, xs, rs, c, rfl, upd_same, .inl (.inl (sDX _ _ hRA)), hrw.im (Im.of sDX), ⟨hr1, by omega, fun r hr => ?_, hnd⟩, fun r hr => (hin r hr).2.1, fun H4 rs' last' keep pm srt glast hlk => ?_⟩
  · obtain ⟨⟨q1, q2, q3, q4, q5, q6⟩, q7, q8⟩ := hin r hr
    exact ⟨by omega, by omega, by omega, by omega, q5, q6, q8⟩
  obtain rfl := last_of pm srt (fun r hr => (hin1 r hr).2.2.2.1) hlast glast
  have s34 : Same H3 H4 := fun b o e => keep b o (ne_of_none e hx) (sDX b o e)
  have hrs' : ∀ r ∈ rs', rowIn last r := fun r hr => hin1 r (pm.mem_iff.mp hr)
  have hrl' : rs'.length = rs.length := pm.length_eq
  refine ⟨rfl, ?_⟩
  refine ⟨_, rfl, .ref x, rs', last, c, rfl, hlk, hl8, hrs', fun v5 H5 s5 h5 => ?_⟩
  refine ⟨_, rfl, .ref x, rs', last, c, rfl, IsLook.mono s5 hlk, hl2, hl8, by omega, by omega, hrs', hc, fun H6 v6 ps6 ns6 f6 s6 hw6 hf6 hst6 hL6 hmet => ?_⟩
  refine ⟨_, _, rfl, ?_⟩
  rw [reach_eq pm h0r] at h5
  obtain ⟨g5, rfl, hg5⟩ := h5.mono s6
  have s46 := s5.trans s6
  refine ⟨_, rfl, _, _, _, _, rfl, rfl, hg5, rfl, _, rfl, _, rfl, _, _, _, _, rfl, rfl, hg5, rfl, by show 2 ≤ sizeLine; decide, fun B hB => ?_⟩
  have sB := same_new (o := .tup [.int (-(frac last (reachP rs last c)).1), .int (frac last (reachP rs last c)).2]) hB
  have hBel : FrV K last (-(reachP rs last c)) (.ref B) (upd H6 B (.tup [.int (-(frac last (reachP rs last c)).1), .int (frac last (reachP rs last c)).2])) := by
    unfold FrV
    rw [frac_neg]
    exact P2.new upd_same
  have s4B := s46.trans sB
  have s3B := s34.trans s4B
  have hlkB := IsLook.mono s4B hlk
  have hwB := IsWorst.mono sB hw6
  have hg5B : FrV K last (reachP rs last c) (.ref g5) (upd H6 B (.tup [.int (-(frac last (reachP rs last c)).1), .int (frac last (reachP rs last c)).2])) := ⟨g5, rfl, Same.sqt sB hg5⟩
  have hRAB := s3B _ _ hRA
  have hrwB := hrw.im (Im.of s3B)
  have hvB := hv3.mono s3B (Nat.le_refl _)
  have ex0B := ex03.trans (Ex.of s3B)
  generalize upd H6 B (.tup [.int (-(frac last (reachP rs last c)).1), .int (frac last (reachP rs last c)).2]) = HB at hBel hlkB hwB hg5B hRAB hrwB hvB ex0B
  have rb := reach_bound hl8 hin1 (by omega) c
  refine ⟨_, rfl, by decide, by decide, ?_⟩
  rw [show ((4 : Int)).toNat = 4 from rfl]
  refine for_it walk_range (fun i σ H' => ∃ (e8 e9 e10 e11 e12 e13 : Option V), σ = [some (.ref a), some (.ref h), some (.int last), some (.ref RA), some (.ref x), some (.ref g5), some v6, some (.ref B), e8, e9, e10, e11, e12, e13] ∧ Ex [h] HB H' ∧ HorV H' h k0 (1 + 100 + 1000 * i))
    ⟨_, _, _, _, _, _, rfl, Ex.refl _ _, hvB⟩ (fun _ _ _ _ _ => True.intro) ?_ ?_
  · rintro i z σ H7 H8 hi ⟨e8, e9, e10, e11, e12, e13, rfl, exC, hvC⟩ ⟨rfl, hxv⟩
    have hlkC := IsLook.exl hvB exC hlkB
    obtain ⟨lp, ldx, lfs, lt, lts, elp, hlp, fl1, fl2, fl3, hlt, hlr⟩ := id hlkC
    cases elp
    refine ⟨_, rfl, _, rfl, x, _, ldx, lfs, _, rfl, hlp, cl_Look T, no_Look_colour T, fl3, h, k0, _, c, rfl, hvC, by omega, hc, fun H9 p a1 a2 ys ps ns ex9 hv9 hp ha1 hys ha2 ha10 ha20 hnd9 hps9 hns9 hnb9 => ?_⟩
    refine ⟨p, _, rfl, .inl (.inl hp), rfl, _, _, rfl, _, _, rfl, rfl, ?_⟩
    have exD := exC.trans ex9
    have hlkD := IsLook.exl hvB exD hlkB
    have hRAD : H9 RA = some (.lst xs) := exD RA _ (by simp [nRh]) hRAB
    have hrwD := hrwB.im (hvB.im exD)
    have hg5D : FrV K last (reachP rs last c) (.ref g5) H9 := hg5B.im (hvB.im exD)
    have hBelD : FrV K last (-(reachP rs last c)) (.ref B) H9 := hBel.im (hvB.im exD)
    obtain ⟨hh, hM⟩ := draw_ok hnd9 hps9
    have hLF := left_ok hns9 hnb9
    have hcolp : ∀ q ∈ ps, q.1 % 2 = c := fun q hq => (hps9 q hq).2.2.1
    have hcol := col_of hh hcolp
    have hpl := hh.len
    have hnl := span_len hLF.nd hLF.span
    have hst : startOk ps c ns := ⟨⟨by omega, fun q hq => by have := hps9 q hq; exact ⟨by omega, by omega, by omega, by omega⟩, hnd9⟩, hcolp, ⟨by omega, fun y hy => by have := hnb9 y hy; omega, hns9⟩⟩
    have eG := gapTo_eq (L := fun y => decide (y ∈ ns)) hh (by decide) hl8 hin1
    have eI := gapI_eq (L := fun y => decide (y ∈ ns)) hh (by decide) hl8 pm hin1
    have eLo := low_eq (last := last) (c := c) pm h0r hLF
    have eHi := high_eq (last := last) (c := c) pm h0r hLF
    have eR := reach_eq (last := last) (c := c) pm h0r
    have q1 := add_ge_bt (L := fun y => decide (y ∈ ns)) hcol hc (chgF rs last) last
    have q2 := add_le_bt (L := fun y => decide (y ∈ ns)) hcol hc (chgF rs last) last
    have q3 := add_ge_gf (L := fun y => decide (y ∈ ns)) hcol hc (chgF rs last) last
    have q4 := add_le_gf (L := fun y => decide (y ∈ ns)) hcol hc (chgF rs last) last
    have bLo := low_bound hl8 hin1 (by omega) c fun y => decide (y ∈ ns)
    have bHi := high_bound hl8 hin1 (by omega) c fun y => decide (y ∈ ns)
    refine ⟨_, rfl, _, rfl, _, rfl, _, rfl, RA, xs, rs, last, a1, true, ys, ps, a2, ns, 13, _, _, rfl, hRAD, hrwD, by omega, hl8, hin1, .inl (.inl ha1), hys, .inl (.inl ha2), by decide, hh, hLF, hM, fun v H10 s10 hv10 => ?_⟩
    subst hv10
    refine ⟨_, rfl, _, rfl, .ref x, rs', last, c, a2, true, ns, rfl, IsLook.mono s10 hlkD, hl8, hrs', .inl (.inl (s10 _ _ ha2)), hst.2.2, fun v11 H11 s11 h11 => ?_⟩
    obtain ⟨tb, bx, by_, rfl, htb, hbx, hby⟩ := h11
    refine ⟨_, _, rfl, ?_⟩
    rw [eLo] at hbx
    rw [eHi] at hby
    rw [eG]
    have s9b := s10.trans s11
    -- within the reach, within the reaches by lefts
    change -(reachP rs last c) ≤ _ at q1
    change _ ≤ reachP rs last c at q2
    generalize hGd : wS (addS (at0 ps) (fun y => decide (y ∈ ns)) (chgF rs last) last) = GG at *
    refine ⟨_, rfl, _, rfl, _, rfl, _, rfl, last, -(reachP rs last c), reachP rs last c, GG, .ref B, .ref g5, rfl, hl8, hBelD.mono s9b, hg5D.mono s9b, small_pow (by omega), small_pow rb, _, rfl, ?_⟩
    rw [decide_eq_true q1, decide_eq_true q2]
    refine iteF ⟨_, rfl, tb, _, _, _, rfl, rfl, htb, rfl, _, rfl, _, rfl, tb, _, _, _, rfl, rfl, htb, rfl, _, rfl, last, _, _, GG, bx, by_, rfl, hl8, hbx, hby, small_pow bLo, small_pow bHi, _, rfl, ?_⟩
    rw [decide_eq_true q3, decide_eq_true q4]
    refine iteF ?_
    have hlk11 := IsLook.mono s9b hlkD
    have hys11 := hys.im (Im.of s9b)
    refine ⟨_, rfl, _, rfl, _, rfl, .ref x, rs', last, c, a1, true, ys, ps, a2, true, ns, 13, _, _, rfl, hlk11, hl8, hrs', srt, by omega, .inl (.inl (s9b _ _ ha1)), hys11, .inl (.inl (s9b _ _ ha2)), hst, by decide, hh, hLF, fun v12 H12 s12 h12 => ?_⟩
    rw [eI] at h12
    obtain ⟨g12, rfl, hg12⟩ := h12
    have s9c := s9b.trans s12
    have sm12 := frac_sm (show last ≤ 12 by omega) GG
    have bG : GG.natAbs ≤ 6000000000000 := by omega
    have cs : CShl (frac last GG).1 (last : Int) := shl_ok (n := 2000) (Nat.lt_of_le_of_lt (frac_abs last GG) (small_pow bG)) (by omega)
    refine ⟨_, rfl, g12, _, _, _, rfl, rfl, hg12, rfl, _, rfl, _, _, rfl, rfl, cs, _, rfl, _, rfl, g12, _, _, _, rfl, rfl, hg12, rfl, _, _, rfl, rfl, .inr ⟨by omega, by omega⟩, rfl, _, rfl, ?_⟩
    rw [show (!decide (V.int ((frac last GG).1 * 2 ^ ((last : Int)).toNat) = V.int (GG * (frac last GG).2))) = false by rw [Int.toNat_natCast, frac_self, decide_eq_true rfl]; rfl]
    refine iteF ⟨_, rfl, _, rfl, _, rfl, fun xx dxx hxx hdxx hnexx => ?_⟩
    have sD2 := same_new (o := .own xx) hdxx
    have hxx' : upd H12 dxx (.own xx) xx = none := by rw [upd_ne hnexx.symm]; exact hxx
    have sX2 := same_new (o := .ins (He.ga K "Worst") dxx []) hxx'
    have sDX2 := sD2.trans sX2
    have s9d := s9c.trans sDX2
    refine ⟨xx, dxx, a1, a2, true, true, ys, ps, ns, rfl, upd_same, .inl (.inl (s9d _ _ ha1)), hys.im (Im.of s9d), .inl (.inl (s9d _ _ ha2)), by omega, by omega, fun H13 keep13 hw13 => ⟨rfl, ?_⟩⟩
    have s1213 : Same H12 H13 := fun b o e => keep13 b o (ne_of_none e hxx) (sDX2 b o e)
    have s9e := s9c.trans s1213
    refine ⟨.ref x, .ref xx, rs', last, c, ps, ns, 13, _, _, rfl, IsLook.mono s9e hlkD, hl8, hrs', srt, by omega, hw13, hst, by decide, hh, hLF, fun z14 H14 s14 hz14 => ?_⟩
    subst hz14
    refine ⟨_, rfl, ?_⟩
    have s9f := s9e.trans s14
    refine ⟨_, rfl, _, rfl, _, _, dp_tup (ns := [_, _]) (Same.sqt (s1213.trans s14) hg12), dp_tup (ns := [_, _]) (by obtain ⟨_, e, q⟩ := hg5D.mono s9f; cases e; exact q), shaped_tup _, shaped_tup _, ?_⟩
    rw [eqv_tup, frac_dec, eI, eR]
    refine ⟨_, rfl, rfl, _, rfl, ?_⟩
    rw [show ∀ u : Str, (!decide (V.str u = V.str u)) = false from fun u => by rw [decide_eq_true rfl]; rfl]
    refine iteF ?_
    refine ⟨_, rfl, _, rfl, _, rfl, _, rfl, .ref x, rs', last, c, a2, true, ns, _, rfl, IsLook.mono s9f hlkD, hl2, hl8, by omega, by omega, hrs', hc, .inl (.inl (s9f _ _ ha2)), hLF.up (by decide), fun H15 v15 psW nsW fW s15 hw15 hfW hpsW => ?_⟩
    obtain ⟨pW, dW, fsW, u1, u2, rfl, hpW, f1, f2, hu1, hu2⟩ := hw15
    obtain ⟨tW, ysW, rfl, htW, hysW⟩ := id hu1
    have htW := htW.sq (K := K)
    have s9g := s9f.trans s15
    have hMW : ∀ y, fW y ≤ 10 ^ 60 := fun y => by
      by_cases cy : y ∈ keysL psW
      · obtain ⟨q, hq, rfl⟩ := List.mem_map.mp cy
        rw [← hfW.mem hq]
        exact (hpsW q hq).2.1
      · rw [hfW.zero cy]; decide
    have hcolW := col_of hfW fun q hq => (hpsW q hq).2.2
    have eW := gapTo_eq (L := fun y => decide (y ∈ ns)) hfW (by decide) hl8 hin1
    have w1 := add_ge_bt (L := fun y => decide (y ∈ ns)) hcolW hc (chgF rs last) last
    have w2 := add_le_gf (L := fun y => decide (y ∈ ns)) hcolW hc (chgF rs last) last
    change -(reachP rs last c) ≤ _ at w1
    refine ⟨pW, _, dW, fsW, _, rfl, hpW, cl_Worst T, no_Worst_heaps T, f1, _, rfl, _, rfl, RA, xs, rs, last, tW, false, ysW, psW, a2, ns, 40, _, _, rfl, s9g _ _ hRAD, hrwD.im (Im.of s9g), by omega, hl8, hin1, htW, hysW, .inl (.inl (s9g _ _ ha2)), by decide, hfW, hLF.up (by decide), hMW, fun v16 H16 s16 hv16 => ?_⟩
    subst hv16
    rw [eW]
    generalize wS (addS fW (fun y => decide (y ∈ ns)) (chgF rs last) last) = GW at w1 w2
    have s9h := s9g.trans s16
    have s11h := s12.trans (s1213.trans (s14.trans (s15.trans s16)))
    refine ⟨_, rfl, tb, _, _, _, rfl, rfl, Same.sqt s11h htb, rfl, _, rfl, last, _, _, GW, .ref B, by_, rfl, hl8, hBelD.mono s9h, hby.mono s11h, small_pow (by omega), small_pow bHi, _, rfl, ?_⟩
    rw [decide_eq_true w1, decide_eq_true w2]
    refine iteF ?_
    exact ⟨_, _, _, _, _, _, rfl, exD.trans (Ex.of s9h), hv9.mono s9h (by omega)⟩
  · rintro σ H7 ⟨e8, e9, e10, e11, e12, e13, rfl, exC, hvC⟩
    have hlkC := IsLook.exl hvB exC hlkB
    have hwC := IsWorst.exl hvB exC hwB
    have hg5C := hg5B.im (hvB.im exC)
    have hRAC : H7 RA = some (.lst xs) := exC RA _ (by simp [nRh]) hRAB
    have hrwC := hrwB.im (hvB.im exC)
    obtain ⟨pW, dW, fsW, u1, u2, rfl, hpW, f1, f2, hu1, hu2⟩ := id hwC
    obtain ⟨tW, ysW, rfl, htX, hysW⟩ := id hu1
    have htW := htX.sq (K := K)
    obtain ⟨tL, rfl, htL⟩ := id hu2
    have hcol6 := col_of hf6 hst6.2.1
    have hne : rs ≠ [] := fun z => by rw [z] at hr1; exact absurd hr1 (by decide)
    have hadd := worst_adds hc pm hin1 hne hf6 hst6.2.1 hmet
    refine ⟨_, rfl, _, rfl, pW, _, dW, fsW, _, rfl, hpW, cl_Worst T, no_Worst_lefts T, f2, .ref x, rs', last, c, tL, false, ns6, rfl, hlkC, hl8, hrs', htL, hst6.2.2, fun v8 H8 s8 h8 => ?_⟩
    obtain ⟨tb, bx, by_, rfl, htb, hbx, hby⟩ := h8
    rw [high_eq pm h0r hL6, high_worst pm h0r] at hby
    obtain ⟨gy, rfl, hgy⟩ := hby
    obtain ⟨_, e5, hg5D⟩ := id hg5C
    cases e5
    refine ⟨tb, _, _, _, rfl, rfl, htb, rfl, _, rfl, _, _, dp_tup (ns := [_, _]) hgy, dp_tup (ns := [_, _]) (Same.sqt s8 hg5D), shaped_tup _, shaped_tup _, _, rfl, ?_⟩
    rw [eqv_tup, decide_eq_true rfl]
    refine iteF ⟨_, rfl, _, rfl, pW, _, dW, fsW, _, rfl, s8 _ _ hpW, cl_Worst T, no_Worst_heaps T, f1, _, rfl, pW, _, dW, fsW, _, rfl, s8 _ _ hpW, cl_Worst T, no_Worst_lefts T, f2, ?_⟩
    refine ⟨.ref x, rs', last, c, tW, false, ysW, ps6, tL, false, ns6, 40, f6, _, rfl, IsLook.mono s8 hlkC, hl8, hrs', srt, by omega, Same.sqt s8 htW, hysW.im (Im.of s8), Same.sqt s8 htL, hst6, by decide, hf6, hL6, fun v9 H9 s9 h9 => ?_⟩
    rw [gapI_eq hf6 (by decide) hl8 pm hin1, show wS (addS f6 (leftF (sC (rcAll last rs')) last c) (chgF rs last) last) = reachP rs last c from congrArg wS (funext hadd)] at h9
    obtain ⟨gz, rfl, hgz⟩ := h9
    have s89 := s8.trans s9
    refine ⟨_, rfl, _, _, dp_tup (ns := [_, _]) hgz, dp_tup (ns := [_, _]) (Same.sqt s89 hg5D), shaped_tup _, shaped_tup _, _, rfl, ?_⟩
    rw [eqv_tup, decide_eq_true rfl]
    refine iteF ⟨_, rfl, _, rfl, _, rfl, pW, _, dW, fsW, _, rfl, s89 _ _ hpW, cl_Worst T, no_Worst_heaps T, f1, _, rfl, pW, _, dW, fsW, _, rfl, s89 _ _ hpW, cl_Worst T, no_Worst_lefts T, f2, ?_⟩
    refine ⟨RA, xs, rs, last, c, tW, ysW, ps6, tL, ns6, f6, _, rfl, s89 _ _ hRAC, hrwC.im (Im.of s89), hr1, by omega, hl8, fun r hr => ⟨(hin r hr).1, (hin r hr).2.1⟩, hc, htX.mono s89, hysW.im (Im.of s89), Same.sqt s89 htL, hf6, hL6, hcol6, hadd, fun v10 H10 s10 hv10 => ?_⟩
    subst hv10
    exact hQ _ _ (Ex.same (Same.refl H) (fun d hd => by rw [List.mem_singleton.mp hd]; exact hh0) ((ex0B.trans exC).trans (Ex.of (s89.trans s10)))) rfl
end
end K86
end
set_option Elab.async false
set_option linter.all false
set_option maxRecDepth 100000
set_option maxHeartbeats 0
namespace K86
open PySem PySem.Spec PyProof.Rows L2
theorem band {a b : Bool} (h : (a && b) = true) : a = true ∧ b = true := Bool.and_eq_true_iff.mp h
theorem w_found {K : PySem.W.Frag} (h1 : wCellB K = true) (h3 : wFn K = wVal) : ∃ (oc kV doc pm ct ccl cl : Value) (od an cdd cld : Option Addr) (osl ccs csl : Array (Option Value)) (cc cda : Addr) (vs : Array Value) (tf : Tok),
    K.lookup (wAd K) = some ⟨oc, od, .func (PySem.W.fnX "__init__" "Worst.__init__" (defArgs s_Worst_init) (defBody s_Worst_init) (defScope s_Worst_init) [("__class__", cc)] .none kV doc pm an (.ref cda) ct), osl⟩ ∧
    PySem.W.codeIn K (.ref cda) "Worst.__init__" = true ∧ K.lookup cda = some ⟨ccl, cdd, .fields vs, ccs⟩ ∧ vs[2]? = some (.str wFile tf) ∧
    K.lookup cc = some ⟨cl, cld, .cell (some (.ref (He.ga K "Worst"))), csl⟩ := by
  unfold wFn at h3
  unfold wCellB at h1
  cases q : K.lookup (wAd K) with
  | none =>
    rw [q] at h1
    cases h1
  | some o =>
    obtain ⟨oc, od, dt, osl⟩ := o
    rw [q] at h1 h3
    cases dt with
    | func fd =>
      obtain ⟨name, qual, params, body, scope, globals, closure, defaults, kV, doc, pm, an, code, ct, blt⟩ := fd
      have h4 := Option.some.inj h3
      dsimp only at h4
      obtain ⟨e1, h4⟩ := Prod.mk.inj h4
      obtain ⟨e2, h4⟩ := Prod.mk.inj h4
      obtain ⟨e3, h4⟩ := Prod.mk.inj h4
      obtain ⟨e4, h4⟩ := Prod.mk.inj h4
      obtain ⟨e5, h4⟩ := Prod.mk.inj h4
      obtain ⟨e6, h4⟩ := Prod.mk.inj h4
      obtain ⟨e7, e8⟩ := Prod.mk.inj h4
      dsimp only at h1
      obtain ⟨h5, h6⟩ := band h1
      obtain ⟨h7, h8⟩ := band h6
      subst e1 e2 e3 e4 e5 e6 e7 e8
      obtain ⟨cc, ec, cl, cld, csl, hcc⟩ : ∃ cc : Addr, closure = [(("__class__" : Str), cc)] ∧ ∃ cl cld csl, K.lookup cc = some ⟨cl, cld, .cell (some (.ref (He.ga K "Worst"))), csl⟩ := by
        split at h5
        · rename_i x c
          obtain ⟨h9, h10⟩ := band h5
          split at h10
          · rename_i cl cld a csl hc
            have e9 : x = ("__class__" : Str) := of_decide_eq_true h9
            have e10 : a = He.ga K "Worst" := Nat.eq_of_beq_eq_true h10
            subst e9 e10
            exact ⟨c, rfl, _, _, _, hc⟩
          · cases h10
        · cases h5
      subst ec
      split at h8
      · rename_i cda
        split at h8
        · rename_i ccl cdd vs ccs hcd
          split at h8
          · rename_i f tf hv
            have e11 : f = wFile := of_decide_eq_true h8
            subst e11
            exact ⟨_, kV, doc, pm, ct, _, _, _, an, _, _, _, _, _, cc, cda, vs, tf, rfl, h7, hcd, hv, hcc⟩
          · cases h8
        · cases h8
      · cases h8
    | _ => cases h1
theorem winit_of {K : PySem.W.Frag} (h1 : wCellB K = true) (h2 : upB K = true) (h3 : wFn K = wVal) : WInit R.prog K := by
  obtain ⟨a1, h2⟩ := band h2
  obtain ⟨a2, h2⟩ := band h2
  obtain ⟨a3, h2⟩ := band h2
  obtain ⟨a4, h2⟩ := band h2
  obtain ⟨a5, a6⟩ := band h2
  obtain ⟨oc, kV, doc, pm, ct, ccl, cl, od, an, cdd, cld, osl, ccs, csl, cc, cda, vs, tf, lk, hc, hcd, hv, hcc⟩ := w_found h1 h3
  cases hW : PySem.W.clsIn K (He.ga K "Worst") with
  | none =>
    rw [hW] at a1
    cases a1
  | some cdW =>
    refine ⟨by kernel_rfl, ⟨oc, kV, doc, pm, ct, ccl, cl, od, an, cdd, cld, osl, ccs, csl, cc, cda, vs, wFile, tf, cdW, lk, hc, hcd, hv, beq_self_eq_true _, hcc, hW⟩, of_decide_eq_true a2, He.eqO_ok a3, He.eqO_ok a4, a5, ?_⟩
    split at a6
    · rename_i n hn
      rw [show PySem.W.typeIn K (.ref (He.ma K (He.ga K "Paper") "__init__")) = some (.type n) from hn, of_decide_eq_true a6]
    · cases a6
theorem insC_of {K : PySem.W.Frag} {x : Str} (c : Cls K (He.ga K x)) (h : insB K x = true) : C8.InsC K (He.ga K x) := by
  obtain ⟨a1, h⟩ := band h
  obtain ⟨a2, a3⟩ := band h
  exact ⟨c, He.eqO_ok a1, by kernel_rfl, by kernel_rfl, of_decide_eq_true a2, of_decide_eq_true a3⟩
theorem txt_of {K : PySem.W.Frag} {mg : Str → Option Value} {h : Heap} (X : K.In h) (G : h.Ns mainGlobals mg) (c : He.SaysD facts fns K) (e : exB K = true) (h3 : wFn K = wVal) : Txt R.prog K mg := by
  obtain ⟨a1, e⟩ := band e
  obtain ⟨a2, e⟩ := band e
  obtain ⟨a3, e⟩ := band e
  obtain ⟨a4, e⟩ := band e
  obtain ⟨a5, a6⟩ := band e
  refine ⟨c, fun x k => He.glo_ok X G k, fun x k => He.free_ok X G k, fun x i k => He.int_ok X G k, ?_, insC_of (He.cls_ok (c.fact 111 (f := .cls "Look") (by rfl))) a5, insC_of (He.cls_ok (c.fact 115 (f := .cls "Worst") (by rfl))) a6, fun H => He.tupB_ok a2 H, winit_of a3 a4 h3⟩
  unfold gcdB at a1
  split at a1
  · rename_i b hb
    have eb : b = "math.gcd" := of_decide_eq_true a1
    subst eb
    exact PySem.W.mg_of X G hb
  · cases a1
theorem law_facts {w : World} {K : PySem.W.Frag} {mg : Str → Option Value} {h : Heap} {f : Addr} (X : K.In h) (G : h.Ns mainGlobals mg) (hfa : mg ("law" : Str) = some (.ref f)) (c : He.SaysD facts fns K) (e : exB K = true) (h3 : wFn K = wVal) :
    ∃ fd : FuncData, (∀ (s : Shared) (v : Value), BindsTo s fd ⟨[v], []⟩ [("_law_script", v)]) ∧ ∀ base : Heap, K.In base → base.Ns mainGlobals mg → FnOk R.prog w K mg base C8.CX0 12 f fd ["_law_script"] (spLaw K) := by
  have T := txt_of X G c e h3
  have e2 := hfa.symm.trans (g_law T)
  cases e2
  obtain ⟨fd, F⟩ := def_law T
  have b := L2.FunD.bindsA (ps := ["_law_script"]) F fun _ _ _ _ _ _ us hl => match us, hl with | [_], _ => rfl
  exact ⟨fd, fun s v => b s [v] rfl, fun base _ _ => ok_law T F⟩
end K86
open PySem PySem.W PySem.Calls PyProof.Rows
theorem PySem.Challenge.cw_nodice_k86_whole_no_start_beyond_a_reach_holds : PySem.Challenge.rw_nodice_k86_whole_no_start_beyond_a_reach.Holds := by
  w_on; o_law
  refine HandSHeadRun.head_imp (r := OpenLaw.row PySem.Challenge.rw_nodice_k86_whole_no_start_beyond_a_reach) (q := view (OpenLaw.row PySem.Challenge.rw_nodice_k86_whole_no_start_beyond_a_reach).prog [0, K86.lawAt]) (H := K86.hk) (ob := K86.ob) (M := 20000) (loose := K86.loose) (d := HandSHeadRun.topDef (OpenLaw.row PySem.Challenge.rw_nodice_k86_whole_no_start_beyond_a_reach).prog K86.lawAt) (kwd := []) K86.ob_eq K86.run (by kernel_rfl) (by kernel_rfl) (by kernel_rfl) (by rfl) (by first | assumption | decide +kernel) (by decide +kernel) ⟨rfl, rfl, rfl, rfl, rfl, by decide +kernel⟩ ?hw ?hc
  case hw => w_witness2
  case hc =>
    refine L2.walk_ofE (l := PySem.Challenge.rw_nodice_k86_whole_no_start_beyond_a_reach) (n := 63) (k := 12) (x := "_law_script") (CX := C8.CX0) rfl (by decide) (by kernel_rfl) ⟨rfl, by decide, by decide⟩ ?F (fun _ _ _ _ z => z)
    intro w mg fa h Y G hmg0
    obtain ⟨K, KX, c, e, h3⟩ := Y
    have hmg : mg ("law" : PySem.Str) = some (.ref fa) := by
      have e : (HandSHeadRun.topDef (OpenLaw.row PySem.Challenge.rw_nodice_k86_whole_no_start_beyond_a_reach).prog K86.lawAt).name = ("law" : PySem.Str) := by kernel_rfl
      rw [← e]
      exact hmg0
    obtain ⟨fd, hb, hF⟩ := K86.law_facts (w := w) KX G hmg c e h3
    exact ⟨K, fd, K86.spLaw K, KX, hb, fun H a ns hl _ hS => ⟨a, ns, rfl, hS, hl, fun _ _ _ z => z⟩, hF⟩
